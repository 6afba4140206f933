import PyProof.Rows.All
import Wide.All
import OpenK.AllK
import Wide.FinOn
import HandS.ForMost
import HandS.Exc
import HandS.Defaults
import HandS.TupAny
import HandS.Deep
import HandS.IsInst
import HandS.WideBits
import HandS.Zip
import KE.GoesMore
import HandS.More
import HandS.Codes
import HandS.WordsExc
import HandS.Head0
import HandS.Head1
import HandS.Head2
import HandS.HeadEnd
import HandS.HeadHook1
import HandS.HeadHook2
import HandS.HeadHook4
import PySem.Challenge.RW_darkbars_k04_whole_digits_of_glyphs_and
set_option Elab.async false
set_option linter.all false
set_option maxRecDepth 100000
namespace DB
open PySem

/-! ### data -/
/-- what a value is, without addresses: data that never changes -/
inductive D where
  | non | bl (b : Bool) | int (i : Int) | str (s : Str)
  | tup (xs : List D) | lst (xs : List D) | scr (xs : List D) | dct (kvs : List (D × D)) | obj (c : Nat) (fs : List D)

mutual
def D.toP : D → Option PyData
  | .non => some .none
  | .bl b => some (.bool b)
  | .int i => some (.int i)
  | .str s => some (.str s)
  | .tup xs => match D.toPs xs with | some ps => some (.tuple ps) | none => none
  | .lst xs => match D.toPs xs with | some ps => some (.list ps) | none => none
  | .scr _ => none
  | .dct _ => none
  | .obj _ _ => none
def D.toPs : List D → Option (List PyData)
  | [] => some []
  | d :: ds => match D.toP d, D.toPs ds with | some p, some ps => some (p :: ps) | _, _ => none
end

/-- == of data, where the model's rule serves it -/
def deq (a b : D) : Option Bool :=
  match a.toP, b.toP with
  | some p, some q => if (SeqAt.shaped p && SeqAt.shaped q) = true then some (PyData.eqv p q) else none
  | _, _ => none
/-- x in xs -/
def din (x : D) (xs : List D) : Option Bool :=
  match x.toP, D.toPs xs with
  | some p, some qs => if (SeqAt.shaped p && SeqAt.shaped (.list qs)) = true then some (qs.any fun q => PyData.eqv q p) else none
  | _, _ => none

/-! ### the monad -/
/-- what an expression hands back: data; a new list or dict that nobody else knows; a cell that may change -/
inductive R where
  | dat (d : D) | own (d : D) | cell (c : Nat)
structure Cel where
  d : D
  live : Bool
abbrev Sto := List Cel
abbrev Env := List (Option R)
inductive Res (α : Type) where
  | ok (a : α) (s : Sto)
  | err (c : Nat) (d : D) (s : Sto)
  | no
def M (α : Type) : Type := Sto → Res α
namespace M
def pure {α : Type} (a : α) : M α := fun s => .ok a s
def bind {α β : Type} (m : M α) (f : α → M β) : M β := fun s => match m s with
  | .ok a s' => f a s'
  | .err c d s' => .err c d s'
  | .no => .no
def no {α : Type} : M α := fun _ => .no
def get : M Sto := fun s => .ok s s
def put (s : Sto) : M Unit := fun _ => .ok () s
def opt {α : Type} : Option α → M α
  | some a => M.pure a
  | none => M.no
def guard (b : Bool) : M Unit := fun s => match b with
  | true => .ok () s
  | false => .no
end M
instance : Monad M where
  pure := M.pure
  bind := M.bind

/-- the content, read -/
def peek : R → M D
  | .dat d => pure d
  | .own d => pure d
  | .cell c => fun s => match s[c]? with
    | some ⟨d, _⟩ => .ok d s
    | none => .no
/-- handed on as data: a cell changes no more -/
def use : R → M D
  | .dat d => pure d
  | .own d => pure d
  | .cell c => fun s => match s[c]? with
    | some ⟨d, true⟩ => .ok d (s.set c ⟨d, false⟩)
    | some ⟨d, false⟩ => .ok d s
    | none => .no
/-- a live cell's content -/
def live : R → M (Nat × D)
  | .cell c => fun s => match s[c]? with
    | some ⟨d, true⟩ => .ok (c, d) s
    | _ => .no
  | _ => M.no
def write (c : Nat) (d : D) : M Unit := fun s => .ok () (s.set c ⟨d, true⟩)
def peeks : List R → M (List D)
  | [] => pure []
  | r :: rs => do let d ← peek r; let ds ← peeks rs; pure (d :: ds)
def uses : List R → M (List D)
  | [] => pure []
  | r :: rs => do let d ← use r; let ds ← uses rs; pure (d :: ds)

/-! ### operators -/
inductive Bop where
  | add | sub | mul | mod | fdiv | pow
  deriving DecidableEq
inductive Cop where
  | eq | ne | lt | le | gt | ge | mem | nmem
  deriving DecidableEq
def mulOk (i j : Int) : Bool := (decide (-(2 ^ 64) < i) && decide (i < 2 ^ 64)) || (decide (-(2 ^ 64) < j) && decide (j < 2 ^ 64))
def powOk (i j : Int) : Bool := decide (0 ≤ j) && (decide (j ≤ 1000000) && decide (i.natAbs < 2 ^ 64))
def lenOk (n : Nat) : Bool := decide (n ≤ sizeLine)
def binop : Bop → D → D → M R
  | .add, .int i, .int j => pure (.dat (.int (i + j)))
  | .add, .lst xs, .lst ys => do M.guard (lenOk (xs.length + ys.length)); pure (.own (.lst (xs ++ ys)))
  | .add, .tup xs, .tup ys => do M.guard (lenOk (xs.length + ys.length)); pure (.dat (.tup (xs ++ ys)))
  | .sub, .int i, .int j => pure (.dat (.int (i - j)))
  | .mul, .int i, .int j => do M.guard (mulOk i j); pure (.dat (.int (i * j)))
  | .mod, .int i, .int j => do M.guard (decide (0 < j)); pure (.dat (.int (i % j)))
  | .fdiv, .int i, .int j => do M.guard (decide (0 < j) && decide (j < 1073741824)); pure (.dat (.int (i / j)))
  | .pow, .int i, .int j => do M.guard (powOk i j); pure (.dat (.int (i ^ j.toNat)))
  | _, _, _ => M.no
/-- the ints of a list of ints -/
def intsOf : List D → Option (List Int)
  | [] => some []
  | .int i :: ds => match intsOf ds with | some is => some (i :: is) | none => none
  | _ :: _ => none
def blsOf : List D → Option (List Bool)
  | [] => some []
  | .bl i :: ds => match blsOf ds with | some is => some (i :: is) | none => none
  | _ :: _ => none
def cmpop : Cop → D → D → M Bool
  | .eq, a, b => M.opt (deq a b)
  | .ne, a, b => do let r ← M.opt (deq a b); pure (!r)
  | .lt, .int i, .int j => pure (decide (i < j))
  | .le, .int i, .int j => pure (decide (i ≤ j))
  | .gt, .int i, .int j => pure (decide (j < i))
  | .ge, .int i, .int j => pure (decide (j ≤ i))
  | .mem, a, .lst xs => M.opt (din a xs)
  | .mem, a, .tup xs => M.opt (din a xs)
  | .nmem, a, .lst xs => do let r ← M.opt (din a xs); pure (!r)
  | .nmem, a, .tup xs => do let r ← M.opt (din a xs); pure (!r)
  | _, _, _ => M.no
/-- an index, from behind where it is negative -/
def at? (xs : List D) (i : Int) : Option D := L2.atI xs i
def cut (xs : List D) (lo hi : Option Int) : List D := (xs.drop (HT.sIx xs.length 0 lo)).take (HT.sIx xs.length xs.length hi - HT.sIx xs.length 0 lo)
def ixB (p : D) (y : R) : M R := match p, y with
  | .tup xs, .dat (.int j) => do let d ← M.opt (at? xs j); pure (.dat d)
  | .lst xs, .dat (.int j) => do let d ← M.opt (at? xs j); pure (.dat d)
  | .scr xs, .dat (.int j) => do let d ← M.opt (at? xs j); pure (.dat d)
  | _, _ => M.no
def slB (p : D) (l h : Option Int) : M R := match p with
  | .tup xs => pure (.dat (.tup (cut xs l h)))
  | .lst xs => pure (.own (.lst (cut xs l h)))
  | .scr xs => pure (.own (.lst (cut xs l h)))
  | _ => M.no
def truth : D → M Bool
  | .non => pure false
  | .bl b => pure b
  | .int i => pure (i != 0)
  | .str s => do M.guard (lenOk s.length); pure (s.length != 0)
  | .tup xs => pure (!xs.isEmpty)
  | .lst xs => pure (!xs.isEmpty)
  | .scr xs => pure (!xs.isEmpty)
  | _ => M.no

/-! ### built-in functions -/
inductive Bi where
  | len | all | any | int | abs | min | max | tuple | list | divmod
  deriving DecidableEq
def arg1 : List D → Option D
  | [d] => some d
  | _ => none
def arg2 : List D → Option (D × D)
  | [d, e] => some (d, e)
  | _ => none
def lenB : D → M R
  | .tup xs => pure (.dat (.int xs.length))
  | .lst xs => pure (.dat (.int xs.length))
  | .scr xs => pure (.dat (.int xs.length))
  | .str s => do M.guard (lenOk s.length); pure (.dat (.int s.length))
  | _ => M.no
def allB : D → M R
  | .lst xs => do let bs ← M.opt (blsOf xs); pure (.dat (.bl (bs.all id)))
  | _ => M.no
def anyB : D → M R
  | .lst xs => do let bs ← M.opt (blsOf xs); pure (.dat (.bl (bs.any id)))
  | _ => M.no
def intB : D → M R
  | .int i => pure (.dat (.int i))
  | _ => M.no
def absB : D → M R
  | .int i => pure (.dat (.int (if i < 0 then -i else i)))
  | _ => M.no
def minB : D → D → M R
  | .int i, .int j => pure (.dat (.int (if j < i then j else i)))
  | _, _ => M.no
def maxB : D → D → M R
  | .int i, .int j => pure (.dat (.int (if j > i then j else i)))
  | _, _ => M.no
def tupB : D → M R
  | .lst xs => pure (.dat (.tup xs))
  | .tup xs => pure (.dat (.tup xs))
  | _ => M.no
def lstB : D → M R
  | .lst xs => pure (.own (.lst xs))
  | .tup xs => pure (.own (.lst xs))
  | .scr xs => pure (.own (.lst xs))
  | _ => M.no
def dmB : D → D → M R
  | .int i, .int j => do M.guard (decide (0 < j) && decide (i.natAbs < 2 ^ 4000)); pure (.dat (.tup [.int (i / j), .int (i % j)]))
  | _, _ => M.no
def bltn : Bi → List D → M R
  | .len, ds => do let d ← M.opt (arg1 ds); lenB d
  | .all, ds => do let d ← M.opt (arg1 ds); allB d
  | .any, ds => do let d ← M.opt (arg1 ds); anyB d
  | .int, ds => do let d ← M.opt (arg1 ds); intB d
  | .abs, ds => do let d ← M.opt (arg1 ds); absB d
  | .min, ds => do let p ← M.opt (arg2 ds); minB p.1 p.2
  | .max, ds => do let p ← M.opt (arg2 ds); maxB p.1 p.2
  | .divmod, ds => do let p ← M.opt (arg2 ds); dmB p.1 p.2
  | .tuple, ds => do let d ← M.opt (arg1 ds); tupB d
  | .list, ds => do let d ← M.opt (arg1 ds); lstB d

/-! ### methods that change a list -/
inductive Mm where
  | append | insert | pop | popi | extend
  deriving DecidableEq
def mthB (m : Mm) (c : Nat) (d : D) (ds : List D) : M R := match m, d, ds with
  | .append, .lst xs, [y] => do M.guard (decide (xs.length < sizeLine)); write c (.lst (xs ++ [y])); pure (.dat .non)
  | .insert, .lst xs, [.int i, y] => do
    M.guard (decide (xs.length < sizeLine) && (decide (0 ≤ i) && decide (i < 2 ^ 63)))
    write c (.lst (xs.take i.toNat ++ [y] ++ xs.drop i.toNat))
    pure (.dat .non)
  | .pop, .lst xs, [] => do let y ← M.opt xs[xs.length - 1]?; write c (.lst xs.dropLast); pure (.dat y)
  | .popi, .lst xs, [.int i] => do
    M.guard (decide (-(2 ^ 63) ≤ i) && decide (i < 2 ^ 63))
    let k ← M.opt (L2.ixN xs.length i)
    let y ← M.opt xs[k]?
    write c (.lst (xs.eraseIdx k))
    pure (.dat y)
  | .extend, .lst xs, [.lst ys] => do M.guard (decide (xs.length + ys.length ≤ sizeLine)); write c (.lst (xs ++ ys)); pure (.dat .non)
  | _, _, _ => M.no
def tyName : D → String
  | .non => "NoneType"
  | .bl _ => "bool"
  | .int _ => "int"
  | .str _ => "str"
  | .tup _ => "tuple"
  | .lst _ => "list"
  | .scr _ => "list"
  | .dct _ => "dict"
  | .obj _ _ => "object"
def isTy (t : String) (d : D) : Bool := (tyName d == t) || (t == "int" && tyName d == "bool")

/-! ### programs -/
mutual
inductive E where
  | k (d : D)
  | v (i : Nat)
  | glob (x : Str) (d : D)
  | bin (op : Bop) (a b : E)
  | neg (a : E)
  | cmp (op : Cop) (a b : E)
  | chain (op op' : Cop) (a b c : E)
  | isN (no : Bool) (a : E)
  | and (es : Es)
  | or (es : Es)
  | not (a : E)
  | ite (c : T) (a b : E)
  | tup (es : Es)
  | lst (es : Es)
  | ix (a i : E)
  | sl (a : E) (lo hi : Es)
  | isI (t : String) (a : E)
  | call (f : Fn) (id : Nat) (es : Es)
  | callK (f : Fn) (id : Nat) (n : Nat) (ks : List Str) (dd : List D) (perm : List Nat) (es kes : Es)
  | bi (b : Bi) (es : Es)
  | comp (tg : Tg) (it : It) (cond : Ts) (elt : E)
  | mth (m : Mm) (a : E) (es : Es)
inductive Es where
  | nil
  | cons (e : E) (es : Es)
inductive T where
  | val (e : E)
  | and (ts : Ts)
  | or (ts : Ts)
  | not (t : T)
  | cmp (op : Cop) (a b : E)
  | chain (op op' : Cop) (a b c : E)
  | isN (no : Bool) (a : E)
inductive Ts where
  | nil
  | cons (t : T) (ts : Ts)
inductive It where
  | seq (e : E)
  | rng (es : Es)
  | enum (e : E)
  | zip (a b : E)
inductive Tg where
  | n (i : Nat)
  | t (ts : Tgs)
  | ix (a i : E)
inductive Tgs where
  | nil
  | cons (t : Tg) (ts : Tgs)
inductive S where
  | asg (m : Bool) (i : Nat) (e : E)
  | asgT (t : Tg) (e : E)
  | par (cs : List (Nat × Bool)) (es : Es)
  | ex (e : E)
  | ret (e : E)
  | retN
  | iff (c : T) (a b : Ss)
  | for (t : Tg) (it : It) (body : Ss)
  | whl (n : Nat) (c : T) (body : Ss)
  | rai
  | pass
  | brk
  | cont
inductive Ss where
  | nil
  | cons (s : S) (ss : Ss)
inductive Fn where
  | mk (n : Nat) (ms : List Bool) (body : Ss)
  | no
end

inductive Flow where
  | nx (e : Env) | rt (r : R) | bk (e : Env) | ct (e : Env)

/-! the names that a target stores -/
mutual
def Tg.slots : Tg → List Nat
  | .n i => [i]
  | .t ts => Tgs.slots ts
  | .ix _ _ => []
def Tgs.slots : Tgs → List Nat
  | .nil => []
  | .cons t ts => Tg.slots t ++ Tgs.slots ts
end
def wipe (env : Env) : List Nat → Env
  | [] => env
  | v :: vs => (wipe env vs).set v none
/-- arguments come in: data, or a cell -/
def bindA : List Bool → List R → M (List (Option R))
  | [], [] => pure []
  | false :: ms, r :: rs => do let d ← use r; let es ← bindA ms rs; pure (some (.dat d) :: es)
  | true :: ms, .cell c :: rs => do let es ← bindA ms rs; pure (some (.cell c) :: es)
  | true :: ms, .own d :: rs => fun s => (M.bind (bindA ms rs) fun es => M.pure (some (.cell s.length) :: es)) (s ++ [⟨d, true⟩])
  | _, _ => M.no
/-- a def's end: its own cells are forgotten -/
def endFn (n : Nat) (r : R) : M R := fun s => match r with
  | .dat d => .ok (.dat d) (s.take n)
  | .own d => .ok (.own d) (s.take n)
  | .cell c => if c < n then .ok (.cell c) (s.take n) else match s[c]? with
    | some ⟨d, true⟩ => .ok (.own d) (s.take n)
    | some ⟨d, false⟩ => .ok (.dat d) (s.take n)
    | none => .no
def flowR : Flow → M R
  | .nx _ => pure (.dat .non)
  | .rt r => pure r
  | _ => M.no
/-- turn by turn -/
def forM (f : D → Env → M Flow) : List D → Env → M Flow
  | [], env => pure (.nx env)
  | d :: ds, env => do
    match ← f d env with
    | .nx e => forM f ds e
    | .ct e => forM f ds e
    | .bk e => pure (.nx e)
    | .rt r => pure (.rt r)
def compM (f : D → M (Option D)) : List D → M (List D)
  | [] => pure []
  | d :: ds => do
    match ← f d with
    | some x => do let xs ← compM f ds; pure (x :: xs)
    | none => compM f ds
/-- a name's new value; m: what is new is kept as a cell -/
def store1 (m : Bool) (i : Nat) (r : R) (env : Env) : M Env := match r with
  | .cell c => pure (env.set i (some (.cell c)))
  | .dat d => pure (env.set i (some (.dat d)))
  | .own d => match m with
    | true => fun s => .ok (env.set i (some (.cell s.length))) (s ++ [⟨d, true⟩])
    | false => pure (env.set i (some (.dat d)))
/-- several names at once -/
def parM : List (Nat × Bool) → List R → Env → M Env
  | [], [], env => pure env
  | (i, m) :: cs, r :: rs, env => do let env' ← store1 m i r env; parM cs rs env'
  | _, _, _ => M.no
def whM (c : Env → M Bool) (f : Env → M Flow) : Nat → Env → M Flow
  | 0, _ => M.no
  | n + 1, env => do
    if ← c env then do
      match ← f env with
      | .nx e => whM c f n e
      | .ct e => whM c f n e
      | .bk e => pure (.nx e)
      | .rt r => pure (.rt r)
    else pure (.nx env)
def enumD : Int → List D → List D
  | _, [] => []
  | i, d :: ds => .tup [.int i, d] :: enumD (i + 1) ds
def zipD : List D → List D → List D
  | a :: as, b :: bs => .tup [a, b] :: zipD as bs
  | _, _ => []
def rngD (lo : Int) : Nat → List D
  | 0 => []
  | n + 1 => .int lo :: rngD (lo + 1) n
def itemsOf : D → M (List D)
  | .tup xs => pure xs
  | .lst xs => pure xs
  | .scr xs => pure xs
  | _ => M.no
def isTupD : D → Bool
  | .tup _ => true
  | _ => false
def setAt (xs : List D) (i : Int) (d : D) : Option (List D) := match L2.ixN xs.length i with
  | some j => some (xs.set j d)
  | none => none

def ixSet (c : Nat) (p : D) (y : R) (d : D) (env : Env) : M Env := match p, y with
  | .lst xs, .dat (.int j) => do let xs' ← M.opt (setAt xs j d); write c (.lst xs'); pure env
  | _, _ => M.no
def rngB (rs : List R) : M (List D) := match rs with
  | [.dat (.int j)] => do M.guard (decide (-(2 ^ 62) ≤ j) && decide (j ≤ 1000000)); pure (rngD 0 j.toNat)
  | [.dat (.int i), .dat (.int j)] => do
    M.guard (decide (-1000000 ≤ i) && decide (j ≤ 1000000) && decide (i ≤ 1000000) && decide (-1000000 ≤ j))
    pure (rngD i (j - i).toNat)
  | _ => M.no
/-- some of a list's items, in another order -/
def permL {α : Type} (perm : List Nat) (l : List α) : List α := perm.filterMap fun i => l[i]?
mutual
def evE : E → Env → M R
  | .k d, _ => pure (.dat d)
  | .v i, env => M.opt env[i]?.join
  | .glob _ d, _ => pure (.dat d)
  | .bin op a b, env => do
    let x ← evE a env
    let y ← evE b env
    let p ← peek x
    let q ← peek y
    binop op p q
  | .neg a, env => do
    match ← evE a env with
    | .dat (.int i) => pure (.dat (.int (-i)))
    | _ => M.no
  | .cmp op a b, env => do
    let x ← evE a env
    let y ← evE b env
    let p ← peek x
    let q ← peek y
    let r ← cmpop op p q
    pure (.dat (.bl r))
  | .chain op op' a b c, env => do
    let x ← evE a env
    let y ← evE b env
    let p ← peek x
    let q ← peek y
    let r ← cmpop op p q
    if r then do
      let z ← evE c env
      let q' ← peek y
      let t ← peek z
      let r' ← cmpop op' q' t
      pure (.dat (.bl r'))
    else pure (.dat (.bl false))
  | .isN no a, env => do
    let x ← evE a env
    match x with
    | .dat .non => pure (.dat (.bl (!no)))
    | _ => pure (.dat (.bl no))
  | .and es, env => do let b ← evAnd es env; pure (.dat (.bl b))
  | .or es, env => do let b ← evOr es env; pure (.dat (.bl b))
  | .not a, env => do
    match ← evE a env with
    | .dat (.bl b) => pure (.dat (.bl (!b)))
    | _ => M.no
  | .ite c a b, env => do
    if ← evT c env then evE a env else evE b env
  | .tup es, env => do let ds ← evDs es env; pure (.dat (.tup ds))
  | .lst es, env => do let ds ← evDs es env; pure (.own (.lst ds))
  | .ix a i, env => do
    let x ← evE a env
    let y ← evE i env
    let p ← peek x
    ixB p y
  | .sl a lo hi, env => do
    let x ← evE a env
    let l ← evPart lo env
    let h ← evPart hi env
    let p ← peek x
    slB p l h
  | .isI t a, env => do
    let x ← evE a env
    let p ← peek x
    M.guard (tyName p != "object")
    pure (.dat (.bl (isTy t p)))
  | .call f _ es, env => do
    let rs ← evEs es env
    runFn f rs
  | .callK f _ _ _ dd perm es kes, env => do
    let ds ← evDs es env
    let ws ← evDs kes env
    runFn f ((permL perm (ds ++ (ws ++ dd))).map R.dat)
  | .bi b es, env => do
    let rs ← evEs es env
    let ds ← peeks rs
    bltn b ds
  | .comp tg it cond elt, env => do
    let ds ← evIt it env
    let xs ← compM (fun d => do
      let env' ← evTg tg d (wipe env tg.slots)
      let b ← evTAnd cond env'
      if b then do
        let r ← evE elt env'
        let x ← use r
        pure (some x)
      else pure none) ds
    pure (.own (.lst xs))
  | .mth m a es, env => do
    let x ← evE a env
    let _ ← live x
    let ds ← evDs es env
    let q ← live x
    mthB m q.1 q.2 ds
def evEs : Es → Env → M (List R)
  | .nil, _ => pure []
  | .cons e es, env => do let r ← evE e env; let rs ← evEs es env; pure (r :: rs)
/-- one after another, each at once handed on as data -/
def evDs : Es → Env → M (List D)
  | .nil, _ => pure []
  | .cons e es, env => do let r ← evE e env; let d ← use r; let ds ← evDs es env; pure (d :: ds)
def evPart : Es → Env → M (Option Int)
  | .nil, _ => pure none
  | .cons e _, env => do
    match ← evE e env with
    | .dat (.int i) => pure (some i)
    | _ => M.no
/-- values that are truths: all but the last -/
def evAnd : Es → Env → M Bool
  | .nil, _ => pure true
  | .cons e es, env => do
    match ← evE e env with
    | .dat (.bl true) => evAnd es env
    | .dat (.bl false) => pure false
    | _ => M.no
def evOr : Es → Env → M Bool
  | .nil, _ => pure false
  | .cons e es, env => do
    match ← evE e env with
    | .dat (.bl false) => evOr es env
    | .dat (.bl true) => pure true
    | _ => M.no
/-- tests -/
def evT : T → Env → M Bool
  | .val e, env => do let r ← evE e env; let d ← peek r; truth d
  | .and ts, env => evTAnd ts env
  | .or ts, env => evTOr ts env
  | .not t, env => do let b ← evT t env; pure (!b)
  | .cmp op a b, env => do
    let x ← evE a env
    let y ← evE b env
    let p ← peek x
    let q ← peek y
    cmpop op p q
  | .chain op op' a b c, env => do
    let x ← evE a env
    let y ← evE b env
    let p ← peek x
    let q ← peek y
    let r ← cmpop op p q
    if r then do
      let z ← evE c env
      let q' ← peek y
      let t ← peek z
      cmpop op' q' t
    else pure false
  | .isN no a, env => do
    let x ← evE a env
    match x with
    | .dat .non => pure (!no)
    | _ => pure no
def evTAnd : Ts → Env → M Bool
  | .nil, _ => pure true
  | .cons t ts, env => do if ← evT t env then evTAnd ts env else pure false
def evTOr : Ts → Env → M Bool
  | .nil, _ => pure false
  | .cons t ts, env => do if ← evT t env then pure true else evTOr ts env
def evIt : It → Env → M (List D)
  | .seq e, env => do let r ← evE e env; let d ← use r; itemsOf d
  | .rng es, env => do let rs ← evEs es env; rngB rs
  | .enum e, env => do let r ← evE e env; let d ← use r; let ds ← itemsOf d; pure (enumD 0 ds)
  | .zip a b, env => do
    let x ← evE a env
    let y ← evE b env
    let p ← use x
    let q ← use y
    M.guard (isTupD p == isTupD q)
    let as ← itemsOf p
    let bs ← itemsOf q
    pure (zipD as bs)
def evTg : Tg → D → Env → M Env
  | .n i, d, env => pure (env.set i (some (.dat d)))
  | .t ts, d, env => do
    match d with
    | .tup xs => evTgs ts xs env
    | _ => M.no
  | .ix a i, d, env => do
    let x ← evE a env
    let y ← evE i env
    let q ← live x
    ixSet q.1 q.2 y d env
def evTgs : Tgs → List D → Env → M Env
  | .nil, [], env => pure env
  | .cons t ts, d :: ds, env => do let env' ← evTg t d env; evTgs ts ds env'
  | _, _, _ => M.no
def evS : S → Env → M Flow
  | .asg m i e, env => do
    let r ← evE e env
    let env' ← store1 m i r env
    pure (.nx env')
  | .asgT t e, env => do
    let r ← evE e env
    let d ← use r
    let env' ← evTg t d env
    pure (.nx env')
  | .par cs es, env => do
    let rs ← evEs es env
    let env' ← parM cs rs env
    pure (.nx env')
  | .ex e, env => do let _ ← evE e env; pure (.nx env)
  | .ret e, env => do let r ← evE e env; pure (.rt r)
  | .retN, _ => pure (.rt (.dat .non))
  | .iff c a b, env => do if ← evT c env then evSs a env else evSs b env
  | .for t it body, env => do
    let ds ← evIt it env
    forM (fun d env => do let env' ← evTg t d env; evSs body env') ds env
  | .whl n c body, env => whM (fun env => evT c env) (fun env => evSs body env) n env
  | .rai, _ => M.no
  | .pass, env => pure (.nx env)
  | .brk, env => pure (.bk env)
  | .cont, env => pure (.ct env)
def evSs : Ss → Env → M Flow
  | .nil, env => pure (.nx env)
  | .cons s ss, env => do
    match ← evS s env with
    | .nx e => evSs ss e
    | f => pure f
def runFn : Fn → List R → M R
  | .mk n ms body, rs => fun s => (do
    let as ← bindA ms rs
    let f ← evSs body (as ++ List.replicate (n - as.length) none)
    let r ← flowR f
    endFn s.length r) s
  | .no, _ => M.no
end
end DB

namespace DB
open PySem
/-! ### one turn of the evaluator -/
theorem evE_k {d u1} : evE (.k d) u1 = ( pure (.dat d) : M R) := rfl
theorem evE_v {i env} : evE (.v i) env = ( M.opt env[i]?.join : M R) := rfl
theorem evE_glob {u1 d u2} : evE (.glob u1 d) u2 = ( pure (.dat d) : M R) := rfl
theorem evE_bin {op a b env} : evE (.bin op a b) env = ( do
    let x ← evE a env
    let y ← evE b env
    let p ← peek x
    let q ← peek y
    binop op p q
   : M R) := rfl
theorem evE_neg {a env} : evE (.neg a) env = ( do
    match ← evE a env with
    | .dat (.int i) => pure (.dat (.int (-i)))
    | _ => M.no
   : M R) := rfl
theorem evE_cmp {op a b env} : evE (.cmp op a b) env = ( do
    let x ← evE a env
    let y ← evE b env
    let p ← peek x
    let q ← peek y
    let r ← cmpop op p q
    pure (.dat (.bl r))
   : M R) := rfl
theorem evE_chain {op op' a b c env} : evE (.chain op op' a b c) env = ( do
    let x ← evE a env
    let y ← evE b env
    let p ← peek x
    let q ← peek y
    let r ← cmpop op p q
    if r then do
      let z ← evE c env
      let q' ← peek y
      let t ← peek z
      let r' ← cmpop op' q' t
      pure (.dat (.bl r'))
    else pure (.dat (.bl false))
   : M R) := rfl
theorem evE_isN {no a env} : evE (.isN no a) env = ( do
    let x ← evE a env
    match x with
    | .dat .non => pure (.dat (.bl (!no)))
    | _ => pure (.dat (.bl no))
   : M R) := rfl
theorem evE_and {es env} : evE (.and es) env = ( do let b ← evAnd es env; pure (.dat (.bl b)) : M R) := rfl
theorem evE_or {es env} : evE (.or es) env = ( do let b ← evOr es env; pure (.dat (.bl b)) : M R) := rfl
theorem evE_not {a env} : evE (.not a) env = ( do
    match ← evE a env with
    | .dat (.bl b) => pure (.dat (.bl (!b)))
    | _ => M.no
   : M R) := rfl
theorem evE_ite {c a b env} : evE (.ite c a b) env = ( do
    if ← evT c env then evE a env else evE b env
   : M R) := rfl
theorem evE_tup {es env} : evE (.tup es) env = ( do let ds ← evDs es env; pure (.dat (.tup ds)) : M R) := rfl
theorem evE_lst {es env} : evE (.lst es) env = ( do let ds ← evDs es env; pure (.own (.lst ds)) : M R) := rfl
theorem evE_ix {a i env} : evE (.ix a i) env = ( do
    let x ← evE a env
    let y ← evE i env
    let p ← peek x
    ixB p y
   : M R) := rfl
theorem evE_sl {a lo hi env} : evE (.sl a lo hi) env = ( do
    let x ← evE a env
    let l ← evPart lo env
    let h ← evPart hi env
    let p ← peek x
    slB p l h
   : M R) := rfl
theorem evE_isI {t a env} : evE (.isI t a) env = ( do
    let x ← evE a env
    let p ← peek x
    M.guard (tyName p != "object")
    pure (.dat (.bl (isTy t p)))
   : M R) := rfl
theorem evE_call {f u1 es env} : evE (.call f u1 es) env = ( do
    let rs ← evEs es env
    runFn f rs
   : M R) := rfl
theorem evE_callK {f u1 u2 u3 dd perm es kes env} : evE (.callK f u1 u2 u3 dd perm es kes) env = ( do
    let ds ← evDs es env
    let ws ← evDs kes env
    runFn f ((permL perm (ds ++ (ws ++ dd))).map R.dat)
   : M R) := rfl
theorem evE_bi {b es env} : evE (.bi b es) env = ( do
    let rs ← evEs es env
    let ds ← peeks rs
    bltn b ds
   : M R) := rfl
theorem evE_comp {tg it cond elt env} : evE (.comp tg it cond elt) env = ( do
    let ds ← evIt it env
    let xs ← compM (fun d => do
      let env' ← evTg tg d (wipe env tg.slots)
      let b ← evTAnd cond env'
      if b then do
        let r ← evE elt env'
        let x ← use r
        pure (some x)
      else pure none) ds
    pure (.own (.lst xs))
   : M R) := rfl
theorem evE_mth {m a es env} : evE (.mth m a es) env = ( do
    let x ← evE a env
    let _ ← live x
    let ds ← evDs es env
    let q ← live x
    mthB m q.1 q.2 ds
   : M R) := rfl
theorem evEs_nil {u1} : evEs .nil u1 = ( pure [] : M (List R)) := rfl
theorem evEs_cons {e es env} : evEs (.cons e es) env = ( do let r ← evE e env; let rs ← evEs es env; pure (r :: rs) : M (List R)) := rfl
theorem evDs_nil {u1} : evDs .nil u1 = ( pure [] : M (List D)) := rfl
theorem evDs_cons {e es env} : evDs (.cons e es) env = ( do let r ← evE e env; let d ← use r; let ds ← evDs es env; pure (d :: ds) : M (List D)) := rfl
theorem evPart_nil {u1} : evPart .nil u1 = ( pure none : M (Option Int)) := rfl
theorem evPart_cons {e u1 env} : evPart (.cons e u1) env = ( do
    match ← evE e env with
    | .dat (.int i) => pure (some i)
    | _ => M.no
   : M (Option Int)) := rfl
theorem evAnd_nil {u1} : evAnd .nil u1 = ( pure true : M Bool) := rfl
theorem evAnd_cons {e es env} : evAnd (.cons e es) env = ( do
    match ← evE e env with
    | .dat (.bl true) => evAnd es env
    | .dat (.bl false) => pure false
    | _ => M.no
   : M Bool) := rfl
theorem evOr_nil {u1} : evOr .nil u1 = ( pure false : M Bool) := rfl
theorem evOr_cons {e es env} : evOr (.cons e es) env = ( do
    match ← evE e env with
    | .dat (.bl false) => evOr es env
    | .dat (.bl true) => pure true
    | _ => M.no
   : M Bool) := rfl
theorem evT_val {e env} : evT (.val e) env = ( do let r ← evE e env; let d ← peek r; truth d : M Bool) := rfl
theorem evT_and {ts env} : evT (.and ts) env = ( evTAnd ts env : M Bool) := rfl
theorem evT_or {ts env} : evT (.or ts) env = ( evTOr ts env : M Bool) := rfl
theorem evT_not {t env} : evT (.not t) env = ( do let b ← evT t env; pure (!b) : M Bool) := rfl
theorem evT_cmp {op a b env} : evT (.cmp op a b) env = ( do
    let x ← evE a env
    let y ← evE b env
    let p ← peek x
    let q ← peek y
    cmpop op p q
   : M Bool) := rfl
theorem evT_chain {op op' a b c env} : evT (.chain op op' a b c) env = ( do
    let x ← evE a env
    let y ← evE b env
    let p ← peek x
    let q ← peek y
    let r ← cmpop op p q
    if r then do
      let z ← evE c env
      let q' ← peek y
      let t ← peek z
      cmpop op' q' t
    else pure false
   : M Bool) := rfl
theorem evT_isN {no a env} : evT (.isN no a) env = ( do
    let x ← evE a env
    match x with
    | .dat .non => pure (!no)
    | _ => pure no
   : M Bool) := rfl
theorem evTAnd_nil {u1} : evTAnd .nil u1 = ( pure true : M Bool) := rfl
theorem evTAnd_cons {t ts env} : evTAnd (.cons t ts) env = ( do if ← evT t env then evTAnd ts env else pure false : M Bool) := rfl
theorem evTOr_nil {u1} : evTOr .nil u1 = ( pure false : M Bool) := rfl
theorem evTOr_cons {t ts env} : evTOr (.cons t ts) env = ( do if ← evT t env then pure true else evTOr ts env : M Bool) := rfl
theorem evIt_seq {e env} : evIt (.seq e) env = ( do let r ← evE e env; let d ← use r; itemsOf d : M (List D)) := rfl
theorem evIt_rng {es env} : evIt (.rng es) env = ( do let rs ← evEs es env; rngB rs : M (List D)) := rfl
theorem evIt_enum {e env} : evIt (.enum e) env = ( do let r ← evE e env; let d ← use r; let ds ← itemsOf d; pure (enumD 0 ds) : M (List D)) := rfl
theorem evIt_zip {a b env} : evIt (.zip a b) env = ( do
    let x ← evE a env
    let y ← evE b env
    let p ← use x
    let q ← use y
    M.guard (isTupD p == isTupD q)
    let as ← itemsOf p
    let bs ← itemsOf q
    pure (zipD as bs)
   : M (List D)) := rfl
theorem evTg_n {i d env} : evTg (.n i) d env = ( pure (env.set i (some (.dat d))) : M Env) := rfl
theorem evTg_t {ts d env} : evTg (.t ts) d env = ( do
    match d with
    | .tup xs => evTgs ts xs env
    | _ => M.no
   : M Env) := rfl
theorem evTg_ix {a i d env} : evTg (.ix a i) d env = ( do
    let x ← evE a env
    let y ← evE i env
    let q ← live x
    ixSet q.1 q.2 y d env
   : M Env) := rfl
theorem evTgs_nil {env} : evTgs .nil [] env = ( pure env : M Env) := rfl
theorem evTgs_cons {t ts d ds env} : evTgs (.cons t ts) (d :: ds) env = ( do let env' ← evTg t d env; evTgs ts ds env' : M Env) := rfl
theorem evS_asg {m i e env} : evS (.asg m i e) env = ( do
    let r ← evE e env
    let env' ← store1 m i r env
    pure (.nx env')
   : M Flow) := rfl
theorem evS_asgT {t e env} : evS (.asgT t e) env = ( do
    let r ← evE e env
    let d ← use r
    let env' ← evTg t d env
    pure (.nx env')
   : M Flow) := rfl
theorem evS_par {cs es env} : evS (.par cs es) env = ( do
    let rs ← evEs es env
    let env' ← parM cs rs env
    pure (.nx env')
   : M Flow) := rfl
theorem evS_ex {e env} : evS (.ex e) env = ( do let _ ← evE e env; pure (.nx env) : M Flow) := rfl
theorem evS_ret {e env} : evS (.ret e) env = ( do let r ← evE e env; pure (.rt r) : M Flow) := rfl
theorem evS_retN {u1} : evS .retN u1 = ( pure (.rt (.dat .non)) : M Flow) := rfl
theorem evS_iff {c a b env} : evS (.iff c a b) env = ( do if ← evT c env then evSs a env else evSs b env : M Flow) := rfl
theorem evS_for {t it body env} : evS (.for t it body) env = ( do
    let ds ← evIt it env
    forM (fun d env => do let env' ← evTg t d env; evSs body env') ds env
   : M Flow) := rfl
theorem evS_whl {n c body env} : evS (.whl n c body) env = ( whM (fun env => evT c env) (fun env => evSs body env) n env : M Flow) := rfl
theorem evS_rai {u1} : evS .rai u1 = ( M.no : M Flow) := rfl
theorem evS_pass {env} : evS .pass env = ( pure (.nx env) : M Flow) := rfl
theorem evS_brk {env} : evS .brk env = ( pure (.bk env) : M Flow) := rfl
theorem evS_cont {env} : evS .cont env = ( pure (.ct env) : M Flow) := rfl
theorem evSs_nil {env} : evSs .nil env = ( pure (.nx env) : M Flow) := rfl
theorem evSs_cons {s ss env} : evSs (.cons s ss) env = ( do
    match ← evS s env with
    | .nx e => evSs ss e
    | f => pure f
   : M Flow) := rfl
theorem runFn_mk {n ms body rs} : runFn (.mk n ms body) rs = ( fun s => (do
    let as ← bindA ms rs
    let f ← evSs body (as ++ List.replicate (n - as.length) none)
    let r ← flowR f
    endFn s.length r) s
   : M R) := rfl
theorem runFn_no {u1} : runFn .no u1 = ( M.no : M R) := rfl
end DB
set_option maxHeartbeats 1000000
namespace DB
open PySem PySem.Spec L2

/-! ### data over the abstract heap. F: what never changes -/
mutual
inductive DOk (K : PySem.W.Frag) (F : Hp) : V → D → Prop where
  | non : DOk K F .non .non
  | bl (b : Bool) : DOk K F (.bl b) (.bl b)
  | int (i : Int) : DOk K F (.int i) (.int i)
  | str (s : Str) : DOk K F (.str s) (.str s)
  | tup {a : Addr} {xs : List V} {ds : List D} : SqT K F a xs → xs.length ≤ sizeLine → DsOk K F xs ds → DOk K F (.ref a) (.tup ds)
  | lst {a : Addr} {xs : List V} {ds : List D} : F a = some (.lst xs) → xs.length ≤ sizeLine → DsOk K F xs ds → DOk K F (.ref a) (.lst ds)
  | scr {a : Addr} {xs : List V} {ds : List D} : SqL K F a xs → xs.length ≤ sizeLine → DsOk K F xs ds → DOk K F (.ref a) (.scr ds)
inductive DsOk (K : PySem.W.Frag) (F : Hp) : List V → List D → Prop where
  | nil : DsOk K F [] []
  | cons {v : V} {vs : List V} {d : D} {ds : List D} : DOk K F v d → DsOk K F vs ds → DsOk K F (v :: vs) (d :: ds)
end
theorem Same.seqT {K : PySem.W.Frag} {H H' : Hp} {a : Addr} {xs : List V} (e : Same H H') (h : SqT K H a xs) : SqT K H' a xs := by
  rcases h with (h | ⟨o, h⟩) | h
  · exact .inl (.inl (e _ _ h))
  · exact .inl (.inr ⟨o, e _ _ h⟩)
  · exact .inr h
section
variable {K : PySem.W.Frag} {F F' H H' : Hp}
mutual
theorem DOk.mono (s : Same F F') : ∀ {v : V} {d : D}, DOk K F v d → DOk K F' v d
  | _, _, .non => .non
  | _, _, .bl b => .bl b
  | _, _, .int i => .int i
  | _, _, .str x => .str x
  | _, _, .tup h l r => .tup (Same.seqT s h) l (DsOk.mono s r)
  | _, _, .lst h l r => .lst (s _ _ h) l (DsOk.mono s r)
  | _, _, .scr h l r => .scr (s.seq h) l (DsOk.mono s r)
theorem DsOk.mono (s : Same F F') : ∀ {vs : List V} {ds : List D}, DsOk K F vs ds → DsOk K F' vs ds
  | _, _, .nil => .nil
  | _, _, .cons h r => .cons (DOk.mono s h) (DsOk.mono s r)
end
theorem DsOk.length : ∀ {vs : List V} {ds : List D}, DsOk K F vs ds → vs.length = ds.length
  | _, _, .nil => rfl
  | _, _, .cons _ r => congrArg Nat.succ (DsOk.length r)
theorem DsOk.append : ∀ {vs ws : List V} {ds es : List D}, DsOk K F vs ds → DsOk K F ws es → DsOk K F (vs ++ ws) (ds ++ es)
  | _, _, _, _, .nil, s => s
  | _, _, _, _, .cons h r, s => .cons h (DsOk.append r s)
theorem DsOk.get : ∀ {vs : List V} {ds : List D} {i : Nat} {d : D}, DsOk K F vs ds → ds[i]? = some d → ∃ v, vs[i]? = some v ∧ DOk K F v d
  | _, _, _, _, .nil, e => by simp at e
  | _, _, 0, _, .cons h _, e => by simp at e; subst e; exact ⟨_, rfl, h⟩
  | _, _, i + 1, _, .cons _ r, e => DsOk.get (i := i) r (by simpa using e)
theorem DsOk.drop : ∀ {vs : List V} {ds : List D} (n : Nat), DsOk K F vs ds → DsOk K F (vs.drop n) (ds.drop n)
  | _, _, 0, r => r
  | _, _, _ + 1, .nil => .nil
  | _, _, n + 1, .cons _ r => DsOk.drop n r
theorem DsOk.take : ∀ {vs : List V} {ds : List D} (n : Nat), DsOk K F vs ds → DsOk K F (vs.take n) (ds.take n)
  | _, _, 0, _ => .nil
  | _, _, _ + 1, .nil => .nil
  | _, _, n + 1, .cons h r => .cons h (DsOk.take n r)
theorem DsOk.set : ∀ {vs : List V} {ds : List D} (i : Nat) {v : V} {d : D}, DsOk K F vs ds → DOk K F v d → DsOk K F (vs.set i v) (ds.set i d)
  | _, _, _, _, _, .nil, _ => .nil
  | _, _, 0, _, _, .cons _ r, h => .cons h r
  | _, _, i + 1, _, _, .cons h' r, h => .cons h' (DsOk.set i r h)
theorem DsOk.eraseIdx : ∀ {vs : List V} {ds : List D} (i : Nat), DsOk K F vs ds → DsOk K F (vs.eraseIdx i) (ds.eraseIdx i)
  | _, _, _, .nil => .nil
  | _, _, 0, .cons _ r => r
  | _, _, i + 1, .cons h r => .cons h (DsOk.eraseIdx i r)
mutual
theorem DOk.dp : ∀ {d : D} {v : V} {p : PyData}, DOk K F v d → d.toP = some p → Dp K F v p
  | .non, _, _, h, e => by cases h; simp only [D.toP, Option.some.injEq] at e; subst e; exact .non
  | .bl b, _, _, h, e => by cases h; simp only [D.toP, Option.some.injEq] at e; subst e; exact .bl b
  | .int i, _, _, h, e => by cases h; simp only [D.toP, Option.some.injEq] at e; subst e; exact .int i
  | .str s, _, _, h, e => by cases h; simp only [D.toP, Option.some.injEq] at e; subst e; exact .str s
  | .tup xs, _, _, h, e => by
    cases h with
    | tup h l r =>
      simp only [D.toP] at e
      split at e
      · rename_i ps q
        cases e
        exact .tup h (DsOk.dp r q)
      · cases e
  | .lst xs, _, _, h, e => by
    cases h with
    | lst h l r =>
      simp only [D.toP] at e
      split at e
      · rename_i ps q
        cases e
        exact .lst (SqL.of h) (DsOk.dp r q)
      · cases e
  | .scr _, _, _, _, e => by simp only [D.toP] at e; cases e
  | .dct _, _, _, h, _ => by cases h
  | .obj _ _, _, _, h, _ => by cases h
theorem DsOk.dp : ∀ {ds : List D} {vs : List V} {ps : List PyData}, DsOk K F vs ds → D.toPs ds = some ps → DpAll K F vs ps
  | [], _, _, h, e => by cases h; simp only [D.toPs, Option.some.injEq] at e; subst e; exact .nil
  | d :: ds, _, _, h, e => by
    cases h with
    | cons h r =>
      simp only [D.toPs] at e
      split at e
      · rename_i p ps q1 q2
        cases e
        exact .cons (DOk.dp h q1) (DsOk.dp r q2)
      · cases e
end
mutual
theorem Dp.mono (s : Same F F') : ∀ {v : V} {d : PyData}, Dp K F v d → Dp K F' v d
  | _, _, .non => .non
  | _, _, .bl b => .bl b
  | _, _, .int i => .int i
  | _, _, .str x => .str x
  | _, _, .tup h r => .tup (Same.seqT s h) (DpAll.mono s r)
  | _, _, .lst h r => .lst (s.seq h) (DpAll.mono s r)
theorem DpAll.mono (s : Same F F') : ∀ {vs : List V} {ds : List PyData}, DpAll K F vs ds → DpAll K F' vs ds
  | _, _, .nil => .nil
  | _, _, .cons h r => .cons (Dp.mono s h) (DpAll.mono s r)
end
end

/-! ### cells -/
/-- a live cell's object holds the content -/
inductive CelOk (K : PySem.W.Frag) (F H : Hp) (a : Addr) : D → Prop where
  | lst {xs : List V} {ds : List D} : H a = some (.lst xs) → xs.length ≤ sizeLine → DsOk K F xs ds → CelOk K F H a (.lst ds)
structure StOk (K : PySem.W.Frag) (F H : Hp) (as : List Addr) (st : Sto) : Prop where
  sub : Same F H
  len : as.length = st.length
  live : ∀ (c : Nat) (a : Addr) (d : D), as[c]? = some a → st[c]? = some ⟨d, true⟩ → F a = none ∧ CelOk K F H a d ∧ ∀ c' : Nat, as[c']? = some a → c' = c
  froz : ∀ (c : Nat) (a : Addr) (d : D), as[c]? = some a → st[c]? = some ⟨d, false⟩ → DOk K F (.ref a) d ∧ F a ≠ none
/-- no live cell stands there -/
def NL (as : List Addr) (st : Sto) (b : Addr) : Prop := ∀ (c : Nat) (d : D), st[c]? = some ⟨d, true⟩ → as[c]? ≠ some b
structure Ext (ex : List Addr) (as : List Addr) (F H : Hp) (st : Sto) (as' : List Addr) (F' H' : Hp) (st' : Sto) : Prop where
  pre : ∃ new, as' = as ++ new ∧ ∀ a ∈ new, H a = none
  f : Same F F'
  k : ∀ b, H b ≠ none → H' b ≠ none
  h : ∀ b o, H b = some o → NL as st b → b ∉ ex → H' b = some o ∧ (F b = none → F' b = none)
  l : ∀ (c : Nat) (d : D), c < st.length → st'[c]? = some ⟨d, true⟩ → ∃ d0, st[c]? = some ⟨d0, true⟩
  g : st.length ≤ st'.length
inductive ROk (K : PySem.W.Frag) (F H : Hp) (as : List Addr) : V → R → Prop where
  | dat {v : V} {d : D} : DOk K F v d → ROk K F H as v (.dat d)
  | own {a : Addr} {d : D} : F a = none → CelOk K F H a d → a ∉ as → ROk K F H as (.ref a) (.own d)
  | cell {a : Addr} {c : Nat} : as[c]? = some a → ROk K F H as (.ref a) (.cell c)
/-- what is new is not of the elder heap -/
def Fresh (H : Hp) (v : V) : R → Prop
  | .own _ => ∀ a, v = .ref a → H a = none
  | _ => True
structure EnvOk (K : PySem.W.Frag) (F : Hp) (as : List Addr) (σ : St) (env : Env) : Prop where
  len : env.length = σ.length
  get : ∀ (i : Nat) (r : R), env[i]? = some (some r) → ∃ v, σ[i]? = some (some v) ∧ ((∃ d, r = .dat d ∧ DOk K F v d) ∨ ∃ c a, r = .cell c ∧ v = .ref a ∧ as[c]? = some a)
section
variable {K : PySem.W.Frag} {F F' F'' H H' H'' : Hp} {ex ex' ex'' as as' as'' : List Addr} {st st' st'' : Sto}
theorem CelOk.some {a : Addr} {d : D} (h : CelOk K F H a d) : H a ≠ none := by
  cases h with
  | lst h _ _ => rw [h]; exact fun z => nomatch z
theorem CelOk.keep {a : Addr} {d : D} (h : CelOk K F H a d) (e : H' a = H a) (s : Same F F') : CelOk K F' H' a d := by
  cases h with
  | lst h l r => exact .lst (e.trans h) l (r.mono s)
theorem Same.some (s : Same F F') {a : Addr} (h : F a ≠ none) : F' a ≠ none := by
  cases e : F a with
  | none => exact absurd e h
  | some o => rw [s a o e]; exact fun z => nomatch z
theorem Ext.refl : Ext ex as F H st as F H st :=
  ⟨⟨[], by simp, fun _ h => nomatch h⟩, Same.refl F, fun _ h => h, fun _ _ h _ _ => ⟨h, id⟩, fun c d _ h => ⟨d, h⟩, Nat.le_refl _⟩
theorem NL.mono (e : Ext ex as F H st as' F' H' st') (hl : as.length = st.length) (hl' : as'.length = st'.length) {b : Addr} (hb : H b ≠ none) (n : NL as st b) : NL as' st' b := by
  intro c d hc ha
  obtain ⟨new, rfl, hn⟩ := e.pre
  by_cases hlt : c < st.length
  · obtain ⟨d0, h0⟩ := e.l c d hlt hc
    rw [List.getElem?_append_left (by omega)] at ha
    exact n c d0 h0 ha
  · rw [List.getElem?_append_right (by omega)] at ha
    exact hb (hn b (List.mem_of_getElem? ha))
theorem Ext.transX (a : Ext ex as F H st as' F' H' st') (hl : as.length = st.length) (hl' : as'.length = st'.length) (b : Ext ex' as' F' H' st' as'' F'' H'' st'')
    (h1 : ∀ x ∈ ex, x ∈ ex'' ∨ H x = none) (h2 : ∀ x ∈ ex', x ∈ ex'' ∨ H x = none) : Ext ex'' as F H st as'' F'' H'' st'' where
  pre := by
    obtain ⟨n1, rfl, h1⟩ := a.pre
    obtain ⟨n2, rfl, h2⟩ := b.pre
    refine ⟨n1 ++ n2, by simp, fun x hx => ?_⟩
    rcases List.mem_append.mp hx with hx | hx
    · exact h1 x hx
    · cases e : H x with
      | none => rfl
      | some o => exact absurd (h2 x hx) (a.k x (by rw [e]; exact fun z => nomatch z))
  f := a.f.trans b.f
  k := fun x hx => b.k x (a.k x hx)
  h := fun x o hx n nx => by
    have n1 : x ∉ ex := fun z => (h1 x z).elim nx fun q => by rw [hx] at q; cases q
    have n2 : x ∉ ex' := fun z => (h2 x z).elim nx fun q => by rw [hx] at q; cases q
    obtain ⟨h1, f1⟩ := a.h x o hx n n1
    obtain ⟨h2, f2⟩ := b.h x o h1 (NL.mono a hl hl' (by rw [hx]; exact fun z => nomatch z) n) n2
    exact ⟨h2, fun z => f2 (f1 z)⟩
  l := fun c d hc h => by
    obtain ⟨d0, h0⟩ := b.l c d (Nat.lt_of_lt_of_le hc a.g) h
    exact a.l c d0 hc h0
  g := Nat.le_trans a.g b.g
theorem Ext.trans (a : Ext ex as F H st as' F' H' st') (hl : as.length = st.length) (hl' : as'.length = st'.length) (b : Ext ex as' F' H' st' as'' F'' H'' st'') : Ext ex as F H st as'' F'' H'' st'' :=
  a.transX hl hl' b (fun _ h => .inl h) fun _ h => .inl h
theorem Ext.wide (a : Ext ex as F H st as' F' H' st') (h : ∀ x ∈ ex, x ∈ ex' ∨ H x = none) : Ext ex' as F H st as' F' H' st' where
  pre := a.pre
  f := a.f
  k := a.k
  h := fun x o hx n nx => a.h x o hx n fun z => (h x z).elim nx fun q => by rw [hx] at q; cases q
  l := a.l
  g := a.g
theorem Fresh.back (e : Ext ex as F H st as' F' H' st') {v : V} {r : R} (h : Fresh H' v r) : Fresh H v r := by
  cases r with
  | own d =>
    intro a ha
    cases q : H a with
    | none => rfl
    | some o => exact absurd (h a ha) (e.k a (by rw [q]; exact fun z => nomatch z))
  | _ => trivial
/-- the addresses of what is new -/
def ownA : V → R → List Addr
  | .ref a, .own _ => [a]
  | _, _ => []
theorem ROk.ext {v : V} {r : R} (h : ROk K F H as v r) (hl : as.length = st.length) (e : Ext ex as F H st as' F' H' st') (hx : ∀ a ∈ ownA v r, a ∉ ex) : ROk K F' H' as' v r := by
  obtain ⟨new, rfl, hn⟩ := e.pre
  cases h with
  | dat h => exact .dat (h.mono e.f)
  | @own a d hf hc hm =>
    have hs := hc.some
    obtain ⟨o, ho⟩ : ∃ o, H a = some o := by
      cases q : H a with
      | none => exact absurd q hs
      | some o => exact ⟨o, rfl⟩
    have n : NL as st a := fun c d0 _ hc' => hm (List.mem_of_getElem? hc')
    obtain ⟨h1, f1⟩ := e.h a o ho n (hx a (by simp [ownA]))
    refine .own (f1 hf) (hc.keep (by rw [h1, ho]) e.f) fun z => ?_
    rcases List.mem_append.mp z with z | z
    · exact hm z
    · exact hs (hn a z)
  | cell h => exact .cell (by rw [List.getElem?_append_left (List.getElem?_eq_some_iff.mp h).1]; exact h)
theorem EnvOk.ext {σ : St} {env : Env} (h : EnvOk K F as σ env) (e : Ext ex as F H st as' F' H' st') : EnvOk K F' as' σ env := by
  refine ⟨h.len, fun i r hi => ?_⟩
  obtain ⟨v, hv, q⟩ := h.get i r hi
  obtain ⟨new, rfl, hn⟩ := e.pre
  refine ⟨v, hv, ?_⟩
  rcases q with ⟨d, rfl, q⟩ | ⟨c, a, rfl, rfl, q⟩
  · exact .inl ⟨d, rfl, q.mono e.f⟩
  · exact .inr ⟨c, a, rfl, rfl, by rw [List.getElem?_append_left (List.getElem?_eq_some_iff.mp q).1]; exact q⟩
/-- a new object of which nobody knows -/
theorem StOk.upd (s : StOk K F H as st) {p : Addr} {o : HO} (hp : H p = none) : StOk K F (L2.upd H p o) as st := by
  refine ⟨fun b u h => ?_, s.len, fun c a d h1 h2 => ?_, s.froz⟩
  · have := s.sub b u h
    rw [upd_ne (ne_of_none this hp)]
    exact this
  · obtain ⟨f, c1, u⟩ := s.live c a d h1 h2
    exact ⟨f, c1.keep (upd_ne fun z => c1.some (by rw [z]; exact hp)) (Same.refl _), u⟩
theorem Same.updB {H : Hp} {p : Addr} {o : HO} (hp : H p = none) : Same H (L2.upd H p o) := fun b u h => by
  rw [upd_ne (ne_of_none h hp)]; exact h
theorem Ext.updH {p : Addr} {o : HO} (hp : H p = none) : Ext ex as F H st as F (L2.upd H p o) st :=
  ⟨⟨[], by simp, fun _ h => nomatch h⟩, Same.refl F, fun b h z => by
    unfold L2.upd at z
    split at z
    · cases z
    · exact h z, fun b u h _ _ => ⟨Same.updB hp b u h, id⟩, fun c d _ h => ⟨d, h⟩, Nat.le_refl _⟩
theorem StOk.cellSome (s : StOk K F H as st) {a : Addr} (h : a ∈ as) : H a ≠ none := by
  obtain ⟨c, hc⟩ := List.getElem?_of_mem h
  have hlt : c < st.length := by
    have := (List.getElem?_eq_some_iff.mp hc).1
    rw [s.len] at this
    exact this
  obtain ⟨⟨d, b⟩, hd⟩ : ∃ x, st[c]? = some x := ⟨_, List.getElem?_eq_getElem hlt⟩
  cases b with
  | true => exact (s.live c a d hc hd).2.1.some
  | false => exact Same.some s.sub (s.froz c a d hc hd).2
/-- a new object that never changes -/
theorem StOk.updF (s : StOk K F H as st) {p : Addr} {o : HO} (hp : H p = none) : StOk K (L2.upd F p o) (L2.upd H p o) as st := by
  have fp : F p = none := by
    cases q : F p with
    | none => rfl
    | some u => rw [s.sub p u q] at hp; cases hp
  refine ⟨fun b u h => ?_, s.len, fun c a d h1 h2 => ?_, fun c a d h1 h2 => ⟨(s.froz c a d h1 h2).1.mono (Same.updB fp), Same.some (Same.updB fp) (s.froz c a d h1 h2).2⟩⟩
  · unfold L2.upd at h ⊢
    split at h
    · rename_i e
      rw [if_pos e]
      exact h
    · rename_i e
      rw [if_neg e]
      exact s.sub b u h
  · obtain ⟨f, c1, u⟩ := s.live c a d h1 h2
    have ne : a ≠ p := fun z => c1.some (by rw [z]; exact hp)
    exact ⟨by rw [upd_ne ne]; exact f, c1.keep (upd_ne ne) (Same.updB fp), u⟩
theorem Ext.updF (s : StOk K F H as st) {p : Addr} {o : HO} (hp : H p = none) : Ext ex as F H st as (L2.upd F p o) (L2.upd H p o) st := by
  have fp : F p = none := by
    cases q : F p with
    | none => rfl
    | some u => rw [s.sub p u q] at hp; cases hp
  refine ⟨⟨[], by simp, fun _ h => nomatch h⟩, Same.updB fp, fun b h z => ?_, fun b u h _ _ => ⟨Same.updB hp b u h, fun z => ?_⟩, fun c d _ h => ⟨d, h⟩, Nat.le_refl _⟩
  · unfold L2.upd at z
    split at z
    · cases z
    · exact h z
  · rw [upd_ne (ne_of_none h hp)]
    exact z
end
end DB
set_option maxHeartbeats 1000000
namespace DB
open PySem PySem.Spec L2

/-! ### does the text agree with a program of ours -/
structure AC where
  N : List Str
  sc : Scope
  blk : Option Scope
  fns : List Str
def visB (sc : Scope) (x : Str) : Bool := match sc.names.lookup x with
  | some .local => true
  | some .cell => true
  | some .free => true
  | _ => false
def locB (sc : Scope) (blk : Option Scope) (x : Str) : Bool := match sc.names.lookup x with
  | some .local => true
  | some .cell => (match blk with
    | none => true
    | some s => s.names.lookup x == some .cell)
  | _ => false
def glB (sc : Scope) (x : Str) : Bool := decide (sc.names.lookup x = some .globalImplicit) && !(x == ("__debug__" : Str))
def constB : D → Const → Bool
  | .non, .none => true
  | .bl b, .bool c => b == c
  | .int i, .int j => decide (i = j)
  | .str x, .str y => decide (x = y)
  | _, _ => false
def bopB : Bop → Operator → Bool
  | .add, .Add => true
  | .sub, .Sub => true
  | .mul, .Mult => true
  | .mod, .Mod => true
  | .fdiv, .FloorDiv => true
  | .pow, .Pow => true
  | _, _ => false
def copB : Cop → CmpOp → Bool
  | .eq, .Eq => true
  | .ne, .NotEq => true
  | .lt, .Lt => true
  | .le, .LtE => true
  | .gt, .Gt => true
  | .ge, .GtE => true
  | .mem, .In => true
  | .nmem, .NotIn => true
  | _, _ => false
def biName : Bi → String
  | .len => "len" | .all => "all" | .any => "any" | .int => "int" | .abs => "abs" | .min => "min" | .max => "max" | .tuple => "tuple" | .list => "list" | .divmod => "divmod"
def tyOk (t : String) : Bool := ["int", "bool", "str", "tuple", "list", "dict"].contains t
def plainX : Expr → Bool
  | .UnaryOp .Not _ _ => false
  | .BoolOp _ _ _ => false
  | .IfExp _ _ _ _ => false
  | .Compare _ _ _ _ => false
  | _ => true
def notSlice : Expr → Bool
  | .Slice _ _ _ _ => false
  | _ => true
def notSet : Expr → Bool
  | .Set _ _ _ => false
  | _ => true
def notStar : Expr → Bool
  | .Starred _ _ => false
  | _ => true
def isTupX : Expr → Bool
  | .Tuple _ _ _ => true
  | _ => false
def notCallX : Expr → Bool
  | .Call _ _ _ _ => false
  | _ => true
def mName : Mm → String
  | .append => "append" | .insert => "insert" | .pop => "pop" | .popi => "pop" | .extend => "extend"
def ownOf (N : List Str) (is : List Nat) : List (Str × Nat) := is.map fun i => (N.getD i (Str.ofString ""), i)
def AC.sub (c : AC) (scope : Scope) : AC := { c with sc := relS scope c.sc, blk := some scope }
def isNoneX : Expr → Bool
  | .Constant .none _ _ => true
  | _ => false
def isOpB (no : Bool) : CmpOp → Bool
  | .Is => !no
  | .IsNot => no
  | _ => false

def kwNames (kws : List Keyword) : List (Option Str) := kws.map (·.arg)
mutual
def agE (c : AC) : E → Expr → Bool
  | .k d, .Constant k _ _ => constB d k
  | .v i, .Name x _ => decide (c.N[i]? = some x) && (visB c.sc x && (!(x == ("__debug__" : Str)) && !(x == ("__classdict__" : Str))))
  | .glob y _, .Name x _ => decide (y = x) && glB c.sc x
  | .bin op a b, .BinOp a' op' b' _ => bopB op op' && (agE c a a' && agE c b b')
  | .neg a, .UnaryOp .USub a' _ => agE c a a'
  | .cmp op a b, .Compare a' [op'] [b'] _ => copB op op' && (notSet b' && (agE c a a' && agE c b b'))
  | .chain o1 o2 a b d, .Compare a' [p1, p2] [b', d'] _ => copB o1 p1 && (copB o2 p2 && (notSet d' && (agE c a a' && (agE c b b' && agE c d d'))))
  | .isN no a, .Compare a' [op] [b'] _ => isNoneX b' && (isOpB no op && agE c a a')
  | .and es, .BoolOp .And es' _ => !es'.isEmpty && agEs c es es'
  | .or es, .BoolOp .Or es' _ => !es'.isEmpty && agEs c es es'
  | .not a, .UnaryOp .Not a' _ => agE c a a'
  | .ite t a b, .IfExp t' a' b' _ => agT c t t' && (agE c a a' && agE c b b')
  | .tup es, .Tuple es' _ _ => agEs c es es' && decide (es'.length ≤ sizeLine)
  | .lst es, .List es' _ => agEs c es es' && decide (es'.length ≤ sizeLine)
  | .ix a i, .Subscript a' i' _ => notSlice i' && (agE c a a' && agE c i i')
  | .sl a lo hi, .Subscript a' (.Slice lo' hi' none _) _ => agE c a a' && (agPart c lo lo' && agPart c hi hi')
  | .isI t a, .Call (.Name x _) [a', .Name y _] [] _ => decide (x = ("isinstance" : Str)) && (glB c.sc x && (decide (y = Str.ofString t) && (glB c.sc y && (tyOk t && (notStar a' && agE c a a')))))
  | .call f id es, .Call (.Name x _) es' [] _ => decide (c.fns[id]? = some x) && (glB c.sc x && agEs c es es')
  | .callK f id n ks dd perm es kes, .Call (.Name x _) es' kws' _ => decide (c.fns[id]? = some x) && (glB c.sc x && (decide (es'.length = n) && (decide (kwNames kws' = ks.map some) && (agEs c es es' && agKs c kes kws'))))
  | .bi b es, .Call (.Name x _) es' [] _ => decide (x = Str.ofString (biName b)) && (glB c.sc x && (!es'.isEmpty && agEs c es es'))
  | .mth m a es, .Call (.Attribute o y apos) es' [] cpos => decide (y = Str.ofString (mName m)) && (notCallX o && (decide (apos.endLine = cpos.line) && (decide (es'.length < 20) && (agE c a o && agEs c es es'))))
  | .comp tg it cond elt, .ListComp elt' [⟨tg', it', ifs', 0⟩] scope _ =>
    blkC c.N c.sc scope (ownOf c.N tg.slots) && (agIt c tg' it it' && (notSet it' && (agTg (c.sub scope) tg tg' && (agC (c.sub scope) cond ifs' && agE (c.sub scope) elt elt'))))
  | _, _ => false
def agEs (c : AC) : Es → List Expr → Bool
  | .nil, [] => true
  | .cons e es, e' :: es' => notStar e' && (agE c e e' && agEs c es es')
  | _, _ => false
def agKs (c : AC) : Es → List Keyword → Bool
  | .nil, [] => true
  | .cons e es, ⟨_, e', _⟩ :: es' => agE c e e' && agKs c es es'
  | _, _ => false
def agPart (c : AC) : Es → Option Expr → Bool
  | .nil, none => true
  | .cons e .nil, some e' => agE c e e'
  | _, _ => false
def agT (c : AC) : T → Expr → Bool
  | .val e, e' => plainX e' && agE c e e'
  | .and ts, .BoolOp .And es' _ => !es'.isEmpty && agTs c ts es'
  | .or ts, .BoolOp .Or es' _ => !es'.isEmpty && agTs c ts es'
  | .not t, .UnaryOp .Not a' _ => agT c t a'
  | .cmp op a b, .Compare a' [op'] [b'] _ => copB op op' && (notSet b' && (agE c a a' && agE c b b'))
  | .chain o1 o2 a b d, .Compare a' [p1, p2] [b', d'] _ => copB o1 p1 && (copB o2 p2 && (notSet d' && (agE c a a' && (agE c b b' && agE c d d'))))
  | .isN no a, .Compare a' [op] [b'] _ => isNoneX b' && (isOpB no op && agE c a a')
  | _, _ => false
def agTs (c : AC) : Ts → List Expr → Bool
  | .nil, [] => true
  | .cons t ts, e' :: es' => agT c t e' && agTs c ts es'
  | _, _ => false
/-- a comprehension's tests: none or one -/
def agC (c : AC) : Ts → List Expr → Bool
  | .nil, [] => true
  | .cons t .nil, [e'] => agT c t e'
  | _, _ => false
def agIt (c : AC) (tg' : Expr) : It → Expr → Bool
  | .seq e, e' => notSet e' && agE c e e'
  | .rng es, .Call (.Name x _) es' [] _ => decide (x = ("range" : Str)) && (glB c.sc x && (decide (es'.length = 1 ∨ es'.length = 2) && agEs c es es'))
  | .enum e, .Call (.Name x _) [e'] [] _ => decide (x = ("enumerate" : Str)) && (glB c.sc x && (isTupX tg' && (notStar e' && agE c e e')))
  | .zip a b, .Call (.Name x _) [a', b'] [] _ => decide (x = ("zip" : Str)) && (glB c.sc x && (isTupX tg' && (notStar a' && (notStar b' && (agE c a a' && agE c b b')))))
  | _, _ => false
def agTg (c : AC) : Tg → Expr → Bool
  | .n i, .Name x _ => decide (c.N[i]? = some x) && locB c.sc c.blk x
  | .t ts, .Tuple es _ _ => agTgs c ts es
  | .ix a i, .Subscript a' i' _ => notSlice i' && (agE c a a' && agE c i i')
  | _, _ => false
def agTgs (c : AC) : Tgs → List Expr → Bool
  | .nil, [] => true
  | .cons t ts, e' :: es' => notStar e' && (agTg c t e' && agTgs c ts es')
  | _, _ => false
end
end DB
set_option maxHeartbeats 1000000
namespace DB
open PySem PySem.Spec L2

theorem bind_inv {α β : Type} {m : M α} {f : α → M β} {s s' : Sto} {b : β} (h : (m >>= f) s = .ok b s') : ∃ a s1, m s = .ok a s1 ∧ f a s1 = .ok b s' := by
  have h : M.bind m f s = .ok b s' := h
  unfold M.bind at h
  split at h
  · rename_i a s1 e
    exact ⟨a, s1, e, h⟩
  · cases h
  · cases h
theorem pure_inv {α : Type} {a b : α} {s s' : Sto} (h : (pure a : M α) s = .ok b s') : b = a ∧ s' = s := by
  have h : Res.ok a s = .ok b s' := h
  cases h
  exact ⟨rfl, rfl⟩
theorem guard_inv {b : Bool} {u : Unit} {s s' : Sto} (h : M.guard b s = .ok u s') : b = true ∧ s' = s := by
  cases b with
  | true => cases h; exact ⟨rfl, rfl⟩
  | false => cases h
theorem opt_inv {α : Type} {o : Option α} {a : α} {s s' : Sto} (h : M.opt o s = .ok a s') : o = some a ∧ s' = s := by
  cases o with
  | some b => cases h; exact ⟨rfl, rfl⟩
  | none => cases h

inductive VOk (K : PySem.W.Frag) (F H : Hp) : V → D → Prop where
  | dat {v : V} {d : D} : DOk K F v d → VOk K F H v d
  | cel {a : Addr} {d : D} : CelOk K F H a d → VOk K F H (.ref a) d
section
variable {K : PySem.W.Frag} {F F' H H' : Hp} {as : List Addr} {st st' : Sto} {v : V} {d : D} {r : R}
theorem VOk.non (h : VOk K F H v .non) : v = .non := by
  cases h with
  | dat h => cases h; rfl
  | cel h => cases h
theorem VOk.bl {b : Bool} (h : VOk K F H v (.bl b)) : v = .bl b := by
  cases h with
  | dat h => cases h; rfl
  | cel h => cases h
theorem VOk.int {i : Int} (h : VOk K F H v (.int i)) : v = .int i := by
  cases h with
  | dat h => cases h; rfl
  | cel h => cases h
theorem VOk.str {i : Str} (h : VOk K F H v (.str i)) : v = .str i := by
  cases h with
  | dat h => cases h; rfl
  | cel h => cases h
theorem VOk.tup {ds : List D} (s : Same F H) (h : VOk K F H v (.tup ds)) : ∃ a xs, v = .ref a ∧ SqT K H a xs ∧ xs.length ≤ sizeLine ∧ DsOk K F xs ds ∧ DOk K F v (.tup ds) := by
  cases h with
  | dat h =>
    have h' := h
    cases h with
    | tup h l r => exact ⟨_, _, rfl, Same.seqT s h, l, r, h'⟩
  | cel h => cases h
theorem VOk.lst {ds : List D} (s : Same F H) (h : VOk K F H v (.lst ds)) : ∃ a xs, v = .ref a ∧ H a = some (.lst xs) ∧ xs.length ≤ sizeLine ∧ DsOk K F xs ds := by
  cases h with
  | dat h =>
    cases h with
    | lst h l r => exact ⟨_, _, rfl, s _ _ h, l, r⟩
  | cel h =>
    cases h with
    | lst h l r => exact ⟨_, _, rfl, h, l, r⟩
theorem VOk.scr {ds : List D} (s : Same F H) (h : VOk K F H v (.scr ds)) : ∃ a xs, v = .ref a ∧ SqL K H a xs ∧ xs.length ≤ sizeLine ∧ DsOk K F xs ds := by
  cases h with
  | dat h =>
    cases h with
    | scr h l r => exact ⟨_, _, rfl, s.seq h, l, r⟩
  | cel h => cases h
theorem VOk.dp {p : PyData} (s : Same F H) (h : VOk K F H v d) (e : d.toP = some p) : Dp K H v p := by
  cases h with
  | dat h => exact Dp.mono s (h.dp e)
  | cel h =>
    cases h with
    | lst h l r =>
      simp only [D.toP] at e
      split at e
      · rename_i ps q
        cases e
        exact .lst (SqL.of h) (DpAll.mono s (r.dp q))
      · cases e
theorem peek_ok {r : R} (s : StOk K F H as st) (ro : ROk K F H as v r) (h : peek r st = .ok d st') : st' = st ∧ VOk K F H v d := by
  cases ro with
  | dat r =>
    obtain ⟨rfl, rfl⟩ := pure_inv h
    exact ⟨rfl, .dat r⟩
  | own f c m =>
    obtain ⟨rfl, rfl⟩ := pure_inv h
    exact ⟨rfl, .cel c⟩
  | @cell a c ha =>
    have h' : (match st[c]? with | some ⟨d, _⟩ => Res.ok d st | none => .no) = .ok d st' := h
    split at h'
    · rename_i d0 b e
      cases h'
      refine ⟨rfl, ?_⟩
      cases b with
      | true => exact .cel (s.live c a _ ha e).2.1
      | false => exact .dat (s.froz c a _ ha e).1
    · cases h'
/-- a cell's content freezes -/
theorem StOk.freeze (s : StOk K F H as st) {a : Addr} (hf : F a = none) (hc : CelOk K F H a d) : ∃ o, H a = some o ∧ DOk K (L2.upd F a o) (.ref a) d ∧ Same (L2.upd F a o) H := by
  cases hc with
  | lst h l r =>
    refine ⟨_, h, .lst upd_same l (r.mono (Same.updB hf)), fun b u e => ?_⟩
    unfold L2.upd at e
    split at e
    · rename_i q
      cases e
      rw [q]
      exact h
    · exact s.sub b u e
theorem use_ok {r : R} (s : StOk K F H as st) (ro : ROk K F H as v r) (h : use r st = .ok d st') : ∃ F', StOk K F' H as st' ∧ Ext (ownA v r) as F H st as F' H st' ∧ DOk K F' v d := by
  cases ro with
  | dat r =>
    obtain ⟨rfl, rfl⟩ := pure_inv h
    exact ⟨F, s, .refl, r⟩
  | @own a d0 f c m =>
    obtain ⟨rfl, rfl⟩ := pure_inv h
    obtain ⟨o, ho, hd, hs⟩ := s.freeze f c
    refine ⟨L2.upd F a o, ⟨hs, s.len, fun c' a' d' h1 h2 => ?_, fun c' a' d' h1 h2 => ⟨(s.froz c' a' d' h1 h2).1.mono (Same.updB f), Same.some (Same.updB f) (s.froz c' a' d' h1 h2).2⟩⟩, ⟨⟨[], by simp, fun _ h => nomatch h⟩, Same.updB f, fun _ h => h, fun b u hb _ hx => ⟨hb, fun z => ?_⟩, fun c d _ h => ⟨d, h⟩, Nat.le_refl _⟩, hd⟩
    · obtain ⟨f1, c1, u1⟩ := s.live c' a' d' h1 h2
      have ne : a' ≠ a := fun z => m (z ▸ List.mem_of_getElem? h1)
      exact ⟨by rw [upd_ne ne]; exact f1, c1.keep rfl (Same.updB f), u1⟩
    · have ne : b ≠ a := fun e => hx (by simp [ownA, e])
      rw [upd_ne ne]
      exact z
  | @cell a c ha =>
    have h' : (match st[c]? with | some ⟨d, true⟩ => Res.ok d (st.set c ⟨d, false⟩) | some ⟨d, false⟩ => .ok d st | none => .no) = .ok d st' := h
    split at h'
    · rename_i d0 e
      cases h'
      obtain ⟨f, c1, u1⟩ := s.live c a _ ha e
      obtain ⟨o, ho, hd, hs⟩ := s.freeze f c1
      have hlt : c < st.length := (List.getElem?_eq_some_iff.mp e).1
      refine ⟨L2.upd F a o, ⟨hs, by rw [List.length_set]; exact s.len, fun c' a' d' h1 h2 => ?_, fun c' a' d' h1 h2 => ?_⟩, ⟨⟨[], by simp, fun _ h => nomatch h⟩, Same.updB f, fun _ h => h, fun b u hb n _ => ⟨hb, fun z => ?_⟩, fun c' d' _ h2 => ?_, by rw [List.length_set]; exact Nat.le_refl _⟩, hd⟩
      · by_cases hcc : c = c'
        · subst hcc
          rw [List.getElem?_set_self hlt] at h2
          cases h2
        · rw [List.getElem?_set_ne hcc] at h2
          obtain ⟨f2, c2, u2⟩ := s.live c' a' d' h1 h2
          have ne : a' ≠ a := fun z => hcc (u1 c' (z ▸ h1)).symm
          exact ⟨by rw [upd_ne ne]; exact f2, c2.keep rfl (Same.updB f), u2⟩
      · by_cases hcc : c = c'
        · subst hcc
          rw [List.getElem?_set_self hlt] at h2
          cases h2
          rw [ha] at h1
          cases h1
          exact ⟨hd, by rw [upd_same]; exact fun z => nomatch z⟩
        · rw [List.getElem?_set_ne hcc] at h2
          exact ⟨(s.froz c' a' d' h1 h2).1.mono (Same.updB f), Same.some (Same.updB f) (s.froz c' a' d' h1 h2).2⟩
      · have ne : b ≠ a := fun q => n c _ e (q ▸ ha)
        rw [upd_ne ne]
        exact z
      · by_cases hcc : c = c'
        · subst hcc
          exact ⟨_, e⟩
        · rw [List.getElem?_set_ne hcc] at h2
          exact ⟨d', h2⟩
    · rename_i d0 e
      cases h'
      exact ⟨F, s, .refl, (s.froz c a _ ha e).1⟩
    · cases h'
end

/-! ### readings by the evaluator -/
def tE (K : PySem.W.Frag) (e : E) : TE := fun σ H Q => ∃ as F st env r st', StOk K F H as st ∧ EnvOk K F as σ env ∧ evE e env st = .ok r st' ∧
  ∀ v F' H', StOk K F' H' as st' → Ext [] as F H st as F' H' st' → ROk K F' H' as v r → Fresh H v r → Q v H'
def ownsA : List V → List R → List Addr
  | v :: vs, r :: rs => ownA v r ++ ownsA vs rs
  | _, _ => []
/-- new things one after another: no two are one -/
inductive RsOk (K : PySem.W.Frag) (F H : Hp) (as : List Addr) : List V → List R → Prop where
  | nil : RsOk K F H as [] []
  | cons {v : V} {r : R} {vs : List V} {rs : List R} : ROk K F H as v r → RsOk K F H as vs rs → (∀ a ∈ ownA v r, a ∉ ownsA vs rs) → RsOk K F H as (v :: vs) (r :: rs)
def tEs (K : PySem.W.Frag) (es : Es) : TA := fun σ H Q => ∃ as F st env rs st', StOk K F H as st ∧ EnvOk K F as σ env ∧ evEs es env st = .ok rs st' ∧
  ∀ vs F' H', StOk K F' H' as st' → Ext [] as F H st as F' H' st' → RsOk K F' H' as vs rs → (∀ a ∈ ownsA vs rs, H a = none) → Q vs H'
def tDs (K : PySem.W.Frag) (es : Es) : TA := fun σ H Q => ∃ as F st env ds st', StOk K F H as st ∧ EnvOk K F as σ env ∧ evDs es env st = .ok ds st' ∧
  ∀ vs F' H', StOk K F' H' as st' → Ext [] as F H st as F' H' st' → DsOk K F' vs ds → Q vs H'
def tT (K : PySem.W.Frag) (t : T) : TT := fun σ H Q => ∃ as F st env b st', StOk K F H as st ∧ EnvOk K F as σ env ∧ evT t env st = .ok b st' ∧
  ∀ F' H', StOk K F' H' as st' → Ext [] as F H st as F' H' st' → Q b H'
def tTAnd (K : PySem.W.Frag) (ts : Ts) : TT := fun σ H Q => ∃ as F st env b st', StOk K F H as st ∧ EnvOk K F as σ env ∧ evTAnd ts env st = .ok b st' ∧
  ∀ F' H', StOk K F' H' as st' → Ext [] as F H st as F' H' st' → Q b H'
def tTOr (K : PySem.W.Frag) (ts : Ts) : TT := fun σ H Q => ∃ as F st env b st', StOk K F H as st ∧ EnvOk K F as σ env ∧ evTOr ts env st = .ok b st' ∧
  ∀ F' H', StOk K F' H' as st' → Ext [] as F H st as F' H' st' → Q b H'
def tAnd_ (K : PySem.W.Frag) (es : Es) : TE := fun σ H Q => ∃ as F st env b st', StOk K F H as st ∧ EnvOk K F as σ env ∧ evAnd es env st = .ok b st' ∧
  ∀ F' H', StOk K F' H' as st' → Ext [] as F H st as F' H' st' → Q (.bl b) H'
def tOr_ (K : PySem.W.Frag) (es : Es) : TE := fun σ H Q => ∃ as F st env b st', StOk K F H as st ∧ EnvOk K F as σ env ∧ evOr es env st = .ok b st' ∧
  ∀ F' H', StOk K F' H' as st' → Ext [] as F H st as F' H' st' → Q (.bl b) H'
def tPart_ (K : PySem.W.Frag) (es : Es) : TO := fun σ H Q => ∃ as F st env o st', StOk K F H as st ∧ EnvOk K F as σ env ∧ evPart es env st = .ok o st' ∧
  ∀ F' H', StOk K F' H' as st' → Ext [] as F H st as F' H' st' → Q o H'
/-- a walk's items -/
def Yl (K : PySem.W.Frag) (J : L2.It) (F0 : Hp) (ds : List D) : Prop := ∀ (i : Nat) (F H : Hp) (as : List Addr) (st : Sto), Same F0 F → StOk K F H as st →
  (i = ds.length → J.stop i H) ∧ ∀ d, ds[i]? = some d → J.go i H ∧ ∀ x H', J.yld i H x H' → ∃ F', StOk K F' H' as st ∧ Ext [] as F H st as F' H' st ∧ DOk K F' x d
def tIt (K : PySem.W.Frag) (it : It) : TI := fun σ H R => ∃ as F st env ds st', StOk K F H as st ∧ EnvOk K F as σ env ∧ evIt it env st = .ok ds st' ∧
  ∀ J F' H', StOk K F' H' as st' → Ext [] as F H st as F' H' st' → Yl K J F' ds → ds.length ≤ sizeLine → R J H'
def tTg (K : PySem.W.Frag) (t : Tg) : TG := fun v σ H Q => ∃ as F st env d env' st', StOk K F H as st ∧ EnvOk K F as σ env ∧ DOk K F v d ∧ evTg t d env st = .ok env' st' ∧
  ∀ σ' F' H', StOk K F' H' as st' → Ext [] as F H st as F' H' st' → EnvOk K F' as σ' env' → L2.wipe σ' t.slots = L2.wipe σ t.slots → Q σ' H'
def tTgs (K : PySem.W.Frag) (ts : Tgs) : TGs := fun vs σ H Q => ∃ as F st env ds env' st', StOk K F H as st ∧ EnvOk K F as σ env ∧ DsOk K F vs ds ∧ evTgs ts ds env st = .ok env' st' ∧
  ∀ σ' F' H', StOk K F' H' as st' → Ext [] as F H st as F' H' st' → EnvOk K F' as σ' env' → L2.wipe σ' ts.slots = L2.wipe σ ts.slots → Q σ' H'
end DB
set_option maxHeartbeats 1000000
namespace DB
open PySem PySem.Spec L2

/-! ### operators -/
/-- what is wanted behind an expression -/
def Aft (K : PySem.W.Frag) (as : List Addr) (F H : Hp) (st : Sto) (r : R) (st' : Sto) (Q : VK) : Prop :=
  ∀ v F' H', StOk K F' H' as st' → Ext [] as F H st as F' H' st' → ROk K F' H' as v r → Fresh H v r → Q v H'
section
variable {K : PySem.W.Frag} {F H : Hp} {as : List Addr} {st st' : Sto} {r : R} {Q : VK}
theorem Aft.dat {v : V} {d : D} (a : Aft K as F H st (.dat d) st Q) (s : StOk K F H as st) (h : DOk K F v d) : Q v H := a v F H s .refl (.dat h) trivial
/-- a new tuple -/
theorem Aft.tup {xs : List V} {ds : List D} (a : Aft K as F H st (.dat (.tup ds)) st Q) (s : StOk K F H as st) (h : DsOk K F xs ds) (hl : xs.length ≤ sizeLine) : ∀ p, H p = none → Q (.ref p) (upd H p (.tup xs)) := by
  intro p hp
  have fp : F p = none := by
    cases q : F p with
    | none => rfl
    | some u => rw [s.sub p u q] at hp; cases hp
  exact a (.ref p) (upd F p (.tup xs)) _ (s.updF hp) (Ext.updF s hp) (.dat (.tup (SqT.of upd_same) hl (h.mono (Same.updB fp)))) trivial
/-- a new list -/
theorem Aft.lst {xs : List V} {ds : List D} (a : Aft K as F H st (.own (.lst ds)) st Q) (s : StOk K F H as st) (h : DsOk K F xs ds) (hl : xs.length ≤ sizeLine) : ∀ p, H p = none → Q (.ref p) (upd H p (.lst xs)) := by
  intro p hp
  have fp : F p = none := by
    cases q : F p with
    | none => rfl
    | some u => rw [s.sub p u q] at hp; cases hp
  refine a (.ref p) F _ (s.upd hp) (Ext.updH hp) (.own fp (.lst upd_same hl h) fun z => ?_) (fun b e => by cases e; exact hp)
  exact s.cellSome z hp
end
theorem OpR.imp {X : Cx} {f : Value → Value → Sem Value} {r r' : R2} (h : OpR X f r) (i : ∀ x y H Q, r' x y H Q → r x y H Q) : OpR X f r' := fun pins s σ H x y v u Q I rx ry q => h pins s σ H x y v u Q I rx ry (i _ _ _ _ q)
theorem CallR.imp {X : Cx} {f : Value} {r r' : List V → Hp → VK → Prop} (h : CallR X f r) (i : ∀ xs H Q, r' xs H Q → r xs H Q) : CallR X f r' := fun pins s σ H xs us Q I rx q => h pins s σ H xs us Q I rx (i _ _ _ q)
def rBin (K : PySem.W.Frag) (op : Bop) : R2 := fun x y H Q => ∃ as F st p q r st', StOk K F H as st ∧ VOk K F H x p ∧ VOk K F H y q ∧ binop op p q st = .ok r st' ∧ Aft K as F H st r st' Q
def rCmp (K : PySem.W.Frag) (op : Cop) : R2 := fun x y H Q => ∃ as F st p q b st', StOk K F H as st ∧ VOk K F H x p ∧ VOk K F H y q ∧ cmpop op p q st = .ok b st' ∧ Q (.bl b) H
theorem no_inv {α : Type} {s' : Sto} {a : α} (h : (Res.no : Res α) = .ok a s') : False := nomatch h
section
variable {X : Cx}
theorem lenOk_iff {n : Nat} (h : lenOk n = true) : n ≤ sizeLine := of_decide_eq_true h
theorem op_bin {op : Bop} {op' : Operator} (h : bopB op op' = true) : OpR X (binaryOp op') (rBin X.K op) := by
  cases op with
  | add =>
    have e : op' = .Add := by cases op' <;> first | rfl | exact absurd h Bool.false_ne_true
    subst e
    refine OpR.imp (OpR.or op_add (OpR.or op_cat op_catA)) fun x y H Q hh => ?_
    obtain ⟨as, F, st, p, q, r, st', s, hx, hy, e, a⟩ := hh
    cases p with
    | int i =>
      cases q with
      | int j =>
        obtain ⟨rfl, rfl⟩ := pure_inv (show (pure (R.dat (.int (i + j))) : M R) st = .ok r st' from e)
        exact .inl ⟨i, j, hx.int, hy.int, a.dat s (.int _)⟩
      | _ => exact (no_inv e).elim
    | lst xs =>
      cases q with
      | lst ys =>
        obtain ⟨_, s1, e1, e2⟩ := bind_inv (show (M.guard (lenOk (xs.length + ys.length)) >>= fun _ => (pure (R.own (.lst (xs ++ ys))) : M R)) st = .ok r st' from e)
        obtain ⟨g, rfl⟩ := guard_inv e1
        obtain ⟨rfl, rfl⟩ := pure_inv e2
        obtain ⟨a1, vs, rfl, h1, l1, r1⟩ := hx.lst s.sub
        obtain ⟨a2, ws, rfl, h2, l2, r2⟩ := hy.lst s.sub
        have hz : vs.length + ws.length ≤ sizeLine := by rw [r1.length, r2.length]; exact lenOk_iff g
        exact .inr (.inl ⟨a1, a2, vs, ws, rfl, rfl, h1, h2, hz, a.lst s (r1.append r2) (by rw [List.length_append]; exact hz)⟩)
      | _ => exact (no_inv e).elim
    | tup xs =>
      cases q with
      | tup ys =>
        obtain ⟨_, s1, e1, e2⟩ := bind_inv (show (M.guard (lenOk (xs.length + ys.length)) >>= fun _ => (pure (R.dat (.tup (xs ++ ys))) : M R)) st = .ok r st' from e)
        obtain ⟨g, rfl⟩ := guard_inv e1
        obtain ⟨rfl, rfl⟩ := pure_inv e2
        obtain ⟨a1, vs, rfl, h1, l1, r1, d1⟩ := hx.tup s.sub
        obtain ⟨a2, ws, rfl, h2, l2, r2, d2⟩ := hy.tup s.sub
        have hz : vs.length + ws.length ≤ sizeLine := by rw [r1.length, r2.length]; exact lenOk_iff g
        refine .inr (.inr ⟨a1, a2, vs, ws, rfl, rfl, h1, h2, hz, fun z => ?_, fun z1 z2 => ?_, fun _ _ => a.tup s (r1.append r2) (by rw [List.length_append]; exact hz)⟩)
        · subst z
          cases r1
          exact a.dat s d2
        · subst z2
          cases r2
          rw [List.append_nil] at a
          exact a.dat s d1
      | _ => exact (no_inv e).elim
    | _ => exact (no_inv e).elim
  | sub =>
    have e : op' = .Sub := by cases op' <;> first | rfl | exact absurd h Bool.false_ne_true
    subst e
    refine OpR.imp op_sub fun x y H Q hh => ?_
    obtain ⟨as, F, st, p, q, r, st', s, hx, hy, e, a⟩ := hh
    cases p with
    | int i =>
      cases q with
      | int j =>
        obtain ⟨rfl, rfl⟩ := pure_inv (show (pure (R.dat (.int (i - j))) : M R) st = .ok r st' from e)
        exact ⟨i, j, hx.int, hy.int, a.dat s (.int _)⟩
      | _ => exact (no_inv e).elim
    | _ => exact (no_inv e).elim
  | mul =>
    have e : op' = .Mult := by cases op' <;> first | rfl | exact absurd h Bool.false_ne_true
    subst e
    refine OpR.imp op_mul fun x y H Q hh => ?_
    obtain ⟨as, F, st, p, q, r, st', s, hx, hy, e, a⟩ := hh
    cases p with
    | int i =>
      cases q with
      | int j =>
        obtain ⟨_, s1, e1, e2⟩ := bind_inv (show (M.guard (mulOk i j) >>= fun _ => (pure (R.dat (.int (i * j))) : M R)) st = .ok r st' from e)
        obtain ⟨g, rfl⟩ := guard_inv e1
        obtain ⟨rfl, rfl⟩ := pure_inv e2
        refine ⟨i, j, hx.int, hy.int, ?_, a.dat s (.int _)⟩
        unfold mulOk at g
        simp only [Bool.or_eq_true, Bool.and_eq_true, decide_eq_true_eq] at g
        exact g
      | _ => exact (no_inv e).elim
    | _ => exact (no_inv e).elim
  | mod =>
    have e : op' = .Mod := by cases op' <;> first | rfl | exact absurd h Bool.false_ne_true
    subst e
    refine OpR.imp op_mod fun x y H Q hh => ?_
    obtain ⟨as, F, st, p, q, r, st', s, hx, hy, e, a⟩ := hh
    cases p with
    | int i =>
      cases q with
      | int j =>
        obtain ⟨_, s1, e1, e2⟩ := bind_inv (show (M.guard (decide (0 < j)) >>= fun _ => (pure (R.dat (.int (i % j))) : M R)) st = .ok r st' from e)
        obtain ⟨g, rfl⟩ := guard_inv e1
        obtain ⟨rfl, rfl⟩ := pure_inv e2
        exact ⟨i, j, hx.int, hy.int, of_decide_eq_true g, a.dat s (.int _)⟩
      | _ => exact (no_inv e).elim
    | _ => exact (no_inv e).elim
  | fdiv =>
    have e : op' = .FloorDiv := by cases op' <;> first | rfl | exact absurd h Bool.false_ne_true
    subst e
    refine OpR.imp op_fdiv fun x y H Q hh => ?_
    obtain ⟨as, F, st, p, q, r, st', s, hx, hy, e, a⟩ := hh
    cases p with
    | int i =>
      cases q with
      | int j =>
        obtain ⟨_, s1, e1, e2⟩ := bind_inv (show (M.guard (decide (0 < j) && decide (j < 1073741824)) >>= fun _ => (pure (R.dat (.int (i / j))) : M R)) st = .ok r st' from e)
        obtain ⟨g, rfl⟩ := guard_inv e1
        obtain ⟨rfl, rfl⟩ := pure_inv e2
        simp only [Bool.and_eq_true, decide_eq_true_eq] at g
        exact ⟨i, j, hx.int, hy.int, g, a.dat s (.int _)⟩
      | _ => exact (no_inv e).elim
    | _ => exact (no_inv e).elim
  | pow =>
    have e : op' = .Pow := by cases op' <;> first | rfl | exact absurd h Bool.false_ne_true
    subst e
    refine OpR.imp op_pow fun x y H Q hh => ?_
    obtain ⟨as, F, st, p, q, r, st', s, hx, hy, e, a⟩ := hh
    cases p with
    | int i =>
      cases q with
      | int j =>
        obtain ⟨_, s1, e1, e2⟩ := bind_inv (show (M.guard (powOk i j) >>= fun _ => (pure (R.dat (.int (i ^ j.toNat))) : M R)) st = .ok r st' from e)
        obtain ⟨g, rfl⟩ := guard_inv e1
        obtain ⟨rfl, rfl⟩ := pure_inv e2
        unfold powOk at g
        simp only [Bool.and_eq_true, decide_eq_true_eq] at g
        exact ⟨i, j, hx.int, hy.int, g, a.dat s (.int _)⟩
      | _ => exact (no_inv e).elim
    | _ => exact (no_inv e).elim

/-! ### comparisons -/
def rInT (K : PySem.W.Frag) : R2 := fun x y H Q => ∃ d ds, Dp K H x d ∧ Dp K H y (.tuple ds) ∧ SeqAt.shaped d = true ∧ SeqAt.shaped (.list ds) = true ∧ Q (.bl (ds.any fun z => PyData.eqv z d)) H
def rNotInT (K : PySem.W.Frag) : R2 := fun x y H Q => ∃ d ds, Dp K H x d ∧ Dp K H y (.tuple ds) ∧ SeqAt.shaped d = true ∧ SeqAt.shaped (.list ds) = true ∧ Q (.bl (!ds.any fun z => PyData.eqv z d)) H
theorem room_in {A : Around} {d : PyData} {ds : List PyData} (h : SeqAt.shaped d = true) (hu : A.units + 65 < cLine) : A.units + 1 + min (PyData.depthAll ds) d.depth < cLine := by
  have h1 := SeqAt.depth_of_shaped h
  have h2 : min (PyData.depthAll ds) d.depth ≤ d.depth := Nat.min_le_right _ _
  omega
theorem op_inT (hu : X.A.units + 65 < cLine) : OpR X (compareOp .In) (rInT X.K) := by
  intro pins s σ H x y v u Q I rx ry h
  obtain ⟨d, ds, hd, he, sd, se, q⟩ := h
  obtain ⟨as, r1⟩ := Dp.reads I d x v hd rx
  obtain ⟨bs, r2⟩ := Dp.reads I (.tuple ds) y u he ry
  exact SeqAt.in_tuple_reads r2 r1 (SeqAt.canLay_of_shaped se) (SeqAt.canLay_of_shaped sd) (room_in sd hu) ⟨.bl _, H, I, rfl, q⟩
theorem op_notInT (hu : X.A.units + 65 < cLine) : OpR X (compareOp .NotIn) (rNotInT X.K) := by
  intro pins s σ H x y v u Q I rx ry h
  obtain ⟨d, ds, hd, he, sd, se, q⟩ := h
  obtain ⟨as, r1⟩ := Dp.reads I d x v hd rx
  obtain ⟨bs, r2⟩ := Dp.reads I (.tuple ds) y u he ry
  exact SeqAt.notIn_tuple_reads r2 r1 (SeqAt.canLay_of_shaped se) (SeqAt.canLay_of_shaped sd) (room_in sd hu) ⟨.bl _, H, I, rfl, q⟩
theorem deq_inv {a b : D} {k : Bool} (h : deq a b = some k) : ∃ p q, a.toP = some p ∧ b.toP = some q ∧ SeqAt.shaped p = true ∧ SeqAt.shaped q = true ∧ k = PyData.eqv p q := by
  unfold deq at h
  split at h
  · rename_i p q e1 e2
    split at h
    · rename_i g
      cases h
      simp only [Bool.and_eq_true] at g
      exact ⟨p, q, e1, e2, g.1, g.2, rfl⟩
    · cases h
  · cases h
theorem din_inv {a : D} {bs : List D} {k : Bool} (h : din a bs = some k) : ∃ p qs, a.toP = some p ∧ D.toPs bs = some qs ∧ SeqAt.shaped p = true ∧ SeqAt.shaped (.list qs) = true ∧ k = qs.any fun q => PyData.eqv q p := by
  unfold din at h
  split at h
  · rename_i p q e1 e2
    split at h
    · rename_i g
      cases h
      simp only [Bool.and_eq_true] at g
      exact ⟨p, q, e1, e2, g.1, g.2, rfl⟩
    · cases h
  · cases h
theorem toP_lst {ds : List D} {qs : List PyData} (h : D.toPs ds = some qs) : (D.lst ds).toP = some (.list qs) := by simp only [D.toP, h]
theorem toP_tup {ds : List D} {qs : List PyData} (h : D.toPs ds = some qs) : (D.tup ds).toP = some (.tuple qs) := by simp only [D.toP, h]
theorem op_cmp {op : Cop} {op' : CmpOp} (h : copB op op' = true) (hu : X.A.units + 65 < cLine) : OpR X (compareOp op') (rCmp X.K op) := by
  cases op with
  | eq =>
    have e : op' = .Eq := by cases op' <;> first | rfl | exact absurd h Bool.false_ne_true
    subst e
    refine OpR.imp (op_eqD (by omega)) fun x y H Q hh => ?_
    obtain ⟨as, F, st, p, q, b, st', s, hx, hy, e, a⟩ := hh
    obtain ⟨e1, rfl⟩ := opt_inv (show M.opt (deq p q) st = .ok b st' from e)
    obtain ⟨d, f, h1, h2, h3, h4, rfl⟩ := deq_inv e1
    exact ⟨d, f, hx.dp s.sub h1, hy.dp s.sub h2, h3, h4, a⟩
  | ne =>
    have e : op' = .NotEq := by cases op' <;> first | rfl | exact absurd h Bool.false_ne_true
    subst e
    refine OpR.imp (op_neD (by omega)) fun x y H Q hh => ?_
    obtain ⟨as, F, st, p, q, b, st', s, hx, hy, e, a⟩ := hh
    obtain ⟨k, s1, e0, e2⟩ := bind_inv (show (M.opt (deq p q) >>= fun r => (pure (!r) : M Bool)) st = .ok b st' from e)
    obtain ⟨e1, rfl⟩ := opt_inv e0
    obtain ⟨rfl, rfl⟩ := pure_inv e2
    obtain ⟨d, f, h1, h2, h3, h4, rfl⟩ := deq_inv e1
    exact ⟨d, f, hx.dp s.sub h1, hy.dp s.sub h2, h3, h4, a⟩
  | lt =>
    have e : op' = .Lt := by cases op' <;> first | rfl | exact absurd h Bool.false_ne_true
    subst e
    refine OpR.imp op_lt fun x y H Q hh => ?_
    obtain ⟨as, F, st, p, q, b, st', s, hx, hy, e, a⟩ := hh
    cases p with
    | int i =>
      cases q with
      | int j =>
        obtain ⟨rfl, rfl⟩ := pure_inv (show (pure (decide (i < j)) : M Bool) st = .ok b st' from e)
        exact ⟨i, j, hx.int, hy.int, a⟩
      | _ => exact (no_inv e).elim
    | _ => exact (no_inv e).elim
  | le =>
    have e : op' = .LtE := by cases op' <;> first | rfl | exact absurd h Bool.false_ne_true
    subst e
    refine OpR.imp op_le fun x y H Q hh => ?_
    obtain ⟨as, F, st, p, q, b, st', s, hx, hy, e, a⟩ := hh
    cases p with
    | int i =>
      cases q with
      | int j =>
        obtain ⟨rfl, rfl⟩ := pure_inv (show (pure (decide (i ≤ j)) : M Bool) st = .ok b st' from e)
        exact ⟨i, j, hx.int, hy.int, a⟩
      | _ => exact (no_inv e).elim
    | _ => exact (no_inv e).elim
  | gt =>
    have e : op' = .Gt := by cases op' <;> first | rfl | exact absurd h Bool.false_ne_true
    subst e
    refine OpR.imp op_gt fun x y H Q hh => ?_
    obtain ⟨as, F, st, p, q, b, st', s, hx, hy, e, a⟩ := hh
    cases p with
    | int i =>
      cases q with
      | int j =>
        obtain ⟨rfl, rfl⟩ := pure_inv (show (pure (decide (j < i)) : M Bool) st = .ok b st' from e)
        exact ⟨i, j, hx.int, hy.int, a⟩
      | _ => exact (no_inv e).elim
    | _ => exact (no_inv e).elim
  | ge =>
    have e : op' = .GtE := by cases op' <;> first | rfl | exact absurd h Bool.false_ne_true
    subst e
    refine OpR.imp op_ge fun x y H Q hh => ?_
    obtain ⟨as, F, st, p, q, b, st', s, hx, hy, e, a⟩ := hh
    cases p with
    | int i =>
      cases q with
      | int j =>
        obtain ⟨rfl, rfl⟩ := pure_inv (show (pure (decide (j ≤ i)) : M Bool) st = .ok b st' from e)
        exact ⟨i, j, hx.int, hy.int, a⟩
      | _ => exact (no_inv e).elim
    | _ => exact (no_inv e).elim
  | mem =>
    have e : op' = .In := by cases op' <;> first | rfl | exact absurd h Bool.false_ne_true
    subst e
    refine OpR.imp (OpR.or (op_inD hu) (op_inT hu)) fun x y H Q hh => ?_
    obtain ⟨as, F, st, p, q, b, st', s, hx, hy, e, a⟩ := hh
    cases q with
    | lst ys =>
      obtain ⟨e1, rfl⟩ := opt_inv (show M.opt (din p ys) st = .ok b st' by cases p <;> exact e)
      obtain ⟨d, f, h1, h2, h3, h4, rfl⟩ := din_inv e1
      exact .inl ⟨d, f, hx.dp s.sub h1, hy.dp s.sub (toP_lst h2), h3, h4, a⟩
    | tup ys =>
      obtain ⟨e1, rfl⟩ := opt_inv (show M.opt (din p ys) st = .ok b st' by cases p <;> exact e)
      obtain ⟨d, f, h1, h2, h3, h4, rfl⟩ := din_inv e1
      exact .inr ⟨d, f, hx.dp s.sub h1, hy.dp s.sub (toP_tup h2), h3, h4, a⟩
    | _ => cases p <;> exact (no_inv e).elim
  | nmem =>
    have e : op' = .NotIn := by cases op' <;> first | rfl | exact absurd h Bool.false_ne_true
    subst e
    refine OpR.imp (OpR.or (op_notInD hu) (op_notInT hu)) fun x y H Q hh => ?_
    obtain ⟨as, F, st, p, q, b, st', s, hx, hy, e, a⟩ := hh
    cases q with
    | lst ys =>
      obtain ⟨k, s1, e0, e2⟩ := bind_inv (show (M.opt (din p ys) >>= fun r => (pure (!r) : M Bool)) st = .ok b st' by cases p <;> exact e)
      obtain ⟨e1, rfl⟩ := opt_inv e0
      obtain ⟨rfl, rfl⟩ := pure_inv e2
      obtain ⟨d, f, h1, h2, h3, h4, rfl⟩ := din_inv e1
      exact .inl ⟨d, f, hx.dp s.sub h1, hy.dp s.sub (toP_lst h2), h3, h4, a⟩
    | tup ys =>
      obtain ⟨k, s1, e0, e2⟩ := bind_inv (show (M.opt (din p ys) >>= fun r => (pure (!r) : M Bool)) st = .ok b st' by cases p <;> exact e)
      obtain ⟨e1, rfl⟩ := opt_inv e0
      obtain ⟨rfl, rfl⟩ := pure_inv e2
      obtain ⟨d, f, h1, h2, h3, h4, rfl⟩ := din_inv e1
      exact .inr ⟨d, f, hx.dp s.sub h1, hy.dp s.sub (toP_tup h2), h3, h4, a⟩
    | _ => cases p <;> exact (no_inv e).elim

/-! ### built-in functions -/
def VsOk (K : PySem.W.Frag) (F H : Hp) : List V → List D → Prop := fun vs ds => Paired (VOk K F H) vs ds
def rBi (K : PySem.W.Frag) (b : Bi) : List V → Hp → VK → Prop := fun vs H Q => ∃ as F st ds r st', StOk K F H as st ∧ VsOk K F H vs ds ∧ bltn b ds st = .ok r st' ∧ Aft K as F H st r st' Q
theorem ints_inv : ∀ {ds : List D} {is : List Int}, intsOf ds = some is → ds = is.map D.int
  | [], _, h => by cases h; rfl
  | d :: ds, _, h => by
    cases d with
    | int i =>
      have h' : (match intsOf ds with | some is => some (i :: is) | none => none) = some _ := h
      split at h'
      · rename_i js e
        cases h'
        rw [ints_inv e]
        rfl
      · cases h'
    | _ => cases h
theorem bls_inv : ∀ {ds : List D} {is : List Bool}, blsOf ds = some is → ds = is.map D.bl
  | [], _, h => by cases h; rfl
  | d :: ds, _, h => by
    cases d with
    | bl i =>
      have h' : (match blsOf ds with | some is => some (i :: is) | none => none) = some _ := h
      split at h'
      · rename_i js e
        cases h'
        rw [bls_inv e]
        rfl
      · cases h'
    | _ => cases h
theorem DsOk.bls {K : PySem.W.Frag} {F : Hp} : ∀ {vs : List V} {is : List Bool}, DsOk K F vs (is.map D.bl) → vs = is.map V.bl
  | [], [], _ => rfl
  | [], _ :: _, h => by cases h
  | _ :: _, [], h => by cases h
  | v :: vs, i :: is, h => by
    cases h with
    | cons h r =>
      cases h
      rw [DsOk.bls r]
      rfl
theorem DsOk.ints {K : PySem.W.Frag} {F : Hp} : ∀ {vs : List V} {is : List Int}, DsOk K F vs (is.map D.int) → vs = is.map V.int
  | [], [], _ => rfl
  | [], _ :: _, h => by cases h
  | _ :: _, [], h => by cases h
  | v :: vs, i :: is, h => by
    cases h with
    | cons h r =>
      cases h
      rw [DsOk.ints r]
      rfl
/-- the built-in's own value -/
def biVal : Bi → Value
  | .len => .builtin "len" | .all => .builtin "all" | .any => .builtin "any" | .abs => .builtin "abs" | .min => .builtin "min" | .max => .builtin "max" | .divmod => .builtin "divmod"
  | .int => .type "int" | .tuple => .type "tuple" | .list => .type "list"
theorem prd1 {α β : Type} {G : α → β → Prop} {xs : List α} {b : β} (h : Paired G xs [b]) : ∃ a, xs = [a] ∧ G a b := by
  cases h with
  | cons h r => cases r; exact ⟨_, rfl, h⟩
theorem prd2 {α β : Type} {G : α → β → Prop} {xs : List α} {b c : β} (h : Paired G xs [b, c]) : ∃ a a', xs = [a, a'] ∧ G a b ∧ G a' c := by
  cases h with
  | cons h r =>
    cases r with
    | cons h' r => cases r; exact ⟨_, _, rfl, h, h'⟩
theorem arg1_inv {ds : List D} {d : D} (h : arg1 ds = some d) : ds = [d] := by
  match ds, h with
  | [_], h => cases h; rfl
theorem arg2_inv {ds : List D} {d : D × D} (h : arg2 ds = some d) : ds = [d.1, d.2] := by
  match ds, h with
  | [_, _], h => cases h; rfl
/-- one argument -/
theorem bi1 {f : D → M R} {K : PySem.W.Frag} {F H : Hp} {xs : List V} {ds : List D} {st st' : Sto} {r : R} (hv : VsOk K F H xs ds) (e : (M.opt (arg1 ds) >>= f) st = .ok r st') : ∃ v d, xs = [v] ∧ VOk K F H v d ∧ f d st = .ok r st' := by
  obtain ⟨d, s1, e0, e2⟩ := bind_inv e
  obtain ⟨e1, rfl⟩ := opt_inv e0
  rw [arg1_inv e1] at hv
  obtain ⟨v, rfl, h⟩ := prd1 hv
  exact ⟨v, d, rfl, h, e2⟩
theorem bi2 {f : D × D → M R} {K : PySem.W.Frag} {F H : Hp} {xs : List V} {ds : List D} {st st' : Sto} {r : R} (hv : VsOk K F H xs ds) (e : (M.opt (arg2 ds) >>= f) st = .ok r st') : ∃ v w d, xs = [v, w] ∧ VOk K F H v d.1 ∧ VOk K F H w d.2 ∧ f d st = .ok r st' := by
  obtain ⟨d, s1, e0, e2⟩ := bind_inv e
  obtain ⟨e1, rfl⟩ := opt_inv e0
  rw [arg2_inv e1] at hv
  obtain ⟨v, w, rfl, h, h'⟩ := prd2 hv
  exact ⟨v, w, d, rfl, h, h', e2⟩
theorem call_bi {b : Bi} (hc : X.calm = true) : CallR X (biVal b) (rBi X.K b) := by
  cases b with
  | len =>
    refine CallR.imp (CallR.or call_len_seq call_len_str) fun xs H Q hh => ?_
    obtain ⟨as, F, st, ds, r, st', s, hv, e, a⟩ := hh
    obtain ⟨v, d, rfl, hx, e⟩ := bi1 (f := lenB) hv e
    cases d with
    | tup ys =>
      obtain ⟨rfl, rfl⟩ := pure_inv (show (pure (R.dat (.int ys.length)) : M R) st = .ok r st' from e)
      obtain ⟨a1, vs, rfl, h1, l1, r1, d1⟩ := hx.tup s.sub
      exact .inl ⟨a1, vs, rfl, .inr h1, by rw [r1.length]; exact a.dat s (.int _)⟩
    | lst ys =>
      obtain ⟨rfl, rfl⟩ := pure_inv (show (pure (R.dat (.int ys.length)) : M R) st = .ok r st' from e)
      obtain ⟨a1, vs, rfl, h1, l1, r1⟩ := hx.lst s.sub
      exact .inl ⟨a1, vs, rfl, .inl (SqL.of h1), by rw [r1.length]; exact a.dat s (.int _)⟩
    | scr ys =>
      obtain ⟨rfl, rfl⟩ := pure_inv (show (pure (R.dat (.int ys.length)) : M R) st = .ok r st' from e)
      obtain ⟨a1, vs, rfl, h1, l1, r1⟩ := hx.scr s.sub
      exact .inl ⟨a1, vs, rfl, .inl h1, by rw [r1.length]; exact a.dat s (.int _)⟩
    | str z =>
      obtain ⟨_, s1, e1, e2⟩ := bind_inv (show (M.guard (lenOk z.length) >>= fun _ => (pure (R.dat (.int z.length)) : M R)) st = .ok r st' from e)
      obtain ⟨g, rfl⟩ := guard_inv e1
      obtain ⟨rfl, rfl⟩ := pure_inv e2
      exact .inr ⟨z, by rw [hx.str], lenOk_iff g, a.dat s (.int _)⟩
    | _ => exact (no_inv e).elim
  | all =>
    refine CallR.imp (cr_all hc) fun xs H Q hh => ?_
    obtain ⟨as, F, st, ds, r, st', s, hv, e, a⟩ := hh
    obtain ⟨v, d, rfl, hx, e⟩ := bi1 (f := allB) hv e
    cases d with
    | lst ys =>
      obtain ⟨bs, s1, e0, e2⟩ := bind_inv (show (M.opt (blsOf ys) >>= fun bs => (pure (R.dat (.bl (bs.all id))) : M R)) st = .ok r st' from e)
      obtain ⟨e1, rfl⟩ := opt_inv e0
      obtain ⟨rfl, rfl⟩ := pure_inv e2
      obtain ⟨a1, vs, rfl, h1, l1, r1⟩ := hx.lst s.sub
      rw [bls_inv e1] at r1
      rw [r1.bls] at h1
      exact ⟨a1, bs, rfl, SqL.of h1, a.dat s (.bl _)⟩
    | _ => exact (no_inv e).elim
  | any =>
    refine CallR.imp (cr_any hc) fun xs H Q hh => ?_
    obtain ⟨as, F, st, ds, r, st', s, hv, e, a⟩ := hh
    obtain ⟨v, d, rfl, hx, e⟩ := bi1 (f := anyB) hv e
    cases d with
    | lst ys =>
      obtain ⟨bs, s1, e0, e2⟩ := bind_inv (show (M.opt (blsOf ys) >>= fun bs => (pure (R.dat (.bl (bs.any id))) : M R)) st = .ok r st' from e)
      obtain ⟨e1, rfl⟩ := opt_inv e0
      obtain ⟨rfl, rfl⟩ := pure_inv e2
      obtain ⟨a1, vs, rfl, h1, l1, r1⟩ := hx.lst s.sub
      rw [bls_inv e1] at r1
      rw [r1.bls] at h1
      exact ⟨a1, bs, rfl, SqL.of h1, a.dat s (.bl _)⟩
    | _ => exact (no_inv e).elim
  | int =>
    refine CallR.imp call_int1 fun xs H Q hh => ?_
    obtain ⟨as, F, st, ds, r, st', s, hv, e, a⟩ := hh
    obtain ⟨v, d, rfl, hx, e⟩ := bi1 (f := intB) hv e
    cases d with
    | int i =>
      obtain ⟨rfl, rfl⟩ := pure_inv (show (pure (R.dat (.int i)) : M R) st = .ok r st' from e)
      exact .inl ⟨i, by rw [hx.int], a.dat s (.int _)⟩
    | _ => exact (no_inv e).elim
  | abs =>
    refine CallR.imp call_abs fun xs H Q hh => ?_
    obtain ⟨as, F, st, ds, r, st', s, hv, e, a⟩ := hh
    obtain ⟨v, d, rfl, hx, e⟩ := bi1 (f := absB) hv e
    cases d with
    | int i =>
      obtain ⟨rfl, rfl⟩ := pure_inv (show (pure (R.dat (.int (if i < 0 then -i else i))) : M R) st = .ok r st' from e)
      exact ⟨i, by rw [hx.int], a.dat s (.int _)⟩
    | _ => exact (no_inv e).elim
  | min =>
    refine CallR.imp (call_min2 hc) fun xs H Q hh => ?_
    obtain ⟨as, F, st, ds, r, st', s, hv, e, a⟩ := hh
    obtain ⟨v, w, ⟨d1, d2⟩, rfl, hx, hy, e⟩ := bi2 (f := fun p => minB p.1 p.2) hv e
    cases d1 with
    | int i =>
      cases d2 with
      | int j =>
        obtain ⟨rfl, rfl⟩ := pure_inv (show (pure (R.dat (.int (if j < i then j else i))) : M R) st = .ok r st' from e)
        exact ⟨i, j, by rw [hx.int, hy.int], a.dat s (.int _)⟩
      | _ => exact (no_inv e).elim
    | _ => exact (no_inv e).elim
  | max =>
    refine CallR.imp (call_max2 hc) fun xs H Q hh => ?_
    obtain ⟨as, F, st, ds, r, st', s, hv, e, a⟩ := hh
    obtain ⟨v, w, ⟨d1, d2⟩, rfl, hx, hy, e⟩ := bi2 (f := fun p => maxB p.1 p.2) hv e
    cases d1 with
    | int i =>
      cases d2 with
      | int j =>
        obtain ⟨rfl, rfl⟩ := pure_inv (show (pure (R.dat (.int (if j > i then j else i))) : M R) st = .ok r st' from e)
        exact ⟨i, j, by rw [hx.int, hy.int], a.dat s (.int _)⟩
      | _ => exact (no_inv e).elim
    | _ => exact (no_inv e).elim
  | divmod =>
    refine CallR.imp call_divmodW fun xs H Q hh => ?_
    obtain ⟨as, F, st, ds, r, st', s, hv, e, a⟩ := hh
    obtain ⟨v, w, ⟨d1, d2⟩, rfl, hx, hy, e⟩ := bi2 (f := fun p => dmB p.1 p.2) hv e
    cases d1 with
    | int i =>
      cases d2 with
      | int j =>
        obtain ⟨_, s1, e1, e2⟩ := bind_inv (show (M.guard (decide (0 < j) && decide (i.natAbs < 2 ^ 4000)) >>= fun _ => (pure (R.dat (.tup [.int (i / j), .int (i % j)])) : M R)) st = .ok r st' from e)
        obtain ⟨g, rfl⟩ := guard_inv e1
        obtain ⟨rfl, rfl⟩ := pure_inv e2
        simp only [Bool.and_eq_true, decide_eq_true_eq] at g
        refine ⟨i, j, by rw [hx.int, hy.int], divp_ok g.1 ?_, a.tup s (.cons (.int _) (.cons (.int _) .nil)) (by show 2 ≤ sizeLine; decide)⟩
        have hb : Builtin.Int.intBits i ≤ 4000 := by
          unfold Builtin.Int.intBits
          split
          · exact Nat.zero_le _
          · rename_i hz
            have hne : i.natAbs ≠ 0 := by
              have : ¬ i = 0 := by simpa using hz
              omega
            have := (Nat.log2_lt hne).mpr g.2
            omega
        omega
      | _ => exact (no_inv e).elim
    | _ => exact (no_inv e).elim
  | tuple =>
    refine CallR.imp call_tuple_of fun xs H Q hh => ?_
    obtain ⟨as, F, st, ds, r, st', s, hv, e, a⟩ := hh
    obtain ⟨v, d, rfl, hx, e⟩ := bi1 (f := tupB) hv e
    cases d with
    | tup ys =>
      obtain ⟨rfl, rfl⟩ := pure_inv (show (pure (R.dat (.tup ys)) : M R) st = .ok r st' from e)
      obtain ⟨a1, vs, rfl, h1, l1, r1, d1⟩ := hx.tup s.sub
      exact ⟨a1, vs, rfl, .inr ⟨h1, a.dat s d1⟩⟩
    | lst ys =>
      obtain ⟨rfl, rfl⟩ := pure_inv (show (pure (R.dat (.tup ys)) : M R) st = .ok r st' from e)
      obtain ⟨a1, vs, rfl, h1, l1, r1⟩ := hx.lst s.sub
      exact ⟨a1, vs, rfl, .inl ⟨SqL.of h1, a.tup s r1 l1⟩⟩
    | _ => exact (no_inv e).elim
  | list =>
    refine CallR.imp call_list_of fun xs H Q hh => ?_
    obtain ⟨as, F, st, ds, r, st', s, hv, e, a⟩ := hh
    obtain ⟨v, d, rfl, hx, e⟩ := bi1 (f := lstB) hv e
    cases d with
    | tup ys =>
      obtain ⟨rfl, rfl⟩ := pure_inv (show (pure (R.own (.lst ys)) : M R) st = .ok r st' from e)
      obtain ⟨a1, vs, rfl, h1, l1, r1, d1⟩ := hx.tup s.sub
      exact ⟨a1, vs, rfl, .inr h1, a.lst s r1 l1⟩
    | lst ys =>
      obtain ⟨rfl, rfl⟩ := pure_inv (show (pure (R.own (.lst ys)) : M R) st = .ok r st' from e)
      obtain ⟨a1, vs, rfl, h1, l1, r1⟩ := hx.lst s.sub
      exact ⟨a1, vs, rfl, .inl (SqL.of h1), a.lst s r1 l1⟩
    | scr ys =>
      obtain ⟨rfl, rfl⟩ := pure_inv (show (pure (R.own (.lst ys)) : M R) st = .ok r st' from e)
      obtain ⟨a1, vs, rfl, h1, l1, r1⟩ := hx.scr s.sub
      exact ⟨a1, vs, rfl, .inl h1, a.lst s r1 l1⟩
    | _ => exact (no_inv e).elim
/-! ### indices, slices, isinstance, truth -/
def rIxD (K : PySem.W.Frag) : R2 := fun x y H Q => ∃ (as : List Addr) (F : Hp) (st : Sto) (ds : List D) (d : D) (j : Int), StOk K F H as st ∧ (VOk K F H x (.tup ds) ∨ VOk K F H x (.lst ds) ∨ VOk K F H x (.scr ds)) ∧ y = .int j ∧ at? ds j = some d ∧ ∀ v, DOk K F v d → Q v H
theorem DsOk.atI {K : PySem.W.Frag} {F : Hp} {vs : List V} {ds : List D} {j : Int} {d : D} (h : DsOk K F vs ds) (e : at? ds j = some d) : ∃ v, L2.atI vs j = some v ∧ DOk K F v d := by
  unfold at? at e
  unfold L2.atI at e ⊢
  rw [h.length]
  cases q : ixN ds.length j with
  | none => rw [q] at e; cases e
  | some i =>
    rw [q] at e
    exact h.get (i := i) e
theorem IxR.imp {X : Cx} {r r' : R2} (h : IxR X r) (i : ∀ x y H Q, r' x y H Q → r x y H Q) : IxR X r' := by
  intro a b pins s σ H x y v u Q I rx ry q
  exact h a b pins s σ H x y v u Q I rx ry (i _ _ _ _ q)
theorem ix_D : IxR X (rIxD X.K) := by
  refine IxR.imp ix_seq fun x y H Q h => ?_
  obtain ⟨as, F, st, ds, d, j, so, hx, rfl, e, q⟩ := h
  rcases hx with hx | hx | hx
  · obtain ⟨a1, vs, rfl, h1, l1, r1, d1⟩ := hx.tup so.sub
    obtain ⟨w, e2, hw⟩ := r1.atI e
    exact .inr (.inl ⟨a1, vs, j, w, rfl, rfl, h1, e2, q w hw⟩)
  · obtain ⟨a1, vs, rfl, h1, l1, r1⟩ := hx.lst so.sub
    obtain ⟨w, e2, hw⟩ := r1.atI e
    exact .inl ⟨a1, vs, j, w, rfl, rfl, SqL.of h1, e2, q w hw⟩
  · obtain ⟨a1, vs, rfl, h1, l1, r1⟩ := hx.scr so.sub
    obtain ⟨w, e2, hw⟩ := r1.atI e
    exact .inl ⟨a1, vs, j, w, rfl, rfl, h1, e2, q w hw⟩
def rSlD (K : PySem.W.Frag) : V → Option Int → Option Int → Hp → VK → Prop := fun x lo hi H Q => ∃ as F st p r st', StOk K F H as st ∧ VOk K F H x p ∧ slB p lo hi st = .ok r st' ∧ Aft K as F H st r st' Q
theorem DsOk.cut {K : PySem.W.Frag} {F : Hp} {vs : List V} {ds : List D} {lo hi : Option Int} (h : DsOk K F vs ds) : DsOk K F (cutV vs lo hi) (cut ds lo hi) := by
  unfold cutV DB.cut
  rw [h.length]
  exact (h.drop _).take _
theorem cut_whole {ds : List D} {lo hi : Option Int} (h : HT.sIx ds.length 0 lo = 0 ∧ HT.sIx ds.length ds.length hi = ds.length) : cut ds lo hi = ds := by
  unfold cut
  rw [h.1, h.2]
  simp
theorem sl_D : SlR X (rSlD X.K) := by
  intro pins s σ H x v vl vu lo hi sl Q I rx hs pl pu h
  obtain ⟨as, F, st, p, r, st', so, hx, e, a⟩ := h
  cases p with
  | tup ys =>
    obtain ⟨rfl, rfl⟩ := pure_inv (show (pure (R.dat (.tup (cut ys lo hi))) : M R) st = .ok r st' from e)
    obtain ⟨a1, vs, rfl, h1, l1, r1, d1⟩ := hx.tup so.sub
    refine sl_tupA pins s σ H _ v vl vu lo hi sl Q I rx hs pl pu ⟨a1, vs, rfl, h1, fun z => ?_, fun _ => a.tup so r1.cut (Nat.le_trans (cutV_length _ _ _) l1)⟩
    rw [r1.length] at z
    rw [cut_whole z] at a
    exact a.dat so d1
  | lst ys =>
    obtain ⟨rfl, rfl⟩ := pure_inv (show (pure (R.own (.lst (cut ys lo hi))) : M R) st = .ok r st' from e)
    obtain ⟨a1, vs, rfl, h1, l1, r1⟩ := hx.lst so.sub
    exact sl_list pins s σ H _ v vl vu lo hi sl Q I rx hs pl pu ⟨a1, vs, rfl, SqL.of h1, a.lst so r1.cut (Nat.le_trans (cutV_length _ _ _) l1)⟩
  | scr ys =>
    obtain ⟨rfl, rfl⟩ := pure_inv (show (pure (R.own (.lst (cut ys lo hi))) : M R) st = .ok r st' from e)
    obtain ⟨a1, vs, rfl, h1, l1, r1⟩ := hx.scr so.sub
    exact sl_list pins s σ H _ v vl vu lo hi sl Q I rx hs pl pu ⟨a1, vs, rfl, h1, a.lst so r1.cut (Nat.le_trans (cutV_length _ _ _) l1)⟩
  | _ => exact (no_inv e).elim
theorem SqL.tyX {K : PySem.W.Frag} {H : Hp} {a : Addr} {xs : List V} (h : SqL K H a xs) : TyX K H (.ref a) (.type "list") := by
  rcases h with (h | ⟨o, h⟩) | ⟨o, its, n, h1, h2, _⟩
  · exact .base (.lst h)
  · exact .base (.frz h)
  · exact .kList h1 h2
theorem SqT.tyX {K : PySem.W.Frag} {H : Hp} {a : Addr} {xs : List V} (h : SqT K H a xs) : TyX K H (.ref a) (.type "tuple") := by
  rcases h with (h | ⟨o, h⟩) | ⟨o, its, n, h1, h2, _⟩
  · exact .base (.tup h)
  · exact .fTuple h
  · exact .kTuple h1 h2
theorem VOk.tyX {K : PySem.W.Frag} {F H : Hp} {v : V} {d : D} (s : Same F H) (h : VOk K F H v d) (ho : (tyName d != "object") = true) : TyX K H v (.type (tyName d)) := by
  cases d with
  | non => rw [h.non]; exact .base .non
  | bl b => rw [h.bl]; exact .base (.bl b)
  | int i => rw [h.int]; exact .base (.int i)
  | str x => rw [h.str]; exact .base (.str x)
  | tup ds => obtain ⟨a, vs, rfl, h1, _⟩ := h.tup s; exact SqT.tyX h1
  | lst ds => obtain ⟨a, vs, rfl, h1, _⟩ := h.lst s; exact .base (.lst h1)
  | scr ds => obtain ⟨a, vs, rfl, h1, _⟩ := h.scr s; exact SqL.tyX h1
  | dct _ =>
    cases h with
    | dat h => cases h
    | cel h => cases h
  | obj _ _ => exact absurd ho (by simp [tyName])
theorem kitB_names {tn t : String} (h1 : tn = "NoneType" ∨ tn = "bool" ∨ tn = "int" ∨ tn = "str" ∨ tn = "tuple" ∨ tn = "list" ∨ tn = "dict") (h2 : t = "int" ∨ t = "bool" ∨ t = "str" ∨ t = "tuple" ∨ t = "list" ∨ t = "dict") :
    kitB tn t = some ((tn == t) || (t == "int" && tn == "bool")) := by
  rcases h1 with rfl | rfl | rfl | rfl | rfl | rfl | rfl <;> rcases h2 with rfl | rfl | rfl | rfl | rfl | rfl <;> decide +kernel
theorem kitB_ok {t : String} (ht : tyOk t = true) {d : D} (ho : (tyName d != "object") = true) : kitB (tyName d) t = some (isTy t d) := by
  have ht' : t = "int" ∨ t = "bool" ∨ t = "str" ∨ t = "tuple" ∨ t = "list" ∨ t = "dict" := by
    have : t ∈ ["int", "bool", "str", "tuple", "list", "dict"] := by simpa [tyOk] using ht
    simpa using this
  refine kitB_names ?_ ht'
  cases d with
  | obj _ _ => exact absurd ho (by simp [tyName])
  | _ => simp [tyName]
theorem VOk.tru {K : PySem.W.Frag} {F H : Hp} {v : V} {d : D} {b : Bool} {st st' : Sto} (s : Same F H) (h : VOk K F H v d) (e : truth d st = .ok b st') : TruV K v H b ∧ st' = st := by
  cases d with
  | non => rw [h.non]; obtain ⟨rfl, rfl⟩ := pure_inv (show (pure false : M Bool) st = .ok b st' from e); exact ⟨rfl, rfl⟩
  | bl k => rw [h.bl]; obtain ⟨rfl, rfl⟩ := pure_inv (show (pure k : M Bool) st = .ok b st' from e); exact ⟨rfl, rfl⟩
  | int i => rw [h.int]; obtain ⟨rfl, rfl⟩ := pure_inv (show (pure (i != 0) : M Bool) st = .ok b st' from e); exact ⟨rfl, rfl⟩
  | str z =>
    rw [h.str]
    obtain ⟨_, s1, e1, e2⟩ := bind_inv (show (M.guard (lenOk z.length) >>= fun _ => (pure (z.length != 0) : M Bool)) st = .ok b st' from e)
    obtain ⟨g, rfl⟩ := guard_inv e1
    obtain ⟨rfl, rfl⟩ := pure_inv e2
    refine ⟨⟨lenOk_iff g, ?_⟩, rfl⟩
    rw [Bool.eq_iff_iff]
    simp
  | tup ds =>
    obtain ⟨a, vs, rfl, h1, _, r, _⟩ := h.tup s
    obtain ⟨rfl, rfl⟩ := pure_inv (show (pure (!ds.isEmpty) : M Bool) st = .ok b st' from e)
    exact ⟨.inr (.inl ⟨vs, h1, by cases r <;> rfl⟩), rfl⟩
  | lst ds =>
    obtain ⟨a, vs, rfl, h1, _, r⟩ := h.lst s
    obtain ⟨rfl, rfl⟩ := pure_inv (show (pure (!ds.isEmpty) : M Bool) st = .ok b st' from e)
    exact ⟨.inl ⟨vs, SqL.of h1, by cases r <;> rfl⟩, rfl⟩
  | scr ds =>
    obtain ⟨a, vs, rfl, h1, _, r⟩ := h.scr s
    obtain ⟨rfl, rfl⟩ := pure_inv (show (pure (!ds.isEmpty) : M Bool) st = .ok b st' from e)
    exact ⟨.inl ⟨vs, h1, by cases r <;> rfl⟩, rfl⟩
  | _ => exact (no_inv e).elim
end
end DB
set_option maxHeartbeats 1000000
namespace DB
open PySem PySem.Spec L2

structure Know where
  fn : Nat → Fn → Prop
  gl : Str → D → Prop
  kw : Nat → Nat → List Str → List D → List Nat → Prop
mutual
def KnE (k : Know) : E → Prop
  | .k _ => True
  | .v _ => True
  | .glob x d => k.gl x d
  | .bin _ a b => KnE k a ∧ KnE k b
  | .neg a => KnE k a
  | .cmp _ a b => KnE k a ∧ KnE k b
  | .chain _ _ a b c => KnE k a ∧ KnE k b ∧ KnE k c
  | .isN _ a => KnE k a
  | .and es => KnEs k es
  | .or es => KnEs k es
  | .not a => KnE k a
  | .ite t a b => KnT k t ∧ KnE k a ∧ KnE k b
  | .tup es => KnEs k es
  | .lst es => KnEs k es
  | .ix a i => KnE k a ∧ KnE k i
  | .sl a lo hi => KnE k a ∧ KnEs k lo ∧ KnEs k hi
  | .isI _ a => KnE k a
  | .call f id es => k.fn id f ∧ KnEs k es
  | .callK f id n ks dd perm es kes => k.fn id f ∧ k.kw id n ks dd perm ∧ KnEs k es ∧ KnEs k kes
  | .bi _ es => KnEs k es
  | .mth _ a es => KnE k a ∧ KnEs k es
  | .comp tg it cond elt => KnTg k tg ∧ KnIt k it ∧ KnTs k cond ∧ KnE k elt
def KnEs (k : Know) : Es → Prop
  | .nil => True
  | .cons e es => KnE k e ∧ KnEs k es
def KnT (k : Know) : T → Prop
  | .val e => KnE k e
  | .and ts => KnTs k ts
  | .or ts => KnTs k ts
  | .not t => KnT k t
  | .cmp _ a b => KnE k a ∧ KnE k b
  | .chain _ _ a b c => KnE k a ∧ KnE k b ∧ KnE k c
  | .isN _ a => KnE k a
def KnTs (k : Know) : Ts → Prop
  | .nil => True
  | .cons t ts => KnT k t ∧ KnTs k ts
def KnIt (k : Know) : It → Prop
  | .seq e => KnE k e
  | .rng es => KnEs k es
  | .enum e => KnE k e
  | .zip a b => KnE k a ∧ KnE k b
def KnTg (k : Know) : Tg → Prop
  | .n _ => True
  | .t ts => KnTgs k ts
  | .ix a i => KnE k a ∧ KnE k i
def KnTgs (k : Know) : Tgs → Prop
  | .nil => True
  | .cons t ts => KnTg k t ∧ KnTgs k ts
end
/-- what a def of ours promises -/
def spF (K : PySem.W.Frag) (f : Fn) : Sp := fun vs H Q _ => ∃ as F st rs r st', StOk K F H as st ∧ RsOk K F H as vs rs ∧ runFn f rs st = .ok r st' ∧
  ∀ v F' H', StOk K F' H' as st' → Ext (ownsA vs rs) as F H st as F' H' st' → ROk K F' H' as v r → (∀ a ∈ ownA v r, H a = none ∨ a ∈ ownsA vs rs) → Q v H'
/-- the values of a call with keywords and defaults, in the parameters' order -/
def gP {α : Type} (perm : List Nat) (d : List α) (us ws : List α) : List α := permL perm (us ++ (ws ++ d))
def freeNames : List Str := ["len", "all", "any", "int", "abs", "min", "max", "tuple", "list", "range", "enumerate", "zip", "isinstance", "bool", "str", "dict", "divmod"]
structure XOk (c : AC) (kn : Know) (k : Nat) (X : Cx) : Prop where
  N : X.N = c.N
  nd : X.N.Nodup
  sc : X.env.scope = c.sc
  calm : X.calm = true
  fn : ∀ x, (match c.blk with | none => True | some s => s.names.lookup x = some .cell) → X.fn x = true
  room : Room k X.A
  free : ∀ x ∈ freeNames, X.mg x = none
  gl : ∀ x d, kn.gl x d → ∃ u v, X.mg x = some u ∧ RelV v u ∧ ∀ F, DOk X.K F v d
  call : ∀ id f x, kn.fn id f → c.fns[id]? = some x → ∃ fa fd ps, X.mg x = some (.ref fa) ∧ PySem.W.keepIn X.K (.ref fa) = true ∧ Binds X.K fd ps [] ∧ FnOk X.prog X.w X.K X.mg X.base CX0 k fa fd ps (spF X.K f)
  callK : ∀ id f x n ks dd perm, kn.fn id f → kn.kw id n ks dd perm → c.fns[id]? = some x → ∃ fa fd ps dv du, X.mg x = some (.ref fa) ∧ PySem.W.keepIn X.K (.ref fa) = true ∧ KBn X.K fd ps n ks (gP perm du) (gP perm dv) ∧ (∀ F, DsOk X.K F dv dd) ∧
    FnOk X.prog X.w X.K X.mg X.base CX0 k fa fd ps (spF X.K f)
section
variable {c : AC} {kn : Know} {k : Nat} {X : Cx}
theorem XOk.units (x : XOk c kn k X) : X.A.units + 65 < cLine := by have := x.room.un; omega
theorem XOk.glb (x : XOk c kn k X) {y : Str} (h : glB c.sc y = true) : Gl X y ∧ (y == ("__debug__" : Str)) = false := by
  unfold glB at h
  simp only [Bool.and_eq_true, decide_eq_true_eq, Bool.not_eq_true'] at h
  refine ⟨?_, h.2⟩
  show X.env.scope.names.lookup y = _
  rw [x.sc]
  exact h.1
theorem XOk.vis (x : XOk c kn k X) {y : Str} (h : visB c.sc y = true) : Vis X.env.scope y := by
  unfold visB at h
  unfold Vis
  rw [x.sc]
  split at h
  · exact .inl (by assumption)
  · exact .inr (.inl (by assumption))
  · exact .inr (.inr (by assumption))
  · cases h
theorem XOk.loc (x : XOk c kn k X) {y : Str} (h : locB c.sc c.blk y = true) : L2.Loc X.env.scope y ∧ (X.fn y = true ∨ X.env.scope.names.lookup y = some .local) := by
  unfold locB at h
  unfold L2.Loc
  rw [x.sc]
  split at h
  · rename_i q
    exact ⟨.inl q, .inr q⟩
  · rename_i q
    refine ⟨.inr q, .inl (x.fn y ?_)⟩
    split at h
    · rename_i e
      first | trivial | (rw [e]; trivial)
    · rename_i s e
      first | exact beq_iff_eq.mp h | (rw [e]; exact beq_iff_eq.mp h)
  · cases h
/-- a comprehension's block -/
theorem XOk.blk (x : XOk c kn k X) {scope : Scope} (s : Shared) (H : Hp) (C : Addr) (cl : List (Str × Addr)) (fp : List Addr) : XOk (c.sub scope) kn k (X.blk s H scope (compEnvC scope cl C X.env) fp) where
  N := x.N
  nd := x.nd
  sc := by
    show relS scope X.env.scope = relS scope c.sc
    rw [x.sc]
  calm := x.calm
  fn := fun y hy => by
    have hy : scope.names.lookup y = some .cell := hy
    show (scope.names.lookup y == some .cell) = true
    rw [hy]
    rfl
  room := x.room
  free := x.free
  gl := x.gl
  call := x.call
  callK := x.callK
end
theorem PE.imp {X : Cx} {e : Expr} {t t' : TE} (h : PE X e t) (i : ∀ σ H Q, t' σ H Q → t σ H Q) : PE X e t' := ⟨fun pins s σ H Q I hw => h.run pins s σ H Q I (i _ _ _ hw)⟩
theorem PT.imp {X : Cx} {e : Expr} {t t' : TT} (h : PT X e t) (i : ∀ σ H Q, t' σ H Q → t σ H Q) : PT X e t' := ⟨fun pins s σ H Q I hw => h.run pins s σ H Q I (i _ _ _ hw)⟩
theorem PW.imp {X : Cx} {e : Expr} {t t' : TT} (h : PW X e t) (i : ∀ σ H Q, t' σ H Q → t σ H Q) : PW X e t' := ⟨fun wh pins s σ H Q I hw => h.run wh pins s σ H Q I (i _ _ _ hw)⟩
theorem PA.imp {X : Cx} {e : List Expr} {t t' : TA} (h : PA X e t) (i : ∀ σ H Q, t' σ H Q → t σ H Q) : PA X e t' := ⟨fun pos pins s σ H Q I hw => h.run pos pins s σ H Q I (i _ _ _ hw)⟩
theorem PTs.imp {X : Cx} {e : List Expr} {t t' : TT} (h : PTs X e t) (i : ∀ σ H Q, t' σ H Q → t σ H Q) : PTs X e t' := ⟨fun pins s σ H Q I hw => h.run pins s σ H Q I (i _ _ _ hw)⟩
theorem PO.imp {X : Cx} {e : Option Expr} {t t' : TO} (h : PO X e t) (i : ∀ σ H Q, t' σ H Q → t σ H Q) : PO X e t' := ⟨fun pins s σ H Q I hw => h.run pins s σ H Q I (i _ _ _ hw)⟩
theorem PI.imp {X : Cx} {tg e : Expr} {t t' : TI} (h : PI X tg e t) (i : ∀ σ H R, t' σ H R → t σ H R) : PI X tg e t' := ⟨fun pins s σ H R I hw => h.run pins s σ H R I (i _ _ _ hw)⟩
theorem PG.imp {X : Cx} {e : Expr} {t t' : TG} (h : PG X e t) (i : ∀ v σ H Q, t' v σ H Q → t v σ H Q) : PG X e t' := ⟨fun pins s σ H v u Q I r hw => h.run pins s σ H v u Q I r (i _ _ _ _ hw)⟩
theorem PGs.imp {X : Cx} {e : List Expr} {t t' : TGs} (h : PGs X e t) (i : ∀ v σ H Q, t' v σ H Q → t v σ H Q) : PGs X e t' := ⟨fun pins s σ H v u Q I r hw => h.run pins s σ H v u Q I r (i _ _ _ _ hw)⟩
theorem PS.imp {X : Cx} {e : Stmt} {t t' : TS} (h : PS X e t) (i : ∀ D σ H, t' D σ H → t D σ H) : PS X e t' := ⟨fun pins s σ H D I hw => h.run pins s σ H D I (i _ _ _ hw)⟩
theorem PSs.imp {X : Cx} {e : List Stmt} {t t' : TS} (h : PSs X e t) (i : ∀ D σ H, t' D σ H → t D σ H) : PSs X e t' := ⟨fun pins s σ H D I hw => h.run pins s σ H D I (i _ _ _ hw)⟩

/-! ### of the syntax -/
theorem star_cons {e : Expr} {es : List Expr} {env : PySem.Env} (h : notStar e = true) : starEach (e :: es) env = (false, eval e env) :: starEach es env := by
  cases e <;> first | rfl | exact absurd h Bool.false_ne_true
theorem plain_ix {b : Expr} (h : notSlice b = true) : PlainIx b := by
  intro o i
  cases b <;> first | rfl | exact absurd h Bool.false_ne_true
theorem marks_of {op : CmpOp} {b : Expr} (h : notSet b = true) : behindInMarks op b = false := by
  cases b <;> first | rfl | exact absurd h Bool.false_ne_true
theorem fold_of {it : Expr} {env : PySem.Env} (h : notSet it = true) (x : Value) : foldedSetIterable it env x = pure x := by
  cases it <;> first | rfl | exact absurd h Bool.false_ne_true
theorem plain_of {e : Expr} {env : PySem.Env} (h : plainX e = true) (whole : Sem Value) : isTrue e env whole = (do let v ← whole; standAt e.pos; holding [v] (truthy v)) := by
  cases e with
  | UnaryOp op a p => cases op <;> first | rfl | exact absurd h Bool.false_ne_true
  | _ => first | rfl | exact absurd h Bool.false_ne_true
theorem agEs_star {c : AC} : ∀ {es : Es} {es' : List Expr}, agEs c es es' = true → ∀ e ∈ es', notStar e = true
  | .nil, [], _ => fun _ h => nomatch h
  | .nil, _ :: _, h => absurd h Bool.false_ne_true
  | .cons _ _, [], h => absurd h Bool.false_ne_true
  | .cons e es, e' :: es', h => fun x hx => by
    have h : (notStar e' && (agE c e e' && agEs c es es')) = true := h
    simp only [Bool.and_eq_true] at h
    rcases List.mem_cons.mp hx with rfl | hx
    · exact h.1
    · exact agEs_star h.2.2 x hx
theorem backTo_plain {pos : Pos} {env : PySem.Env} : ∀ {es : List Expr}, (∀ e ∈ es, notStar e = true) → (backTo pos (starEach es env)).any (·.1) = false
  | [], _ => rfl
  | e :: es, h => by
    rw [star_cons (h e (List.mem_cons_self ..))]
    have ih := backTo_plain (pos := pos) (env := env) (es := es) fun x hx => h x (List.mem_cons_of_mem _ hx)
    show (false || (backTo pos (starEach es env)).any (·.1)) = false
    rw [ih]
    rfl
theorem b2 {a b : Bool} (h : (a && b) = true) : a = true ∧ b = true := Bool.and_eq_true_iff.mp h
theorem own_map {N : List Str} {is : List Nat} : (ownOf N is).map (·.2) = is := by
  unfold ownOf
  rw [List.map_map]
  exact List.map_id' is
theorem wipe_eq (σ : L2.St) : ∀ is : List Nat, L2.wipe (L2.wipe σ is) is = L2.wipe σ is := by
  intro is
  apply List.ext_getElem?
  intro i
  have key : ∀ (τ : L2.St) (js : List Nat) (i : Nat), (L2.wipe τ js)[i]? = if i ∈ js then (τ[i]?.map fun _ => none) else τ[i]? := by
    intro τ js
    induction js with
    | nil => intro i; simp [L2.wipe]
    | cons j js ih =>
      intro i
      unfold L2.wipe
      by_cases e : j = i
      · subst e
        rw [if_pos (List.mem_cons_self ..)]
        by_cases hj : j < τ.length
        · rw [List.getElem?_set_self (by rw [L2.wipe_length]; exact hj), List.getElem?_eq_getElem hj]
          rfl
        · rw [List.getElem?_eq_none (by rw [List.length_set, L2.wipe_length]; omega), List.getElem?_eq_none (by omega)]
          rfl
      · rw [List.getElem?_set_ne e, ih]
        by_cases hm : i ∈ js
        · rw [if_pos hm, if_pos (List.mem_cons_of_mem _ hm)]
        · rw [if_neg hm, if_neg (by simp [hm]; exact fun z => e z.symm)]
  rw [key, key]
  split
  · cases σ[i]? <;> rfl
  · rfl
theorem wipe_get {α : Type} (τ : List (Option α)) (w : List (Option α) → List Nat → List (Option α)) (h0 : ∀ τ, w τ [] = τ) (h1 : ∀ τ v vs, w τ (v :: vs) = (w τ vs).set v none) (js : List Nat) :
    ∀ i : Nat, (w τ js)[i]? = if i ∈ js then (τ[i]?.map fun _ => none) else τ[i]? := by
  have hl : ∀ js, (w τ js).length = τ.length := by
    intro js
    induction js with
    | nil => rw [h0]
    | cons j js ih => rw [h1, List.length_set, ih]
  induction js with
  | nil => intro i; rw [h0]; simp
  | cons j js ih =>
    intro i
    rw [h1]
    by_cases e : j = i
    · subst e
      rw [if_pos (List.mem_cons_self ..)]
      by_cases hj : j < τ.length
      · rw [List.getElem?_set_self (by rw [hl]; exact hj), List.getElem?_eq_getElem hj]
        rfl
      · rw [List.getElem?_eq_none (by rw [List.length_set, hl]; omega), List.getElem?_eq_none (by omega)]
        rfl
    · rw [List.getElem?_set_ne e, ih]
      by_cases hm : i ∈ js
      · rw [if_pos hm, if_pos (List.mem_cons_of_mem _ hm)]
      · rw [if_neg hm, if_neg (by simp [hm]; exact fun z => e z.symm)]
theorem EnvOk.wipe {K : PySem.W.Frag} {F : Hp} {as : List Addr} {σ : L2.St} {env : Env} (h : EnvOk K F as σ env) (is : List Nat) : EnvOk K F as (L2.wipe σ is) (DB.wipe env is) := by
  have g1 := wipe_get σ L2.wipe (fun _ => rfl) (fun _ _ _ => rfl) is
  have g2 := wipe_get env DB.wipe (fun _ => rfl) (fun _ _ _ => rfl) is
  refine ⟨?_, fun i r hi => ?_⟩
  · have hl : ∀ js, (DB.wipe env js).length = env.length := by
      intro js
      induction js with
      | nil => rfl
      | cons j js ih => unfold DB.wipe; rw [List.length_set, ih]
    rw [hl, L2.wipe_length, h.len]
  · rw [g2] at hi
    rw [g1]
    split at hi
    · cases q : env[i]? with
      | none => rw [q] at hi; cases hi
      | some o => rw [q] at hi; cases hi
    · rename_i hm
      rw [if_neg hm]
      exact h.get i r hi
theorem EnvOk.set {K : PySem.W.Frag} {F : Hp} {as : List Addr} {σ : L2.St} {env : Env} (h : EnvOk K F as σ env) (i : Nat) {v : V} {r : R} (hr : (∃ d, r = .dat d ∧ DOk K F v d) ∨ ∃ c a, r = .cell c ∧ v = .ref a ∧ as[c]? = some a) :
    EnvOk K F as (σ.set i (some v)) (env.set i (some r)) := by
  refine ⟨by rw [List.length_set, List.length_set, h.len], fun j q hj => ?_⟩
  by_cases e : i = j
  · subst e
    by_cases hi : i < env.length
    · rw [List.getElem?_set_self hi] at hj
      cases hj
      exact ⟨v, List.getElem?_set_self (by rw [← h.len]; exact hi), hr⟩
    · rw [List.getElem?_eq_none (by rw [List.length_set]; omega)] at hj
      cases hj
  · rw [List.getElem?_set_ne e] at hj
    rw [List.getElem?_set_ne e]
    exact h.get j q hj
end DB
set_option maxHeartbeats 4000000
namespace DB
open PySem PySem.Spec L2

section
variable {c : AC} {kn : Know} {k : Nat} {X : Cx}
/-! ### one lemma a form -/
theorem cmp_st {op : Cop} {p q : D} {st st' : Sto} {b : Bool} (e : cmpop op p q st = .ok b st') : st' = st := by
  have key : ∀ (o : Option Bool), M.opt o st = .ok b st' → st' = st := fun o h => (opt_inv h).2
  have key2 : ∀ (o : Option Bool), (M.opt o >>= fun r => (pure (!r) : M Bool)) st = .ok b st' → st' = st := fun o h => by
    obtain ⟨a, s1, h1, h2⟩ := bind_inv h
    obtain ⟨_, rfl⟩ := opt_inv h1
    exact (pure_inv h2).2
  cases op with
  | eq => exact key _ e
  | ne => exact key2 _ e
  | mem => cases q <;> first | exact key _ (show M.opt (din p _) st = .ok b st' by cases p <;> exact e) | (cases p <;> exact (no_inv e).elim)
  | nmem => cases q <;> first | exact key2 _ (show (M.opt (din p _) >>= fun r => (pure (!r) : M Bool)) st = .ok b st' by cases p <;> exact e) | (cases p <;> exact (no_inv e).elim)
  | _ => cases p <;> first | exact (no_inv e).elim | (cases q <;> first | exact (no_inv e).elim | (cases e; rfl))
theorem s_k {d : D} {e' : Expr} (x : XOk c kn k X) (h : agE c (.k d) e' = true) : PE X e' (tE X.K (.k d)) := by
  cases e' with
  | Constant v j p =>
    have h : constB d v = true := h
    have fin : ∀ w, DOk X.K (fun _ => none) w d → (∀ F, DOk X.K F w d) → PE X (.Constant v j p) (tC w) → PE X (.Constant v j p) (tE X.K (.k d)) := fun w _ hw hp => PE.imp hp fun σ H Q hh => by
      obtain ⟨as, F, st, env, r, st', s, en, e, a⟩ := hh
      obtain ⟨rfl, rfl⟩ := pure_inv (show (pure (R.dat d) : M R) st = .ok r st' from e)
      exact a w F H s .refl (.dat (hw F)) trivial
    cases d with
    | non => cases v <;> first | exact absurd h Bool.false_ne_true | exact fin .non .non (fun _ => .non) pe_non
    | bl b => cases v <;> first | exact absurd h Bool.false_ne_true | (cases (show b = _ from beq_iff_eq.mp h); exact fin (.bl b) (.bl b) (fun _ => .bl b) pe_bl)
    | int i => cases v <;> first | exact absurd h Bool.false_ne_true | (cases (show i = _ from of_decide_eq_true h); exact fin (.int i) (.int i) (fun _ => .int i) pe_int)
    | str z => cases v <;> first | exact absurd h Bool.false_ne_true | (cases (show z = _ from of_decide_eq_true h); exact fin (.str z) (.str z) (fun _ => .str z) pe_str)
    | _ => cases v <;> exact absurd h Bool.false_ne_true
  | _ => exact absurd h Bool.false_ne_true
theorem s_v {i : Nat} {e' : Expr} (x : XOk c kn k X) (h : agE c (.v i) e' = true) : PE X e' (tE X.K (.v i)) := by
  cases e' with
  | Name y p =>
    have h : (decide (c.N[i]? = some y) && (visB c.sc y && (!(y == ("__debug__" : Str)) && !(y == ("__classdict__" : Str))))) = true := h
    obtain ⟨h1, h⟩ := b2 h
    obtain ⟨h2, h⟩ := b2 h
    obtain ⟨h3, h4⟩ := b2 h
    refine PE.imp (pe_var (i := i) (x := y) (by rw [x.N]; exact of_decide_eq_true h1) (x.vis h2) (by simpa using h3) (by simpa using h4)) fun σ H Q hh => ?_
    obtain ⟨as, F, st, env, r, st', s, en, e, a⟩ := hh
    obtain ⟨e1, rfl⟩ := opt_inv (show M.opt env[i]?.join st = .ok r st' from e)
    have e2 : env[i]? = some (some r) := by
      cases q : env[i]? with
      | none => rw [q] at e1; cases e1
      | some o => rw [q] at e1; cases o with
        | none => cases e1
        | some r' => cases e1; rfl
    obtain ⟨v, hv, hr⟩ := en.get i r e2
    refine ⟨v, hv, a v F H s .refl ?_ ?_⟩
    · rcases hr with ⟨d, rfl, hd⟩ | ⟨c', a', rfl, rfl, ha⟩
      · exact .dat hd
      · exact .cell ha
    · rcases hr with ⟨d, rfl, hd⟩ | ⟨c', a', rfl, rfl, ha⟩ <;> trivial
  | _ => exact absurd h Bool.false_ne_true
theorem s_glob {y : Str} {d : D} {e' : Expr} (x : XOk c kn k X) (hk : kn.gl y d) (h : agE c (.glob y d) e' = true) : PE X e' (tE X.K (.glob y d)) := by
  cases e' with
  | Name z p =>
    obtain ⟨h1, h2⟩ := b2 (show (decide (y = z) && glB c.sc z) = true from h)
    cases of_decide_eq_true h1
    obtain ⟨g1, d1⟩ := x.glb h2
    obtain ⟨u, v, hm, hr, hd⟩ := x.gl y d hk
    refine PE.imp (pe_glob g1 hm hr d1) fun σ H Q hh => ?_
    obtain ⟨as, F, st, env, r, st', s, en, e, a⟩ := hh
    obtain ⟨rfl, rfl⟩ := pure_inv (show (pure (R.dat d) : M R) st = .ok r st' from e)
    exact a v F H s .refl (.dat (hd F)) trivial
  | _ => exact absurd h Bool.false_ne_true
/-- two operands, then what both are -/
theorem two_ops {a b : E} {σ : L2.St} {H : Hp} {Q : VK} {as : List Addr} {F : Hp} {st st' : Sto} {env : Env} {α : Type} {f : D → D → M α} {r : α} {G : V → V → Hp → Prop}
    (s : StOk X.K F H as st) (en : EnvOk X.K F as σ env) (e : (evE a env >>= fun x => evE b env >>= fun y => peek x >>= fun p => peek y >>= fun q => f p q) st = .ok r st')
    (fin : ∀ x y F2 H2 st2 p q, StOk X.K F2 H2 as st2 → Ext [] as F H st as F2 H2 st2 → VOk X.K F2 H2 x p → VOk X.K F2 H2 y q → f p q st2 = .ok r st' → G x y H2) :
    tE X.K a σ H fun x H1 => tE X.K b σ H1 fun y H2 => G x y H2 := by
  obtain ⟨ra, s1, e1, z1⟩ := bind_inv e
  obtain ⟨rb, s2, e2, z2⟩ := bind_inv z1
  obtain ⟨p, s3, e3, z3⟩ := bind_inv z2
  obtain ⟨q, s4, e4, z4⟩ := bind_inv z3
  refine ⟨as, F, st, env, ra, s1, s, en, e1, fun v F1 H1 k1 x1 r1 f1 => ?_⟩
  refine ⟨as, F1, s1, env, rb, s2, k1, en.ext x1, e2, fun w F2 H2 k2 x2 r2 f2 => ?_⟩
  obtain ⟨rfl, v1⟩ := peek_ok k2 (r1.ext k1.len x2 fun _ _ z => nomatch z) e3
  obtain ⟨rfl, v2⟩ := peek_ok k2 r2 e4
  exact fin v w F2 H2 s4 p q k2 (x1.trans s.len k1.len x2) v1 v2 z4
theorem s_bin {op : Bop} {a b : E} {e' : Expr} (x : XOk c kn k X) (h : agE c (.bin op a b) e' = true)
    (ha : ∀ a', agE c a a' = true → PE X a' (tE X.K a)) (hb : ∀ b', agE c b b' = true → PE X b' (tE X.K b)) : PE X e' (tE X.K (.bin op a b)) := by
  cases e' with
  | BinOp a' op' b' p =>
    obtain ⟨h1, h⟩ := b2 (show (bopB op op' && (agE c a a' && agE c b b')) = true from h)
    obtain ⟨h2, h3⟩ := b2 h
    refine PE.imp (pe_op (op_bin h1) (ha a' h2) (hb b' h3)) fun σ H Q hh => ?_
    obtain ⟨as, F, st, env, r, st', s, en, e, af⟩ := hh
    refine two_ops (Q := Q) (f := binop op) s en e fun v w F2 H2 st2 p q k2 x2 v1 v2 e5 => ?_
    exact ⟨as, F2, st2, p, q, r, st', k2, v1, v2, e5, fun u F3 H3 k3 x3 r3 f3 => af u F3 H3 k3 (x2.trans s.len k2.len x3) r3 (Fresh.back x2 f3)⟩
  | _ => exact absurd h Bool.false_ne_true
theorem s_cmp {op : Cop} {a b : E} {e' : Expr} (x : XOk c kn k X) (h : agE c (.cmp op a b) e' = true)
    (ha : ∀ a', agE c a a' = true → PE X a' (tE X.K a)) (hb : ∀ b', agE c b b' = true → PE X b' (tE X.K b)) : PE X e' (tE X.K (.cmp op a b)) := by
  cases e' with
  | Compare a' ops bs p =>
    match ops, bs, h with
    | [op'], [b'], h =>
      obtain ⟨h1, h⟩ := b2 (show (copB op op' && (notSet b' && (agE c a a' && agE c b b'))) = true from h)
      obtain ⟨h0, h⟩ := b2 h
      obtain ⟨h2, h3⟩ := b2 h
      refine PE.imp (pe_cmpR (op_cmp h1 x.units) (ha a' h2) (hb b' h3) (marks_of h0)) fun σ H Q hh => ?_
      obtain ⟨as, F, st, env, r, st', s, en, e, af⟩ := hh
      refine two_ops (Q := Q) (f := fun p q => cmpop op p q >>= fun b => pure (R.dat (.bl b))) s en e fun v w F2 H2 st2 p q k2 x2 v1 v2 e5 => ?_
      obtain ⟨b, s3, e6, e7⟩ := bind_inv e5
      obtain ⟨rfl, rfl⟩ := pure_inv e7
      have e8 := cmp_st e6
      subst e8
      exact ⟨as, F2, _, p, q, b, _, k2, v1, v2, e6, af (.bl b) F2 H2 k2 x2 (.dat (.bl b)) trivial⟩
    | [], _, h => exact absurd h Bool.false_ne_true
    | [_], [], h => exact absurd h Bool.false_ne_true
    | [_], _ :: _ :: _, h => exact absurd h Bool.false_ne_true
    | _ :: _ :: _, _, h => exact absurd h Bool.false_ne_true
  | _ => exact absurd h Bool.false_ne_true
end
end DB
set_option maxHeartbeats 4000000
namespace DB
open PySem PySem.Spec L2
def lenEs : Es → Nat
  | .nil => 0
  | .cons _ es => lenEs es + 1
section
variable {c : AC} {kn : Know} {k : Nat} {X : Cx}
theorem s_neg {a : E} {e' : Expr} (x : XOk c kn k X) (h : agE c (.neg a) e' = true) (ha : ∀ a', agE c a a' = true → PE X a' (tE X.K a)) : PE X e' (tE X.K (.neg a)) := by
  cases e' with
  | UnaryOp op a' p =>
    cases op with
    | USub =>
      refine PE.imp (pe_un un_neg (ha a' h)) fun σ H Q hh => ?_
      obtain ⟨as, F, st, env, r, st', s, en, e, af⟩ := hh
      obtain ⟨ra, s1, e1, z1⟩ := bind_inv (show (evE a env >>= fun r => match r with | .dat (.int i) => pure (.dat (.int (-i))) | _ => M.no) st = .ok r st' from e)
      refine ⟨as, F, st, env, ra, s1, s, en, e1, fun v F1 H1 k1 x1 r1 f1 => ?_⟩
      cases ra with
      | dat d =>
        cases d with
        | int i =>
          obtain ⟨rfl, rfl⟩ := pure_inv (show (pure (R.dat (.int (-i))) : M R) s1 = .ok r st' from z1)
          cases r1 with
          | dat r1 =>
            cases r1
            exact ⟨i, rfl, af (.int (-i)) F1 H1 k1 x1 (.dat (.int _)) trivial⟩
        | _ => exact (no_inv z1).elim
      | _ => exact (no_inv z1).elim
    | _ => exact absurd h Bool.false_ne_true
  | _ => exact absurd h Bool.false_ne_true
/-- a chain of two comparisons, read -/
theorem chain_run {op op' : Cop} {a b d : E} {σ : L2.St} {H : Hp} {Q : VK} {as : List Addr} {F : Hp} {st st' : Sto} {env : Env} {α : Type} {g : Bool → M α} {r : α}
    (s : StOk X.K F H as st) (en : EnvOk X.K F as σ env)
    (e : (evE a env >>= fun x => evE b env >>= fun y => peek x >>= fun p => peek y >>= fun q => cmpop op p q >>= fun r => if r then (evE d env >>= fun z => peek y >>= fun q' => peek z >>= fun t => cmpop op' q' t >>= g) else g false) st = .ok r st')
    (fin : ∀ F2 H2 st2 b, StOk X.K F2 H2 as st2 → Ext [] as F H st as F2 H2 st2 → g b st2 = .ok r st' → Q (.bl b) H2) :
    tChain (rCmp X.K op) (rCmp X.K op') (tE X.K a) (tE X.K b) (tE X.K d) σ H Q := by
  obtain ⟨ra, s1, e1, z1⟩ := bind_inv e
  obtain ⟨rb, s2, e2, z2⟩ := bind_inv z1
  obtain ⟨p, s3, e3, z3⟩ := bind_inv z2
  obtain ⟨q, s4, e4, z4⟩ := bind_inv z3
  obtain ⟨b1, s5, e5, z5⟩ := bind_inv z4
  refine ⟨as, F, st, env, ra, s1, s, en, e1, fun v F1 H1 k1 x1 r1 f1 => ?_⟩
  refine ⟨as, F1, s1, env, rb, s2, k1, en.ext x1, e2, fun w F2 H2 k2 x2 r2 f2 => ?_⟩
  obtain ⟨rfl, v1⟩ := peek_ok k2 (r1.ext k1.len x2 fun _ _ z => nomatch z) e3
  obtain ⟨rfl, v2⟩ := peek_ok k2 r2 e4
  have e6 := cmp_st e5
  subst e6
  have x12 : Ext [] as F H st as F2 H2 s5 := x1.trans s.len k1.len x2
  refine ⟨as, F2, s5, p, q, b1, s5, k2, v1, v2, e5, b1, rfl, ?_⟩
  cases b1 with
  | false =>
    rw [if_neg Bool.false_ne_true]
    exact fin F2 H2 s5 false k2 x12 (by simpa using z5)
  | true =>
    rw [if_pos rfl]
    obtain ⟨rd, t1, g1, y1⟩ := bind_inv (show (evE d env >>= fun z => peek rb >>= fun q' => peek z >>= fun t => cmpop op' q' t >>= g) s5 = .ok r st' from z5)
    obtain ⟨q', t2, g2, y2⟩ := bind_inv y1
    obtain ⟨t, t3, g3, y3⟩ := bind_inv y2
    obtain ⟨b2, t4, g4, y4⟩ := bind_inv y3
    refine ⟨as, F2, s5, env, rd, t1, k2, (en.ext x1).ext x2, g1, fun u F3 H3 k3 x3 r3 f3 => ?_⟩
    obtain ⟨rfl, v3⟩ := peek_ok k3 (r2.ext k2.len x3 fun _ _ z => nomatch z) g2
    obtain ⟨rfl, v4⟩ := peek_ok k3 r3 g3
    have e7 := cmp_st g4
    subst e7
    exact ⟨as, F3, t4, q', t, b2, t4, k3, v3, v4, g4, fin F3 H3 t4 b2 k3 (x12.trans s.len k2.len x3) y4⟩
theorem marks2 {o1 o2 : CmpOp} {b d : Expr} (h : notSet d = true) : lastMarks [o1, o2] [b, d] = false := by
  show behindInMarks o2 d = false
  exact marks_of h
theorem s_chain {op op2 : Cop} {a b d : E} {e' : Expr} (x : XOk c kn k X) (h : agE c (.chain op op2 a b d) e' = true)
    (ha : ∀ a', agE c a a' = true → PE X a' (tE X.K a)) (hb : ∀ b', agE c b b' = true → PE X b' (tE X.K b)) (hd : ∀ b', agE c d b' = true → PE X b' (tE X.K d)) : PE X e' (tE X.K (.chain op op2 a b d)) := by
  cases e' with
  | Compare a' ops bs p =>
    match ops, bs, h with
    | [p1, p2], [b', d'], h =>
      obtain ⟨h1, h⟩ := b2 (show (copB op p1 && (copB op2 p2 && (notSet d' && (agE c a a' && (agE c b b' && agE c d d'))))) = true from h)
      obtain ⟨h2, h⟩ := b2 h
      obtain ⟨h3, h⟩ := b2 h
      obtain ⟨h4, h⟩ := b2 h
      obtain ⟨h5, h6⟩ := b2 h
      refine PE.imp (pe_chain (op_cmp h1 x.units) (op_cmp h2 x.units) (ha a' h4) (hb b' h5) (hd d' h6) (marks2 h3)) fun σ H Q hh => ?_
      obtain ⟨as, F, st, env, r, st', s, en, e, af⟩ := hh
      refine chain_run (g := fun b => pure (R.dat (.bl b))) s en e fun F2 H2 st2 b k2 x2 z => ?_
      obtain ⟨rfl, rfl⟩ := pure_inv z
      exact af (.bl b) F2 H2 k2 x2 (.dat (.bl b)) trivial
    | [], _, h => exact absurd h Bool.false_ne_true
    | [_], _, h => exact absurd h Bool.false_ne_true
    | [_, _], [], h => exact absurd h Bool.false_ne_true
    | [_, _], [_], h => exact absurd h Bool.false_ne_true
    | [_, _], _ :: _ :: _ :: _, h => exact absurd h Bool.false_ne_true
    | _ :: _ :: _ :: _, _, h => exact absurd h Bool.false_ne_true
  | _ => exact absurd h Bool.false_ne_true
/-- is None, is not None, read -/
theorem isN_run {no : Bool} {a : E} {σ : L2.St} {H : Hp} {as : List Addr} {F : Hp} {st st' : Sto} {env : Env} {α : Type} {g : Bool → M α} {r : α} {G : V → Hp → Prop}
    (s : StOk X.K F H as st) (en : EnvOk X.K F as σ env) (e : (evE a env >>= fun x => match x with | .dat .non => g (!no) | _ => g no) st = .ok r st')
    (fin : ∀ v F2 H2 st2 b, StOk X.K F2 H2 as st2 → Ext [] as F H st as F2 H2 st2 → b = (decide (v = V.non) != no) → g b st2 = .ok r st' → G v H2) : tE X.K a σ H G := by
  obtain ⟨ra, s1, e1, z1⟩ := bind_inv e
  refine ⟨as, F, st, env, ra, s1, s, en, e1, fun v F1 H1 k1 x1 r1 f1 => ?_⟩
  cases r1 with
  | dat r1 =>
    cases r1 with
    | non => exact fin _ F1 H1 s1 (!no) k1 x1 (by cases no <;> rfl) z1
    | bl b => exact fin _ F1 H1 s1 no k1 x1 (by cases no <;> simp) z1
    | int b => exact fin _ F1 H1 s1 no k1 x1 (by cases no <;> simp) z1
    | str b => exact fin _ F1 H1 s1 no k1 x1 (by cases no <;> simp) z1
    | tup h1 h2 h3 => exact fin _ F1 H1 s1 no k1 x1 (by cases no <;> simp) z1
    | lst h1 h2 h3 => exact fin _ F1 H1 s1 no k1 x1 (by cases no <;> simp) z1
    | scr h1 h2 h3 => exact fin _ F1 H1 s1 no k1 x1 (by cases no <;> simp) z1
  | own h1 h2 h3 => exact fin _ F1 H1 s1 no k1 x1 (by cases no <;> simp) z1
  | cell h1 => exact fin _ F1 H1 s1 no k1 x1 (by cases no <;> simp) z1
theorem none_x {e : Expr} (h : isNoneX e = true) : ∃ j p, e = .Constant .none j p := by
  cases e with
  | Constant v j p => cases v <;> first | exact ⟨j, p, rfl⟩ | exact absurd h Bool.false_ne_true
  | _ => exact absurd h Bool.false_ne_true
theorem isN_ag {no : Bool} {a : E} {e' : Expr} (h : agE c (.isN no a) e' = true) : ∃ a' j p p', agE c a a' = true ∧ ((no = false ∧ e' = .Compare a' [.Is] [.Constant .none j p] p') ∨ (no = true ∧ e' = .Compare a' [.IsNot] [.Constant .none j p] p')) := by
  cases e' with
  | Compare a' ops bs p =>
    match ops, bs, h with
    | [op], [b'], h =>
      obtain ⟨h1, h⟩ := b2 (show (isNoneX b' && (isOpB no op && agE c a a')) = true from h)
      obtain ⟨h2, h3⟩ := b2 h
      obtain ⟨j, p', rfl⟩ := none_x h1
      refine ⟨a', j, p', p, h3, ?_⟩
      cases no with
      | false => cases op <;> first | exact .inl ⟨rfl, rfl⟩ | exact absurd h2 Bool.false_ne_true
      | true => cases op <;> first | exact .inr ⟨rfl, rfl⟩ | exact absurd h2 Bool.false_ne_true
    | [], _, h => exact absurd h Bool.false_ne_true
    | [_], [], h => exact absurd h Bool.false_ne_true
    | [_], _ :: _ :: _, h => exact absurd h Bool.false_ne_true
    | _ :: _ :: _, _, h => exact absurd h Bool.false_ne_true
  | _ => exact absurd h Bool.false_ne_true
theorem isN_eq {no : Bool} {a : E} {env : Env} : evE (.isN no a) env = (evE a env >>= fun x => match x with | .dat .non => (pure (R.dat (.bl (!no))) : M R) | _ => pure (.dat (.bl no))) := rfl
theorem s_isN {no : Bool} {a : E} {e' : Expr} (x : XOk c kn k X) (h : agE c (.isN no a) e' = true) (ha : ∀ a', agE c a a' = true → PE X a' (tE X.K a)) : PE X e' (tE X.K (.isN no a)) := by
  obtain ⟨a', j, p, p', h1, h2⟩ := isN_ag h
  rcases h2 with ⟨rfl, rfl⟩ | ⟨rfl, rfl⟩
  · refine PE.imp (pe_cmpR op_isN (ha a' h1) pe_non (nomark _)) fun σ H Q hh => ?_
    obtain ⟨as, F, st, env, r, st', s, en, e, af⟩ := hh
    refine isN_run (no := false) (g := fun b => pure (R.dat (.bl b))) (G := fun v H2 => (tC .non) σ H2 fun y H3 => y = .non ∧ Q (.bl (decide (v = .non))) H3) s en e fun v F2 H2 st2 b k2 x2 hb z => ?_
    obtain ⟨rfl, rfl⟩ := pure_inv z
    refine ⟨rfl, ?_⟩
    have hb : b = decide (v = V.non) := by rw [hb]; cases decide (v = V.non) <;> rfl
    rw [← hb]
    exact af (.bl b) F2 H2 k2 x2 (.dat (.bl b)) trivial
  · refine PE.imp (pe_cmpR op_notN (ha a' h1) pe_non (nomark _)) fun σ H Q hh => ?_
    obtain ⟨as, F, st, env, r, st', s, en, e, af⟩ := hh
    refine isN_run (no := true) (g := fun b => pure (R.dat (.bl b))) (G := fun v H2 => (tC .non) σ H2 fun y H3 => y = .non ∧ Q (.bl (!decide (v = .non))) H3) s en e fun v F2 H2 st2 b k2 x2 hb z => ?_
    obtain ⟨rfl, rfl⟩ := pure_inv z
    refine ⟨rfl, ?_⟩
    have hb : b = !decide (v = V.non) := by rw [hb]; cases decide (v = V.non) <;> rfl
    rw [← hb]
    exact af (.bl b) F2 H2 k2 x2 (.dat (.bl b)) trivial
theorem s_isNT {no : Bool} {a : E} {e' : Expr} (x : XOk c kn k X) (h : agT c (.isN no a) e' = true) (ha : ∀ a', agE c a a' = true → PE X a' (tE X.K a)) : PT X e' (tT X.K (.isN no a)) := by
  have h' : agE c (.isN no a) e' = true := by
    cases e' with
    | Compare a' ops bs p =>
      match ops, bs, h with
      | [op], [b'], h => exact h
      | [], _, h => exact absurd h Bool.false_ne_true
      | [_], [], h => exact absurd h Bool.false_ne_true
      | [_], _ :: _ :: _, h => exact absurd h Bool.false_ne_true
      | _ :: _ :: _, _, h => exact absurd h Bool.false_ne_true
    | _ => exact absurd h Bool.false_ne_true
  obtain ⟨a', j, p, p', h1, h2⟩ := isN_ag h'
  rcases h2 with ⟨rfl, rfl⟩ | ⟨rfl, rfl⟩
  · refine PT.imp (pt_cmpR op_isN (ha a' h1) pe_non (nomark _)) fun σ H Q hh => ?_
    obtain ⟨as, F, st, env, r, st', s, en, e, af⟩ := hh
    refine isN_run (no := false) (g := fun b => pure b) (G := fun v H2 => (tC .non) σ H2 fun y H3 => y = .non ∧ ∃ k, V.bl (decide (v = .non)) = .bl k ∧ Q k H3) s en e fun v F2 H2 st2 b k2 x2 hb z => ?_
    obtain ⟨rfl, rfl⟩ := pure_inv z
    refine ⟨rfl, _, rfl, ?_⟩
    have hb : r = decide (v = V.non) := by rw [hb]; cases decide (v = V.non) <;> rfl
    rw [← hb]
    exact af F2 H2 k2 x2
  · refine PT.imp (pt_cmpR op_notN (ha a' h1) pe_non (nomark _)) fun σ H Q hh => ?_
    obtain ⟨as, F, st, env, r, st', s, en, e, af⟩ := hh
    refine isN_run (no := true) (g := fun b => pure b) (G := fun v H2 => (tC .non) σ H2 fun y H3 => y = .non ∧ ∃ k, V.bl (!decide (v = .non)) = .bl k ∧ Q k H3) s en e fun v F2 H2 st2 b k2 x2 hb z => ?_
    obtain ⟨rfl, rfl⟩ := pure_inv z
    refine ⟨rfl, _, rfl, ?_⟩
    have hb : r = !decide (v = V.non) := by rw [hb]; cases decide (v = V.non) <;> rfl
    rw [← hb]
    exact af F2 H2 k2 x2
theorem s_not {a : E} {e' : Expr} (x : XOk c kn k X) (h : agE c (.not a) e' = true) (ha : ∀ a', agE c a a' = true → PE X a' (tE X.K a)) : PE X e' (tE X.K (.not a)) := by
  cases e' with
  | UnaryOp op a' p =>
    cases op with
    | Not =>
      refine PE.imp (pe_not (ha a' h)) fun σ H Q hh => ?_
      obtain ⟨as, F, st, env, r, st', s, en, e, af⟩ := hh
      obtain ⟨ra, s1, e1, z1⟩ := bind_inv (show (evE a env >>= fun r => match r with | .dat (.bl i) => pure (.dat (.bl (!i))) | _ => M.no) st = .ok r st' from e)
      refine ⟨as, F, st, env, ra, s1, s, en, e1, fun v F1 H1 k1 x1 r1 f1 => ?_⟩
      cases ra with
      | dat d =>
        cases d with
        | bl i =>
          obtain ⟨rfl, rfl⟩ := pure_inv (show (pure (R.dat (.bl (!i))) : M R) s1 = .ok r st' from z1)
          cases r1 with
          | dat r1 =>
            cases r1
            exact ⟨i, rfl, af (.bl (!i)) F1 H1 k1 x1 (.dat (.bl _)) trivial⟩
        | _ => exact (no_inv z1).elim
      | _ => exact (no_inv z1).elim
    | _ => exact absurd h Bool.false_ne_true
  | _ => exact absurd h Bool.false_ne_true
theorem s_ite {t : T} {a b : E} {e' : Expr} (x : XOk c kn k X) (h : agE c (.ite t a b) e' = true) (ht : ∀ a', agT c t a' = true → PT X a' (tT X.K t))
    (ha : ∀ a', agE c a a' = true → PE X a' (tE X.K a)) (hb : ∀ b', agE c b b' = true → PE X b' (tE X.K b)) : PE X e' (tE X.K (.ite t a b)) := by
  cases e' with
  | IfExp t' a' b' p =>
    obtain ⟨h1, h⟩ := b2 (show (agT c t t' && (agE c a a' && agE c b b')) = true from h)
    obtain ⟨h2, h3⟩ := b2 h
    refine PE.imp (pe_ifExp (ht t' h1) (ha a' h2) (hb b' h3)) fun σ H Q hh => ?_
    obtain ⟨as, F, st, env, r, st', s, en, e, af⟩ := hh
    obtain ⟨bt, s1, e1, z1⟩ := bind_inv (show (evT t env >>= fun r => if r then evE a env else evE b env) st = .ok r st' from e)
    refine ⟨as, F, st, env, bt, s1, s, en, e1, fun F1 H1 k1 x1 => ?_⟩
    cases bt with
    | true =>
      rw [if_pos rfl]
      exact ⟨as, F1, s1, env, r, st', k1, en.ext x1, z1, fun v F2 H2 k2 x2 r2 f2 => af v F2 H2 k2 (x1.trans s.len k1.len x2) r2 (Fresh.back x1 f2)⟩
    | false =>
      rw [if_neg Bool.false_ne_true]
      exact ⟨as, F1, s1, env, r, st', k1, en.ext x1, z1, fun v F2 H2 k2 x2 r2 f2 => af v F2 H2 k2 (x1.trans s.len k1.len x2) r2 (Fresh.back x1 f2)⟩
  | _ => exact absurd h Bool.false_ne_true
theorem agEs_len : ∀ {es : Es} {es' : List Expr}, agEs c es es' = true → ∀ {n : Nat}, n = es'.length → lenEs es = n
  | .nil, [], _, _, rfl => rfl
  | .nil, _ :: _, h, _, _ => absurd h Bool.false_ne_true
  | .cons _ _, [], h, _, _ => absurd h Bool.false_ne_true
  | .cons e es, e' :: es', h, _, rfl => by
    have h : (notStar e' && (agE c e e' && agEs c es es')) = true := h
    obtain ⟨_, h⟩ := b2 h
    obtain ⟨_, h⟩ := b2 h
    exact congrArg Nat.succ (agEs_len h rfl)
theorem evDs_len : ∀ {es : Es} {env : Env} {ds : List D} {st st' : Sto}, evDs es env st = .ok ds st' → ds.length = lenEs es
  | .nil, _, _, _, _, h => by
    obtain ⟨rfl, rfl⟩ := pure_inv h
    rfl
  | .cons e es, env, ds, st, st', h => by
    obtain ⟨r, s1, _, z1⟩ := bind_inv (show (evE e env >>= fun r => use r >>= fun d => evDs es env >>= fun ds => (pure (d :: ds) : M (List D))) st = .ok ds st' from h)
    obtain ⟨d, s2, _, z2⟩ := bind_inv z1
    obtain ⟨ds', s3, h3, z3⟩ := bind_inv z2
    obtain ⟨rfl, rfl⟩ := pure_inv z3
    exact congrArg Nat.succ (evDs_len h3)
theorem s_tup {es : Es} {e' : Expr} (x : XOk c kn k X) (h : agE c (.tup es) e' = true) (hs : ∀ es', agEs c es es' = true → PA X es' (tDs X.K es)) : PE X e' (tE X.K (.tup es)) := by
  cases e' with
  | Tuple es' j p =>
    obtain ⟨h1, h2⟩ := b2 (show (agEs c es es' && decide (es'.length ≤ sizeLine)) = true from h)
    refine PE.imp (pe_tup (hs es' h1)) fun σ H Q hh => ?_
    obtain ⟨as, F, st, env, r, st', s, en, e, af⟩ := hh
    obtain ⟨ds, s1, e1, z1⟩ := bind_inv (show (evDs es env >>= fun ds => (pure (R.dat (.tup ds)) : M R)) st = .ok r st' from e)
    obtain ⟨rfl, rfl⟩ := pure_inv z1
    refine ⟨as, F, st, env, ds, st', s, en, e1, fun vs F1 H1 k1 x1 r1 => ?_⟩
    have hl : vs.length ≤ sizeLine := by rw [r1.length, evDs_len e1, agEs_len h1 rfl]; exact of_decide_eq_true h2
    have af' : Aft X.K as F1 H1 st' (.dat (.tup ds)) st' Q := fun v F2 H2 k2 x2 r2 f2 => af v F2 H2 k2 (x1.trans s.len k1.len x2) r2 trivial
    exact ⟨hl, af'.tup k1 r1 hl⟩
  | _ => exact absurd h Bool.false_ne_true
theorem s_lst {es : Es} {e' : Expr} (x : XOk c kn k X) (h : agE c (.lst es) e' = true) (hs : ∀ es', agEs c es es' = true → PA X es' (tDs X.K es)) : PE X e' (tE X.K (.lst es)) := by
  cases e' with
  | List es' p =>
    obtain ⟨h1, h2⟩ := b2 (show (agEs c es es' && decide (es'.length ≤ sizeLine)) = true from h)
    refine PE.imp (pe_lst (hs es' h1)) fun σ H Q hh => ?_
    obtain ⟨as, F, st, env, r, st', s, en, e, af⟩ := hh
    obtain ⟨ds, s1, e1, z1⟩ := bind_inv (show (evDs es env >>= fun ds => (pure (R.own (.lst ds)) : M R)) st = .ok r st' from e)
    obtain ⟨rfl, rfl⟩ := pure_inv z1
    refine ⟨as, F, st, env, ds, st', s, en, e1, fun vs F1 H1 k1 x1 r1 => ?_⟩
    have hl : vs.length ≤ sizeLine := by rw [r1.length, evDs_len e1, agEs_len h1 rfl]; exact of_decide_eq_true h2
    have af' : Aft X.K as F1 H1 st' (.own (.lst ds)) st' Q := fun v F2 H2 k2 x2 r2 f2 => af v F2 H2 k2 (x1.trans s.len k1.len x2) r2 (Fresh.back x1 f2)
    exact ⟨hl, af'.lst k1 r1 hl⟩
  | _ => exact absurd h Bool.false_ne_true
theorem s_ix {a b : E} {e' : Expr} (x : XOk c kn k X) (h : agE c (.ix a b) e' = true)
    (ha : ∀ a', agE c a a' = true → PE X a' (tE X.K a)) (hb : ∀ b', agE c b b' = true → PE X b' (tE X.K b)) : PE X e' (tE X.K (.ix a b)) := by
  cases e' with
  | Subscript a' b' p =>
    have h0 : notSlice b' = true ∧ agE c a a' = true ∧ agE c b b' = true := by
      cases b' <;> first | exact absurd h Bool.false_ne_true | (obtain ⟨h1, h⟩ := b2 h; obtain ⟨h2, h3⟩ := b2 h; exact ⟨h1, h2, h3⟩)
    obtain ⟨h1, h2, h3⟩ := h0
    refine PE.imp (pe_ix ix_D (ha a' h2) (hb b' h3) (plain_ix h1)) fun σ H Q hh => ?_
    obtain ⟨as, F, st, env, r, st', s, en, e, af⟩ := hh
    obtain ⟨ra, s1, e1, z1⟩ := bind_inv (show (evE a env >>= fun x => evE b env >>= fun y => peek x >>= fun p => ixB p y) st = .ok r st' from e)
    obtain ⟨rb, s2, e2, z2⟩ := bind_inv z1
    obtain ⟨p, s3, e3, z3⟩ := bind_inv z2
    refine ⟨as, F, st, env, ra, s1, s, en, e1, fun v F1 H1 k1 x1 r1 f1 => ?_⟩
    refine ⟨as, F1, s1, env, rb, s2, k1, en.ext x1, e2, fun w F2 H2 k2 x2 r2 f2 => ?_⟩
    obtain ⟨rfl, v1⟩ := peek_ok k2 (r1.ext k1.len x2 fun _ _ z => nomatch z) e3
    have fin : ∀ ds, (VOk X.K F2 H2 v (.tup ds) ∨ VOk X.K F2 H2 v (.lst ds) ∨ VOk X.K F2 H2 v (.scr ds)) → (∃ j, rb = .dat (.int j) ∧ (M.opt (at? ds j) >>= fun d => (pure (R.dat d) : M R)) s3 = .ok r st') → rIxD X.K v w H2 Q := fun ds hv ⟨j, hj, z4⟩ => by
      subst hj
      obtain ⟨d, s4, e40, z5⟩ := bind_inv z4
      obtain ⟨e4, rfl⟩ := opt_inv e40
      obtain ⟨rfl, rfl⟩ := pure_inv z5
      cases r2 with
      | dat r2 =>
        cases r2
        exact ⟨as, F2, st', ds, d, j, k2, hv, rfl, e4, fun u hu => af u F2 H2 k2 (x1.trans s.len k1.len x2) (.dat hu) trivial⟩
    cases p with
    | tup ds => exact fin ds (.inl v1) (by cases rb <;> first | exact (no_inv z3).elim | (rename_i d; cases d <;> first | exact (no_inv z3).elim | exact ⟨_, rfl, z3⟩))
    | lst ds => exact fin ds (.inr (.inl v1)) (by cases rb <;> first | exact (no_inv z3).elim | (rename_i d; cases d <;> first | exact (no_inv z3).elim | exact ⟨_, rfl, z3⟩))
    | scr ds => exact fin ds (.inr (.inr v1)) (by cases rb <;> first | exact (no_inv z3).elim | (rename_i d; cases d <;> first | exact (no_inv z3).elim | exact ⟨_, rfl, z3⟩))
    | _ => exact (no_inv z3).elim
  | _ => exact absurd h Bool.false_ne_true
theorem s_sl {a : E} {lo hi : Es} {e' : Expr} (x : XOk c kn k X) (h : agE c (.sl a lo hi) e' = true)
    (ha : ∀ a', agE c a a' = true → PE X a' (tE X.K a)) (hl : ∀ b', agPart c lo b' = true → PO X b' (tPart_ X.K lo)) (hh' : ∀ b', agPart c hi b' = true → PO X b' (tPart_ X.K hi)) : PE X e' (tE X.K (.sl a lo hi)) := by
  cases e' with
  | Subscript a' b' p =>
    cases b' with
    | Slice lo' hi' stp p2 =>
      cases stp with
      | none =>
        obtain ⟨h1, h⟩ := b2 (show (agE c a a' && (agPart c lo lo' && agPart c hi hi')) = true from h)
        obtain ⟨h2, h3⟩ := b2 h
        refine PE.imp (pe_slice sl_D (ha a' h1) (hl lo' h2) (hh' hi' h3)) fun σ H Q hh => ?_
        obtain ⟨as, F, st, env, r, st', s, en, e, af⟩ := hh
        obtain ⟨ra, s1, e1, z1⟩ := bind_inv (show (evE a env >>= fun x => evPart lo env >>= fun l => evPart hi env >>= fun h => peek x >>= fun p => slB p l h) st = .ok r st' from e)
        obtain ⟨l, s2, e2, z2⟩ := bind_inv z1
        obtain ⟨u, s3, e3, z3⟩ := bind_inv z2
        obtain ⟨p, s4, e4, z4⟩ := bind_inv z3
        refine ⟨as, F, st, env, ra, s1, s, en, e1, fun v F1 H1 k1 x1 r1 f1 => ?_⟩
        refine ⟨as, F1, s1, env, l, s2, k1, en.ext x1, e2, fun F2 H2 k2 x2 => ?_⟩
        refine ⟨as, F2, s2, env, u, s3, k2, (en.ext x1).ext x2, e3, fun F3 H3 k3 x3 => ?_⟩
        obtain ⟨rfl, v1⟩ := peek_ok k3 ((r1.ext k1.len x2 fun _ _ z => nomatch z).ext k2.len x3 fun _ _ z => nomatch z) e4
        have x13 : Ext [] as F H st as F3 H3 s4 := (x1.trans s.len k1.len x2).trans s.len k2.len x3
        exact ⟨as, F3, s4, p, r, st', k3, v1, z4, fun u F4 H4 k4 x4 r4 f4 => af u F4 H4 k4 (x13.trans s.len k3.len x4) r4 (Fresh.back x13 f4)⟩
      | some _ => exact absurd h Bool.false_ne_true
    | _ => exact absurd h Bool.false_ne_true
  | _ => exact absurd h Bool.false_ne_true
end
end DB
set_option maxHeartbeats 4000000
namespace DB
open PySem PySem.Spec L2
section
variable {c : AC} {kn : Know} {k : Nat} {X : Cx}
theorem free_of (x : XOk c kn k X) {y : Str} (h : y ∈ freeNames) : X.mg y = none := x.free y h
theorem s_isI {t : String} {a : E} {e' : Expr} (x : XOk c kn k X) (h : agE c (.isI t a) e' = true) (ha : ∀ a', agE c a a' = true → PE X a' (tE X.K a)) : PE X e' (tE X.K (.isI t a)) := by
  have h0 : ∃ y p a' z p2 p3, e' = .Call (.Name y p) [a', .Name z p2] [] p3 ∧ y = ("isinstance" : Str) ∧ glB c.sc y = true ∧ z = Str.ofString t ∧ glB c.sc z = true ∧ tyOk t = true ∧ notStar a' = true ∧ agE c a a' = true := by
    cases e' with
    | Call f args kws p3 =>
      cases f with
      | Name y p =>
        match args, kws, h with
        | [a', b'], [], h =>
          cases b' with
          | Name z p2 =>
            obtain ⟨h1, h⟩ := b2 (show (decide (y = ("isinstance" : Str)) && (glB c.sc y && (decide (z = Str.ofString t) && (glB c.sc z && (tyOk t && (notStar a' && agE c a a')))))) = true from h)
            obtain ⟨h2, h⟩ := b2 h
            obtain ⟨h3, h⟩ := b2 h
            obtain ⟨h4, h⟩ := b2 h
            obtain ⟨h5, h⟩ := b2 h
            obtain ⟨h6, h7⟩ := b2 h
            exact ⟨y, p, a', z, p2, p3, rfl, of_decide_eq_true h1, h2, of_decide_eq_true h3, h4, h5, h6, h7⟩
          | _ => exact absurd h Bool.false_ne_true
        | [], _, h => exact absurd h Bool.false_ne_true
        | [_], _, h => exact absurd h Bool.false_ne_true
        | [_, b'], _ :: _, h => cases b' <;> exact absurd h Bool.false_ne_true
        | _ :: b' :: _ :: _, _, h => cases b' <;> exact absurd h Bool.false_ne_true
      | _ => exact absurd h Bool.false_ne_true
    | _ => exact absurd h Bool.false_ne_true
  obtain ⟨y, p, a', z, p2, p3, rfl, rfl, h1, rfl, h2, h3, h4, h5⟩ := h0
  have ht' : t = "int" ∨ t = "bool" ∨ t = "str" ∨ t = "tuple" ∨ t = "list" ∨ t = "dict" := by
    have : t ∈ ["int", "bool", "str", "tuple", "list", "dict"] := by simpa [tyOk] using h3
    simpa using this
  obtain ⟨g1, d1⟩ := x.glb h1
  obtain ⟨g2, d2⟩ := x.glb h2
  have hz : PE X (.Name (Str.ofString t) p2) (tC (.ty t)) := by
    rcases ht' with rfl | rfl | rfl | rfl | rfl | rfl <;> exact pe_bltn g2 (free_of x (by decide +kernel)) (by decide +kernel) rfl (by decide +kernel) d2
  refine PE.imp (pe_callB (call_isi (X := X)) g1 (free_of x (by decide +kernel)) (by decide +kernel) (pa_cons (ha a' h5) (pa_cons hz pa_nil (star_cons (by rfl))) (star_cons h4)) (by decide +kernel) d1 (star_cons h4) (by rw [star_cons (by rfl)]; rfl)) fun σ H Q hh => ?_
  obtain ⟨as, F, st, env, r, st', s, en, e, af⟩ := hh
  obtain ⟨ra, s1, e1, z1⟩ := bind_inv (show (evE a env >>= fun x => peek x >>= fun p => M.guard (tyName p != "object") >>= fun _ => (pure (R.dat (.bl (isTy t p))) : M R)) st = .ok r st' from e)
  obtain ⟨d, s2, e2, z2⟩ := bind_inv z1
  obtain ⟨_, s3, e3, z3⟩ := bind_inv z2
  refine ⟨as, F, st, env, ra, s1, s, en, e1, fun v F1 H1 k1 x1 r1 f1 => ?_⟩
  obtain ⟨rfl, v1⟩ := peek_ok k1 r1 e2
  obtain ⟨g, rfl⟩ := guard_inv e3
  obtain ⟨rfl, rfl⟩ := pure_inv z3
  exact ⟨v, .ty t, _, _, isTy t d, rfl, .ty t, v1.tyX k1.sub g, kit_ty (kitB_ok h3 g), af (.bl _) F1 H1 k1 x1 (.dat (.bl _)) trivial⟩
theorem call_shape {f : Fn} {id : Nat} {es : Es} {e' : Expr} (h : agE c (.call f id es) e' = true) : ∃ y p as' p3, e' = .Call (.Name y p) as' [] p3 ∧ c.fns[id]? = some y ∧ glB c.sc y = true ∧ agEs c es as' = true := by
  cases e' with
  | Call f' args kws p3 =>
    cases f' with
    | Name y p =>
      cases kws with
      | nil =>
        have h : (decide (c.fns[id]? = some y) && (glB c.sc y && agEs c es args)) = true := by
          match args, h with
          | [], h => exact h
          | [_], h => exact h
          | _ :: _ :: _, h => exact h
        obtain ⟨h1, h⟩ := b2 h
        obtain ⟨h2, h4⟩ := b2 h
        exact ⟨y, p, args, p3, rfl, of_decide_eq_true h1, h2, h4⟩
      | cons _ _ => exact absurd h Bool.false_ne_true
    | _ => exact absurd h Bool.false_ne_true
  | _ => exact absurd h Bool.false_ne_true
theorem s_call {f : Fn} {id : Nat} {es : Es} {e' : Expr} (x : XOk c kn k X) (h : agE c (.call f id es) e' = true) (hk : kn.fn id f) (hs : ∀ es', agEs c es es' = true → PA X es' (tEs X.K es)) : PE X e' (tE X.K (.call f id es)) := by
  obtain ⟨y, p, as', p3, rfl, h1, h2, h3⟩ := call_shape h
  obtain ⟨g1, d1⟩ := x.glb h2
  obtain ⟨fa, fd, ps, hm, hkp, hb, hF⟩ := x.call id f y hk h1
  have hst := agEs_star h3
  cases as' with
  | nil =>
    cases es with
    | cons _ _ => exact absurd h3 Bool.false_ne_true
    | nil =>
    refine PE.imp (pe_call0 hF x.room g1 hm hkp hb .nil pass0 d1) fun σ H Q hh => ?_
    obtain ⟨as, F, st, env, r, st', s, en, e, af⟩ := hh
    obtain ⟨rs, s1, e1, z1⟩ := bind_inv (show (evEs .nil env >>= fun rs => runFn f rs) st = .ok r st' from e)
    obtain ⟨rfl, rfl⟩ := pure_inv (show (pure [] : M (List R)) st = .ok rs s1 from e1)
    show spF X.K f ([] ++ []) H Q E0
    refine ⟨as, F, s1, [], r, st', s, .nil, z1, fun v F2 H2 k2 x2 r2 o2 => ?_⟩
    refine af v F2 H2 k2 x2 r2 ?_
    cases r with
    | own d =>
      intro a ha
      subst ha
      exact (o2 a (by simp [ownA])).elim (fun z => z) fun z => by cases z
    | _ => trivial
  | cons a' as' =>
    refine PE.imp (pe_call hF x.room g1 hm hkp hb .nil pass0 (hs _ h3) d1 (star_cons (hst _ (List.mem_cons_self ..))) (backTo_plain fun e he => hst e (List.mem_cons_of_mem _ he))) fun σ H Q hh => ?_
    obtain ⟨as, F, st, env, r, st', s, en, e, af⟩ := hh
    obtain ⟨rs, s1, e1, z1⟩ := bind_inv (show (evEs es env >>= fun rs => runFn f rs) st = .ok r st' from e)
    refine ⟨as, F, st, env, rs, s1, s, en, e1, fun vs F1 H1 k1 x1 r1 f1 => ?_⟩
    show spF X.K f (vs ++ []) H1 Q E0
    rw [List.append_nil]
    refine ⟨as, F1, s1, rs, r, st', k1, r1, z1, fun v F2 H2 k2 x2 r2 o2 => ?_⟩
    refine af v F2 H2 k2 (x1.transX s.len k1.len x2 (fun _ z => nomatch z) fun a ha => .inr (f1 a ha)) r2 ?_
    have none_of : ∀ a, H1 a = none → H a = none := fun a ha => by
      cases q : H a with
      | none => rfl
      | some o => exact absurd ha (x1.k a (by rw [q]; exact fun z => nomatch z))
    cases r with
    | own d =>
      intro a ha
      subst ha
      exact (o2 a (by simp [ownA])).elim (none_of a) (f1 a)
    | _ => trivial
theorem peeks_ok {K : PySem.W.Frag} {F H : Hp} {as : List Addr} : ∀ {vs : List V} {rs : List R} {ds : List D} {st st' : Sto}, StOk K F H as st → RsOk K F H as vs rs → peeks rs st = .ok ds st' → st' = st ∧ VsOk K F H vs ds
  | _, [], _, _, _, s, r, e => by
    cases r
    obtain ⟨rfl, rfl⟩ := pure_inv e
    exact ⟨rfl, .nil⟩
  | _, r :: rs, _, st, st', s, ro, e => by
    cases ro with
    | cons r1 r2 _ =>
      obtain ⟨d, s1, e1, z1⟩ := bind_inv (show (peek r >>= fun d => peeks rs >>= fun ds => (pure (d :: ds) : M (List D))) st = .ok _ st' from e)
      obtain ⟨rfl, v1⟩ := peek_ok s r1 e1
      obtain ⟨ds, s2, e2, z2⟩ := bind_inv z1
      obtain ⟨rfl, v2⟩ := peeks_ok s r2 e2
      obtain ⟨rfl, rfl⟩ := pure_inv z2
      exact ⟨rfl, .cons v1 v2⟩
theorem s_bi {b : Bi} {es : Es} {e' : Expr} (x : XOk c kn k X) (h : agE c (.bi b es) e' = true) (hs : ∀ es', agEs c es es' = true → PA X es' (tEs X.K es)) : PE X e' (tE X.K (.bi b es)) := by
  have h0 : ∃ y p a' as' p3, e' = .Call (.Name y p) (a' :: as') [] p3 ∧ y = Str.ofString (biName b) ∧ glB c.sc y = true ∧ agEs c es (a' :: as') = true := by
    cases e' with
    | Call f' args kws p3 =>
      cases f' with
      | Name y p =>
        cases kws with
        | nil =>
          have h : (decide (y = Str.ofString (biName b)) && (glB c.sc y && (!args.isEmpty && agEs c es args))) = true := by
            match args, h with
            | [], h => exact h
            | [_], h => exact h
            | _ :: _ :: _, h => exact h
          obtain ⟨h1, h⟩ := b2 h
          obtain ⟨h2, h⟩ := b2 h
          obtain ⟨h3, h4⟩ := b2 h
          cases args with
          | nil => cases h3
          | cons a' as' => exact ⟨y, p, a', as', p3, rfl, of_decide_eq_true h1, h2, h4⟩
        | cons _ _ => exact absurd h Bool.false_ne_true
      | _ => exact absurd h Bool.false_ne_true
    | _ => exact absurd h Bool.false_ne_true
  obtain ⟨y, p, a', as', p3, rfl, rfl, h2, h3⟩ := h0
  obtain ⟨g1, d1⟩ := x.glb h2
  have hst := agEs_star h3
  have hpe : PE X (.Call (.Name (Str.ofString (biName b)) p) (a' :: as') [] p3) (tCB (rBi X.K b) (tEs X.K es)) := by
    have hm : X.mg (Str.ofString (biName b)) = none := free_of x (by cases b <;> decide +kernel)
    have hc := call_bi (X := X) (b := b) x.calm
    have he := star_cons (env := X.env) (es := as') (hst _ (List.mem_cons_self ..))
    have hp := backTo_plain (pos := p3) (env := X.env) (es := as') fun e he => hst e (List.mem_cons_of_mem _ he)
    cases b with
    | int => exact pe_callTy hc g1 hm (by decide +kernel) (hs _ h3) (by decide +kernel) d1 he hp
    | tuple => exact pe_callTy hc g1 hm (by decide +kernel) (hs _ h3) (by decide +kernel) d1 he hp
    | list => exact pe_callTy hc g1 hm (by decide +kernel) (hs _ h3) (by decide +kernel) d1 he hp
    | _ => exact pe_callB hc g1 hm (by decide +kernel) (hs _ h3) (by decide +kernel) d1 he hp
  refine PE.imp hpe fun σ H Q hh => ?_
  obtain ⟨as, F, st, env, r, st', s, en, e, af⟩ := hh
  obtain ⟨rs, s1, e1, z1⟩ := bind_inv (show (evEs es env >>= fun rs => peeks rs >>= fun ds => bltn b ds) st = .ok r st' from e)
  obtain ⟨ds, s2, e2, z2⟩ := bind_inv z1
  refine ⟨as, F, st, env, rs, s1, s, en, e1, fun vs F1 H1 k1 x1 r1 f1 => ?_⟩
  obtain ⟨rfl, v1⟩ := peeks_ok k1 r1 e2
  exact ⟨as, F1, s2, ds, r, st', k1, v1, z2, fun v F2 H2 k2 x2 r2 f2 => af v F2 H2 k2 (x1.trans s.len k1.len x2) r2 (Fresh.back x1 f2)⟩

/-! ### lists of expressions -/
theorem s_Es_nil : PA X [] (tEs X.K .nil) := PA.imp pa_nil fun σ H Q hh => by
  obtain ⟨as, F, st, env, r, st', s, en, e, af⟩ := hh
  obtain ⟨rfl, rfl⟩ := pure_inv (show (pure [] : M (List R)) st = .ok r st' from e)
  exact af [] F H s .refl .nil fun _ z => nomatch z
theorem s_Es_cons {a : E} {es : Es} {a' : Expr} {es' : List Expr} (h0 : notStar a' = true) (ha : PE X a' (tE X.K a)) (hs : PA X es' (tEs X.K es)) : PA X (a' :: es') (tEs X.K (.cons a es)) := by
  refine PA.imp (pa_cons ha hs (star_cons h0)) fun σ H Q hh => ?_
  obtain ⟨as, F, st, env, rs, st', s, en, e, af⟩ := hh
  obtain ⟨ra, s1, e1, z1⟩ := bind_inv (show (evE a env >>= fun r => evEs es env >>= fun rs => (pure (r :: rs) : M (List R))) st = .ok rs st' from e)
  obtain ⟨rb, s2, e2, z2⟩ := bind_inv z1
  obtain ⟨rfl, rfl⟩ := pure_inv z2
  refine ⟨as, F, st, env, ra, s1, s, en, e1, fun v F1 H1 k1 x1 r1 f1 => ?_⟩
  refine ⟨as, F1, s1, env, rb, st', k1, en.ext x1, e2, fun vs F2 H2 k2 x2 r2 f2 => ?_⟩
  have hown : ∀ a ∈ ownA v ra, H a = none ∧ H1 a ≠ none := fun a ha => by
    cases r1 with
    | dat _ => cases v <;> cases ha
    | cell _ => cases ha
    | own h1 h2 h3 =>
      have : a = _ := List.mem_singleton.mp ha
      subst this
      exact ⟨f1 _ rfl, h2.some⟩
  refine af (v :: vs) F2 H2 k2 (x1.trans s.len k1.len x2) (.cons (r1.ext k1.len x2 fun _ _ z => nomatch z) r2 fun a ha hb => (hown a ha).2 (f2 a hb)) fun a ha => ?_
  rcases List.mem_append.mp (show a ∈ ownA v ra ++ ownsA vs rb from ha) with ha | ha
  · exact (hown a ha).1
  · cases q : H a with
    | none => rfl
    | some o => exact absurd (f2 a ha) (x1.k a (by rw [q]; exact fun z => nomatch z))
theorem s_Ds_nil : PA X [] (tDs X.K .nil) := PA.imp pa_nil fun σ H Q hh => by
  obtain ⟨as, F, st, env, r, st', s, en, e, af⟩ := hh
  obtain ⟨rfl, rfl⟩ := pure_inv (show (pure [] : M (List D)) st = .ok r st' from e)
  exact af [] F H s .refl .nil
/-- handed on as data at once -/
theorem use_aft {K : PySem.W.Frag} {F H F1 H1 : Hp} {as : List Addr} {st s1 s2 : Sto} {v : V} {r : R} {d : D} (hl : as.length = st.length) (k1 : StOk K F1 H1 as s1) (x1 : Ext [] as F H st as F1 H1 s1) (r1 : ROk K F1 H1 as v r) (f1 : Fresh H v r) (e : use r s1 = .ok d s2) :
    ∃ F2, StOk K F2 H1 as s2 ∧ Ext [] as F H st as F2 H1 s2 ∧ DOk K F2 v d := by
  obtain ⟨F2, k2, x2, d2⟩ := use_ok k1 r1 e
  refine ⟨F2, k2, x1.transX hl k1.len x2 (fun _ z => nomatch z) fun a ha => .inr ?_, d2⟩
  cases r with
  | own d0 =>
    cases v with
    | ref b =>
      have : a = b := List.mem_singleton.mp ha
      subst this
      exact f1 _ rfl
    | _ => cases ha
  | _ => cases v <;> cases ha
theorem s_Ds_cons {a : E} {es : Es} {a' : Expr} {es' : List Expr} (h0 : notStar a' = true) (ha : PE X a' (tE X.K a)) (hs : PA X es' (tDs X.K es)) : PA X (a' :: es') (tDs X.K (.cons a es)) := by
  refine PA.imp (pa_cons ha hs (star_cons h0)) fun σ H Q hh => ?_
  obtain ⟨as, F, st, env, ds, st', s, en, e, af⟩ := hh
  obtain ⟨ra, s1, e1, z1⟩ := bind_inv (show (evE a env >>= fun r => use r >>= fun d => evDs es env >>= fun ds => (pure (d :: ds) : M (List D))) st = .ok ds st' from e)
  obtain ⟨d, s2, e2, z2⟩ := bind_inv z1
  obtain ⟨ds', s3, e3, z3⟩ := bind_inv z2
  obtain ⟨rfl, rfl⟩ := pure_inv z3
  refine ⟨as, F, st, env, ra, s1, s, en, e1, fun v F1 H1 k1 x1 r1 f1 => ?_⟩
  obtain ⟨F2, k2, x2, d2⟩ := use_aft s.len k1 x1 r1 f1 e2
  exact ⟨as, F2, s2, env, ds', st', k2, en.ext x2, e3, fun vs F3 H3 k3 x3 r3 => af (v :: vs) F3 H3 k3 (x2.trans s.len k2.len x3) (.cons (d2.mono x3.f) r3)⟩
theorem s_Part_nil : PO X none (tPart_ X.K .nil) := PO.imp po_none fun σ H Q hh => by
  obtain ⟨as, F, st, env, r, st', s, en, e, af⟩ := hh
  obtain ⟨rfl, rfl⟩ := pure_inv (show (pure none : M (Option Int)) st = .ok r st' from e)
  exact af F H s .refl
theorem s_Part_one {a : E} {es : Es} {a' : Expr} (ha : PE X a' (tE X.K a)) : PO X (some a') (tPart_ X.K (.cons a es)) := PO.imp (po_some ha) fun σ H Q hh => by
  obtain ⟨as, F, st, env, o, st', s, en, e, af⟩ := hh
  obtain ⟨ra, s1, e1, z1⟩ := bind_inv (show (evE a env >>= fun r => match r with | .dat (.int i) => pure (some i) | _ => M.no) st = .ok o st' from e)
  refine ⟨as, F, st, env, ra, s1, s, en, e1, fun v F1 H1 k1 x1 r1 f1 => ?_⟩
  cases r1 with
  | dat r1 =>
    cases r1 with
    | int i =>
      obtain ⟨rfl, rfl⟩ := pure_inv (show (pure (some i) : M (Option Int)) s1 = .ok o st' from z1)
      exact ⟨i, rfl, af F1 H1 k1 x1⟩
    | _ => exact (no_inv z1).elim
  | _ => exact (no_inv z1).elim
/-! ### and, or -/
theorem and_one {a : E} {a' : Expr} {p : Pos} (ha : PE X a' (tE X.K a)) : PE X (.BoolOp .And [a'] p) (tAnd_ X.K (.cons a .nil)) := PE.imp (pe_one ha) fun σ H Q hh => by
  obtain ⟨as, F, st, env, b, st', s, en, e, af⟩ := hh
  obtain ⟨ra, s1, e1, z1⟩ := bind_inv (show (evE a env >>= fun r => match r with | .dat (.bl true) => evAnd .nil env | .dat (.bl false) => pure false | _ => M.no) st = .ok b st' from e)
  refine ⟨as, F, st, env, ra, s1, s, en, e1, fun v F1 H1 k1 x1 r1 f1 => ?_⟩
  cases r1 with
  | dat r1 =>
    cases r1 with
    | bl i =>
      cases i with
      | true =>
        obtain ⟨rfl, rfl⟩ := pure_inv (show (pure true : M Bool) s1 = .ok b st' from z1)
        exact af F1 H1 k1 x1
      | false =>
        obtain ⟨rfl, rfl⟩ := pure_inv (show (pure false : M Bool) s1 = .ok b st' from z1)
        exact af F1 H1 k1 x1
    | _ => exact (no_inv z1).elim
  | _ => exact (no_inv z1).elim
theorem and_cons {a : E} {es : Es} {a' b' : Expr} {r' : List Expr} {p : Pos} (ha : PE X a' (tE X.K a)) (hs : PE X (.BoolOp .And (b' :: r') p) (tAnd_ X.K es)) : PE X (.BoolOp .And (a' :: b' :: r') p) (tAnd_ X.K (.cons a es)) := PE.imp (pe_and ha hs) fun σ H Q hh => by
  obtain ⟨as, F, st, env, b, st', s, en, e, af⟩ := hh
  obtain ⟨ra, s1, e1, z1⟩ := bind_inv (show (evE a env >>= fun r => match r with | .dat (.bl true) => evAnd es env | .dat (.bl false) => pure false | _ => M.no) st = .ok b st' from e)
  refine ⟨as, F, st, env, ra, s1, s, en, e1, fun v F1 H1 k1 x1 r1 f1 => ?_⟩
  cases r1 with
  | dat r1 =>
    cases r1 with
    | bl i =>
      cases i with
      | true => exact ⟨true, rfl, by rw [if_pos rfl]; exact ⟨as, F1, s1, env, b, st', k1, en.ext x1, z1, fun F2 H2 k2 x2 => af F2 H2 k2 (x1.trans s.len k1.len x2)⟩⟩
      | false =>
        obtain ⟨rfl, rfl⟩ := pure_inv (show (pure false : M Bool) s1 = .ok b st' from z1)
        exact ⟨false, rfl, by rw [if_neg Bool.false_ne_true]; exact af F1 H1 k1 x1⟩
    | _ => exact (no_inv z1).elim
  | _ => exact (no_inv z1).elim
theorem or_one {a : E} {a' : Expr} {p : Pos} (ha : PE X a' (tE X.K a)) : PE X (.BoolOp .Or [a'] p) (tOr_ X.K (.cons a .nil)) := PE.imp (pe_one ha) fun σ H Q hh => by
  obtain ⟨as, F, st, env, b, st', s, en, e, af⟩ := hh
  obtain ⟨ra, s1, e1, z1⟩ := bind_inv (show (evE a env >>= fun r => match r with | .dat (.bl false) => evOr .nil env | .dat (.bl true) => pure true | _ => M.no) st = .ok b st' from e)
  refine ⟨as, F, st, env, ra, s1, s, en, e1, fun v F1 H1 k1 x1 r1 f1 => ?_⟩
  cases r1 with
  | dat r1 =>
    cases r1 with
    | bl i =>
      cases i with
      | true =>
        obtain ⟨rfl, rfl⟩ := pure_inv (show (pure true : M Bool) s1 = .ok b st' from z1)
        exact af F1 H1 k1 x1
      | false =>
        obtain ⟨rfl, rfl⟩ := pure_inv (show (pure false : M Bool) s1 = .ok b st' from z1)
        exact af F1 H1 k1 x1
    | _ => exact (no_inv z1).elim
  | _ => exact (no_inv z1).elim
theorem or_cons {a : E} {es : Es} {a' b' : Expr} {r' : List Expr} {p : Pos} (ha : PE X a' (tE X.K a)) (hs : PE X (.BoolOp .Or (b' :: r') p) (tOr_ X.K es)) : PE X (.BoolOp .Or (a' :: b' :: r') p) (tOr_ X.K (.cons a es)) := PE.imp (pe_or ha hs) fun σ H Q hh => by
  obtain ⟨as, F, st, env, b, st', s, en, e, af⟩ := hh
  obtain ⟨ra, s1, e1, z1⟩ := bind_inv (show (evE a env >>= fun r => match r with | .dat (.bl false) => evOr es env | .dat (.bl true) => pure true | _ => M.no) st = .ok b st' from e)
  refine ⟨as, F, st, env, ra, s1, s, en, e1, fun v F1 H1 k1 x1 r1 f1 => ?_⟩
  cases r1 with
  | dat r1 =>
    cases r1 with
    | bl i =>
      cases i with
      | false => exact ⟨false, rfl, by rw [if_neg Bool.false_ne_true]; exact ⟨as, F1, s1, env, b, st', k1, en.ext x1, z1, fun F2 H2 k2 x2 => af F2 H2 k2 (x1.trans s.len k1.len x2)⟩⟩
      | true =>
        obtain ⟨rfl, rfl⟩ := pure_inv (show (pure true : M Bool) s1 = .ok b st' from z1)
        exact ⟨true, rfl, by rw [if_pos rfl]; exact af F1 H1 k1 x1⟩
    | _ => exact (no_inv z1).elim
  | _ => exact (no_inv z1).elim
theorem s_and {es : Es} {es' : List Expr} {p : Pos} (hs : PE X (.BoolOp .And es' p) (tAnd_ X.K es)) : PE X (.BoolOp .And es' p) (tE X.K (.and es)) := PE.imp hs fun σ H Q hh => by
  obtain ⟨as, F, st, env, r, st', s, en, e, af⟩ := hh
  obtain ⟨b, s1, e1, z1⟩ := bind_inv (show (evAnd es env >>= fun b => (pure (R.dat (.bl b)) : M R)) st = .ok r st' from e)
  obtain ⟨rfl, rfl⟩ := pure_inv z1
  exact ⟨as, F, st, env, b, st', s, en, e1, fun F1 H1 k1 x1 => af (.bl b) F1 H1 k1 x1 (.dat (.bl b)) trivial⟩
theorem s_or {es : Es} {es' : List Expr} {p : Pos} (hs : PE X (.BoolOp .Or es' p) (tOr_ X.K es)) : PE X (.BoolOp .Or es' p) (tE X.K (.or es)) := PE.imp hs fun σ H Q hh => by
  obtain ⟨as, F, st, env, r, st', s, en, e, af⟩ := hh
  obtain ⟨b, s1, e1, z1⟩ := bind_inv (show (evOr es env >>= fun b => (pure (R.dat (.bl b)) : M R)) st = .ok r st' from e)
  obtain ⟨rfl, rfl⟩ := pure_inv z1
  exact ⟨as, F, st, env, b, st', s, en, e1, fun F1 H1 k1 x1 => af (.bl b) F1 H1 k1 x1 (.dat (.bl b)) trivial⟩
/-! ### tests -/
theorem s_val {a : E} {a' : Expr} (h : plainX a' = true) (ha : PE X a' (tE X.K a)) : PT X a' (tT X.K (.val a)) := PT.imp (pt_truth ha (plain_of h)) fun σ H Q hh => by
  obtain ⟨as, F, st, env, b, st', s, en, e, af⟩ := hh
  obtain ⟨ra, s1, e1, z1⟩ := bind_inv (show (evE a env >>= fun r => peek r >>= fun d => truth d) st = .ok b st' from e)
  obtain ⟨d, s2, e2, z2⟩ := bind_inv z1
  refine ⟨as, F, st, env, ra, s1, s, en, e1, fun v F1 H1 k1 x1 r1 f1 => ?_⟩
  obtain ⟨rfl, v1⟩ := peek_ok k1 r1 e2
  obtain ⟨t1, rfl⟩ := v1.tru k1.sub z2
  exact ⟨b, t1, af F1 H1 k1 x1⟩
theorem s_notT {t : T} {a' : Expr} {p : Pos} (ht : PT X a' (tT X.K t)) : PT X (.UnaryOp .Not a' p) (tT X.K (.not t)) := PT.imp (pt_not ht) fun σ H Q hh => by
  obtain ⟨as, F, st, env, b, st', s, en, e, af⟩ := hh
  obtain ⟨b1, s1, e1, z1⟩ := bind_inv (show (evT t env >>= fun b => (pure (!b) : M Bool)) st = .ok b st' from e)
  obtain ⟨rfl, rfl⟩ := pure_inv z1
  exact ⟨as, F, st, env, b1, st', s, en, e1, fun F1 H1 k1 x1 => af F1 H1 k1 x1⟩
theorem tand_one {t : T} {a' : Expr} {p : Pos} (ht : PT X a' (tT X.K t)) : PW X (.BoolOp .And [a'] p) (tTAnd X.K (.cons t .nil)) := PW.imp (pw_and1 ht) fun σ H Q hh => by
  obtain ⟨as, F, st, env, b, st', s, en, e, af⟩ := hh
  obtain ⟨b1, s1, e1, z1⟩ := bind_inv (show (evT t env >>= fun b => if b then evTAnd .nil env else pure false) st = .ok b st' from e)
  refine ⟨as, F, st, env, b1, s1, s, en, e1, fun F1 H1 k1 x1 => ?_⟩
  cases b1 with
  | true =>
    obtain ⟨rfl, rfl⟩ := pure_inv (show (pure true : M Bool) s1 = .ok b st' from z1)
    exact af F1 H1 k1 x1
  | false =>
    obtain ⟨rfl, rfl⟩ := pure_inv (show (pure false : M Bool) s1 = .ok b st' from z1)
    exact af F1 H1 k1 x1
theorem tand_cons {t : T} {ts : Ts} {a' b' : Expr} {r' : List Expr} {p : Pos} (ht : PT X a' (tT X.K t)) (hs : PW X (.BoolOp .And (b' :: r') p) (tTAnd X.K ts)) : PW X (.BoolOp .And (a' :: b' :: r') p) (tTAnd X.K (.cons t ts)) := PW.imp (pw_and ht hs) fun σ H Q hh => by
  obtain ⟨as, F, st, env, b, st', s, en, e, af⟩ := hh
  obtain ⟨b1, s1, e1, z1⟩ := bind_inv (show (evT t env >>= fun b => if b then evTAnd ts env else pure false) st = .ok b st' from e)
  refine ⟨as, F, st, env, b1, s1, s, en, e1, fun F1 H1 k1 x1 => ?_⟩
  cases b1 with
  | true =>
    rw [if_pos rfl]
    exact ⟨as, F1, s1, env, b, st', k1, en.ext x1, z1, fun F2 H2 k2 x2 => af F2 H2 k2 (x1.trans s.len k1.len x2)⟩
  | false =>
    obtain ⟨rfl, rfl⟩ := pure_inv (show (pure false : M Bool) s1 = .ok b st' from z1)
    rw [if_neg Bool.false_ne_true]
    exact af F1 H1 k1 x1
theorem tor_one {t : T} {a' : Expr} {p : Pos} (ht : PT X a' (tT X.K t)) : PW X (.BoolOp .Or [a'] p) (tTOr X.K (.cons t .nil)) := PW.imp (pw_or1 ht) fun σ H Q hh => by
  obtain ⟨as, F, st, env, b, st', s, en, e, af⟩ := hh
  obtain ⟨b1, s1, e1, z1⟩ := bind_inv (show (evT t env >>= fun b => if b then pure true else evTOr .nil env) st = .ok b st' from e)
  refine ⟨as, F, st, env, b1, s1, s, en, e1, fun F1 H1 k1 x1 => ?_⟩
  cases b1 with
  | true =>
    obtain ⟨rfl, rfl⟩ := pure_inv (show (pure true : M Bool) s1 = .ok b st' from z1)
    exact af F1 H1 k1 x1
  | false =>
    obtain ⟨rfl, rfl⟩ := pure_inv (show (pure false : M Bool) s1 = .ok b st' from z1)
    exact af F1 H1 k1 x1
theorem tor_cons {t : T} {ts : Ts} {a' b' : Expr} {r' : List Expr} {p : Pos} (ht : PT X a' (tT X.K t)) (hs : PW X (.BoolOp .Or (b' :: r') p) (tTOr X.K ts)) : PW X (.BoolOp .Or (a' :: b' :: r') p) (tTOr X.K (.cons t ts)) := PW.imp (pw_or ht hs) fun σ H Q hh => by
  obtain ⟨as, F, st, env, b, st', s, en, e, af⟩ := hh
  obtain ⟨b1, s1, e1, z1⟩ := bind_inv (show (evT t env >>= fun b => if b then pure true else evTOr ts env) st = .ok b st' from e)
  refine ⟨as, F, st, env, b1, s1, s, en, e1, fun F1 H1 k1 x1 => ?_⟩
  cases b1 with
  | false =>
    rw [if_neg Bool.false_ne_true]
    exact ⟨as, F1, s1, env, b, st', k1, en.ext x1, z1, fun F2 H2 k2 x2 => af F2 H2 k2 (x1.trans s.len k1.len x2)⟩
  | true =>
    obtain ⟨rfl, rfl⟩ := pure_inv (show (pure true : M Bool) s1 = .ok b st' from z1)
    rw [if_pos rfl]
    exact af F1 H1 k1 x1
theorem s_cmpT {op : Cop} {a b : E} {e' : Expr} (x : XOk c kn k X) (h : agT c (.cmp op a b) e' = true)
    (ha : ∀ a', agE c a a' = true → PE X a' (tE X.K a)) (hb : ∀ b', agE c b b' = true → PE X b' (tE X.K b)) : PT X e' (tT X.K (.cmp op a b)) := by
  cases e' with
  | Compare a' ops bs p =>
    match ops, bs, h with
    | [op'], [b'], h =>
      obtain ⟨h1, h⟩ := b2 (show (copB op op' && (notSet b' && (agE c a a' && agE c b b'))) = true from h)
      obtain ⟨h0, h⟩ := b2 h
      obtain ⟨h2, h3⟩ := b2 h
      refine PT.imp (pt_cmpR (op_cmp h1 x.units) (ha a' h2) (hb b' h3) (marks_of h0)) fun σ H Q hh => ?_
      obtain ⟨as, F, st, env, b, st', s, en, e, af⟩ := hh
      refine two_ops (Q := fun _ _ => True) (f := fun p q => cmpop op p q) s en e fun v w F2 H2 st2 p q k2 x2 v1 v2 e5 => ?_
      have e8 := cmp_st e5
      subst e8
      exact ⟨as, F2, _, p, q, b, _, k2, v1, v2, e5, b, rfl, af F2 H2 k2 x2⟩
    | [], _, h => exact absurd h Bool.false_ne_true
    | [_], [], h => exact absurd h Bool.false_ne_true
    | [_], _ :: _ :: _, h => exact absurd h Bool.false_ne_true
    | _ :: _ :: _, _, h => exact absurd h Bool.false_ne_true
  | _ => exact absurd h Bool.false_ne_true
theorem s_chainT {op op2 : Cop} {a b d : E} {e' : Expr} (x : XOk c kn k X) (h : agT c (.chain op op2 a b d) e' = true)
    (ha : ∀ a', agE c a a' = true → PE X a' (tE X.K a)) (hb : ∀ b', agE c b b' = true → PE X b' (tE X.K b)) (hd : ∀ b', agE c d b' = true → PE X b' (tE X.K d)) : PT X e' (tT X.K (.chain op op2 a b d)) := by
  cases e' with
  | Compare a' ops bs p =>
    match ops, bs, h with
    | [p1, p2], [b', d'], h =>
      obtain ⟨h1, h⟩ := b2 (show (copB op p1 && (copB op2 p2 && (notSet d' && (agE c a a' && (agE c b b' && agE c d d'))))) = true from h)
      obtain ⟨h2, h⟩ := b2 h
      obtain ⟨h3, h⟩ := b2 h
      obtain ⟨h4, h⟩ := b2 h
      obtain ⟨h5, h6⟩ := b2 h
      refine PT.imp (pt_chain (op_cmp h1 x.units) (op_cmp h2 x.units) (ha a' h4) (hb b' h5) (hd d' h6) (marks2 h3)) fun σ H Q hh => ?_
      obtain ⟨as, F, st, env, r, st', s, en, e, af⟩ := hh
      have e' : (evE a env >>= fun x => evE b env >>= fun y => peek x >>= fun p => peek y >>= fun q => cmpop op p q >>= fun r => if r then (evE d env >>= fun z => peek y >>= fun q' => peek z >>= fun t => cmpop op2 q' t >>= fun b => (pure b : M Bool)) else (pure false : M Bool)) st = .ok r st' := by
        refine Eq.trans (congrFun ?_ st) e
        refine congrArg (evE a env >>= ·) (funext fun x => congrArg (evE b env >>= ·) (funext fun y => congrArg (peek x >>= ·) (funext fun p => congrArg (peek y >>= ·) (funext fun q => congrArg (cmpop op p q >>= ·) (funext fun r => ?_)))))
        cases r with
        | false => rfl
        | true => exact congrArg (evE d env >>= ·) (funext fun z => congrArg (peek y >>= ·) (funext fun q' => congrArg (peek z >>= ·) (funext fun t => funext fun u => by
            show M.bind (cmpop op2 q' t) M.pure u = _
            unfold M.bind M.pure
            cases cmpop op2 q' t u <;> rfl)))
      refine chain_run (Q := fun z H3 => ∃ k, z = .bl k ∧ Q k H3) (g := fun b => (pure b : M Bool)) s en e' fun F2 H2 st2 b k2 x2 z => ?_
      obtain ⟨rfl, rfl⟩ := pure_inv z
      exact ⟨_, rfl, af F2 H2 k2 x2⟩
    | [], _, h => exact absurd h Bool.false_ne_true
    | [_], _, h => exact absurd h Bool.false_ne_true
    | [_, _], [], h => exact absurd h Bool.false_ne_true
    | [_, _], [_], h => exact absurd h Bool.false_ne_true
    | [_, _], _ :: _ :: _ :: _, h => exact absurd h Bool.false_ne_true
    | _ :: _ :: _ :: _, _, h => exact absurd h Bool.false_ne_true
  | _ => exact absurd h Bool.false_ne_true
end
end DB
set_option maxHeartbeats 4000000
/-! enumerate over a tuple -/
namespace DB
open PySem PySem.Spec L2 PyProof.Rows
section
variable {prog : Program} {w : World} {A : Around} {E : Value → Shared → Prop} {s : Shared}
theorem enumNewT (t : Addr) (vs : Array Value) (n : Nat) (dd : Option Addr) (sl : Array (Option Value)) :
    Meets (Builtin.«enumerate.__new__» ⟨[.type "enumerate", .ref t], []⟩) (fun _ R s => s.heap.get? t = some { cls := .type "tuple", dict := dd, data := .seq vs n, slots := sl } ∧
      R (.ok (.ret (.ref (s.heap.push { cls := .type "tuple_iterator", data := .fields #[.ref t, .int 0 0] }).objs.size)))
        { s with heap := (s.heap.push { cls := .type "tuple_iterator", data := .fields #[.ref t, .int 0 0] }).push { cls := .type "enumerate", data := .fields #[.none, .bool false, .ref s.heap.objs.size, rawInt 0, .none, .none] } }) :=
  .of_wp fun prog w A R s h => by
    obtain ⟨hp, g, d, tk, os⟩ := s
    obtain ⟨ht, h⟩ := h
    have hsub := sub_enumerate
    have hT : Heap.IsTuple (Shared.heap ⟨hp, g, d, tk, os⟩) t vs := ⟨_, ht, rfl, n, rfl⟩
    wp_walk using AutoSeq1.wpAny_loadPart' ht
    refine wpAny_stack_any fun st => wpAny_pure ?_
    split
    · rename_i c _ _ _ _ _
      cases (c == Value.type "enumerate")
      · wp_walk using AutoSeq1.wpAny_loadPart' ht, wpAny_pyIter_tuple hT
        exact ⟨_, rfl, h⟩
      · wp_walk using AutoSeq1.wpAny_loadPart' ht, wpAny_pyIter_tuple hT
        exact ⟨_, rfl, h⟩
    · wp_walk using AutoSeq1.wpAny_loadPart' ht, wpAny_pyIter_tuple hT
      exact ⟨_, rfl, h⟩
theorem call_enumT {t : Addr} {vs : Array Value} {Q : Value → Shared → Prop} (hT : s.heap.IsTuple t vs)
    (h : ∀ h', IsEnum h' (s.heap.objs.size + 1) s.heap.objs.size 0 .none → h'.IsTupleIter s.heap.objs.size t 0 → h'.objs.size = s.heap.objs.size + 2 →
      (∀ b o, s.heap.get? b = some o → h'.get? b = some o) → Q (.ref (s.heap.objs.size + 1)) { s with heap := h' }) :
    wpAny (model prog w) A (call (.type "enumerate") [.ref t]) Q E s := by
  obtain ⟨⟨c, dd, dt, sl⟩, ht, hc, n, hd⟩ := hT
  replace hc : c = .type "tuple" := hc
  replace hd : dt = .seq vs n := hd
  subst hc hd
  refine callType_new F.called_enumerate (by decide) (F.typeCall_enumerate_1 _) (F.newCall_enumerate_1 _) (fun obj => F.args_object_init_2 obj _) F.entry_enumerate_new
    (enumNewT t vs n dd sl) ⟨ht, ?_⟩
  have hz : (s.heap.push { cls := .type "tuple_iterator", data := .fields #[.ref t, .int 0 0] }).objs.size = s.heap.objs.size + 1 := Heap.size_push ..
  show _ ∧ _
  rw [hz]
  have he : IsEnum ((s.heap.push { cls := .type "tuple_iterator", data := .fields #[.ref t, .int 0 0] }).push
      { cls := .type "enumerate", data := .fields #[.none, .bool false, .ref s.heap.objs.size, rawInt 0, .none, .none] }) (s.heap.objs.size + 1) s.heap.objs.size 0 .none := by
    have q := Heap.get?_push_size (s.heap.push { cls := .type "tuple_iterator", data := .fields #[.ref t, .int 0 0] })
      (o := { cls := .type "enumerate", data := .fields #[.none, .bool false, .ref s.heap.objs.size, rawInt 0, .none, .none] }) rfl
    rw [hz] at q
    exact q
  exact ⟨⟨_, he, rfl⟩, h _ he ⟨_, Heap.get?_push_of_some _ (Heap.get?_push_size _ rfl), rfl, rfl⟩ (by rw [Heap.size_push, hz]) fun b o x => Heap.get?_push_of_some _ (Heap.get?_push_of_some _ x)⟩
end
/-- the tuple at a, its items numbered, in new pairs -/
def IteT (K : PySem.W.Frag) (a : Addr) : L2.It :=
  ⟨fun i H => ∃ (xs : List V) (x : V), SqT K H a xs ∧ xs[i]? = some x, fun i H v H' => ∃ T x, v = .ref T ∧ H T = none ∧ H' = upd H T (.tup [.int (i : Nat), x]) ∧ ∀ xs, SqT K H a xs → xs[i]? = some x, fun i H => ∃ xs : List V, SqT K H a xs ∧ xs.length = i⟩
theorem turn_enumT {P : Program} {w : World} {K : PySem.W.Frag} {elts : List Expr} {kk : Nat} {tpos : Pos} (a e it : Addr) (hait : a ≠ it) :
    Turn P w K (.Tuple elts kk tpos) (IteT K a) [e, it] e (fun i h => (∃ old, IsEnum h e it ((i : Nat) : Int) old) ∧ h.IsTupleIter it a i ∧ e ≠ it ∧ a ≠ e) where
  mem := by simp
  obj := fun i h st b hb => by
    obtain ⟨⟨old, he⟩, ⟨o, ho, hc, hd⟩, _⟩ := st
    have e' : b = e ∨ b = it := by simpa using hb
    rcases e' with z | z
    · rw [z]
      exact ⟨_, he, fun v q => nomatch q⟩
    · rw [z]
      exact ⟨o, ho, fun v q => by rw [hd] at q; cases q⟩
  keep := fun i h h' st kp => let ⟨⟨old, he⟩, hi, hne⟩ := st; ⟨⟨old, kp e (by simp) _ he⟩, hi.at fun o q => kp it (by simp) o q, hne⟩
  item := by
    intro X hP hw hK hc i pins s σ H E I hf st hg
    subst hP hw hK
    obtain ⟨⟨old, he⟩, hit, hne, hae⟩ := st
    obtain ⟨xs, x, hq, hx⟩ := hg
    obtain ⟨its, rv, p, hz⟩ := I.tuple hq
    obtain ⟨u, hu, ru⟩ := rv.get hx
    have hel : e < s.heap.objs.size := Heap.lt_size he
    have hil : it < s.heap.objs.size := by obtain ⟨_, q, _⟩ := hit; exact Heap.lt_size q
    have hlt : i < its.toArray.size := by
      have := (List.getElem?_eq_some_iff.mp hu).1
      simpa using this
    have hd' : X.A.in1.handled = none := I.ok.hd hc
    refine wpAny_pyNext_enum_itemD (Draws.tuple hd' it a hait its.toArray) he ⟨hit, show s.heap.IsTuple a its.toArray from p⟩ hlt hne (by simp only [List.mem_cons, not_or]; exact ⟨hne, Ne.symm hae, by simp⟩) fun z h' tk hzx ho hst' hT hsz hk => ?_
    have hz2 : z = u := by
      have e1 : its.toArray[i]? = some z := hzx
      have e2 : its.toArray[i]? = some u := by simpa using hu
      rw [e2] at e1
      exact (Option.some.inj e1).symm
    subst hz2
    refine ⟨_, rfl, wpAny_letOwnedTupleGo_enum (s := { s with heap := h', toks := tk + 1 }) ho fun h'' he' sb => ?_⟩
    have hT2 : h''.get? s.heap.objs.size = some { cls := .type "tuple", data := .seq #[.int i tk, z] } := (sb.2 _ (Nat.ne_of_gt hel)).trans hT
    have new : ObjOk X.prog X.w (upd H s.heap.objs.size (.tup [.int (i : Nat), x])) h'' s.heap.objs.size (.tup [.int (i : Nat), x]) :=
      ⟨by show 2 ≤ sizeLine; decide, [.int i tk, z], .cons ⟨_, rfl⟩ (.cons ru .nil), ⟨_, hT2, rfl, _, rfl⟩⟩
    have I1 : Inv X pins σ (upd H s.heap.objs.size (.tup [.int (i : Nat), x])) { s with heap := h'', toks := tk + 1 } :=
      I.turnedNew (ch := [e, it]) (fun b ob hb q => (sb.2 b (fun z => hb (by simp [z]))).trans (hk b ob (fun z => hb (by simp [z])) (fun z => hb (by simp [z])) q)) hf (Nat.le_refl _) new
    refine ⟨.ref s.heap.objs.size, _, I1, rfl, ⟨_, x, rfl, I.hok.fresh (Nat.le_refl _), rfl, fun ys hy => by rw [I.tuple_inj hy hq]; exact hx⟩, ⟨⟨z, ?_⟩, hst'.1.at fun o q => (sb.2 it (Ne.symm hne)).trans q, hne, hae⟩, fun b hb => ?_⟩
    · have e1 : ((i + 1 : Nat) : Int) = (i : Int) + 1 := by omega
      rw [e1]
      exact he'
    · have hb' : b < s.heap.objs.size := by
        have e' : b = e ∨ b = it := by simpa using hb
        rcases e' with z | z
        · rw [z]; exact hel
        · rw [z]; exact hil
      rw [upd_ne (Nat.ne_of_lt hb')]
      exact (hf b hb).1
  done := by
    intro X hP hw hK hc i pins s σ H E I hf st hg
    subst hP hw hK
    obtain ⟨⟨old, he⟩, hit, hne, hae⟩ := st
    obtain ⟨xs, hq, hx⟩ := hg
    obtain ⟨its, rv, p, hz⟩ := I.tuple hq
    obtain ⟨f0, f1, f2, f3, f4, f5⟩ := hf it (by simp)
    have hl := rv.length
    have hi : i = its.toArray.size := by simp; omega
    subst hi
    have hd' : X.A.in1.handled = none := I.ok.hd hc
    exact wpAny_pyNext_enum_endD (n := its.toArray.size) (Draws.tuple hd' it a hait its.toArray) he ⟨hit, show s.heap.IsTuple a its.toArray from p⟩ fun h' eb => ⟨rfl, I.turned (t' := s.toks) (fun b o hb q => eb b o hb q) f0 f1 f3 f4 f5⟩
  self := fun A i s Q E st h => let ⟨⟨_, he⟩, _⟩ := st; wpAny_pyIter_enum he h
/-- enumerate of a list, of a tuple -/
def iEnumA (K : PySem.W.Frag) (ta : TA) : TI := fun σ H R => ta σ H fun vs H1 => ∃ a, vs = [.ref a] ∧ ((∃ xs, SqL K H1 a xs ∧ R (Ite K a) H1) ∨ ∃ xs, SqT K H1 a xs ∧ R (IteT K a) H1)
theorem pi_enumA {X : Cx} {e : Expr} {ta : TA} {p pos tpos : Pos} {elts : List Expr} {kk : Nat} (hg : Gl X "enumerate") (hm : X.mg "enumerate" = none) (ha : PA X [e] ta) (hs : starEach [e] X.env = [(false, eval e X.env)]) :
    PI X (.Tuple elts kk tpos) (.Call (.Name "enumerate" p) [e] [] pos) (iEnumA X.K ta) := by
  refine ⟨fun pins s σ H R I h => ?_⟩
  refine Call_ (ld_blt I hg hm boot_enumerate (PyProof.Rows.callWith_type1 (thn (ha.run pos pins s σ H _ I h) fun us s1 ⟨vs, H1, I1, r1, q1⟩ => ?_) hs rfl))
  obtain ⟨a, ex, q1⟩ := q1
  subst ex
  cases r1 with
  | cons r rr =>
    cases rr
    cases r
    have fpo : ∀ b ∈ [s1.heap.objs.size + 1, s1.heap.objs.size], FpOk X pins H1 b := fun b hb => by
      have e' : b = s1.heap.objs.size + 1 ∨ b = s1.heap.objs.size := by simpa using hb
      have hle : s1.heap.objs.size ≤ b := by
        rcases e' with z | z
        · rw [z]; exact Nat.le_add_right _ _
        · rw [z]; exact Nat.le_refl _
      exact I1.fpOk hle (I1.hok.fresh hle)
    rcases q1 with ⟨xs, hq, q⟩ | ⟨xs, hq, q⟩
    · obtain ⟨its, rv, p', hz⟩ := I1.list hq
      refine call_enumerate_list p'.isList fun h' he hit hsz hk => wpAny_pyIter_enum he ?_
      have I2 : Inv X pins σ H1 { s1 with heap := h' } := I1.kept (t' := s1.toks) hk
      exact ⟨s1.heap.objs.size + 1, [s1.heap.objs.size + 1, s1.heap.objs.size], _, _, H1, rfl, I2, turn_enum a (s1.heap.objs.size + 1) s1.heap.objs.size, ⟨⟨.none, he⟩, hit, Nat.succ_ne_self _⟩, fpo, q⟩
    · obtain ⟨its, rv, p', hz⟩ := I1.tuple hq
      have hal : a < s1.heap.objs.size := p'.lt
      refine call_enumT (show s1.heap.IsTuple a its.toArray from p') fun h' he hit hsz hk => wpAny_pyIter_enum he ?_
      have I2 : Inv X pins σ H1 { s1 with heap := h' } := I1.kept (t' := s1.toks) hk
      exact ⟨s1.heap.objs.size + 1, [s1.heap.objs.size + 1, s1.heap.objs.size], _, _, H1, rfl, I2, turn_enumT a (s1.heap.objs.size + 1) s1.heap.objs.size (Nat.ne_of_lt hal), ⟨⟨.none, he⟩, hit, Nat.succ_ne_self _, Nat.ne_of_lt (Nat.lt_succ_of_lt hal)⟩, fpo, q⟩
end DB
set_option maxHeartbeats 4000000
namespace DB
open PySem PySem.Spec L2
section
variable {c : AC} {kn : Know} {k : Nat} {X : Cx}
/-! ### targets -/
theorem wipe_iff {σ σ' : L2.St} {is : List Nat} : L2.wipe σ' is = L2.wipe σ is ↔ (σ'.length = σ.length ∧ ∀ i, i ∉ is → σ'[i]? = σ[i]?) := by
  have g := fun τ => wipe_get τ L2.wipe (fun _ => rfl) (fun _ _ _ => rfl) is
  constructor
  · intro e
    refine ⟨?_, fun i hi => ?_⟩
    · have := congrArg List.length e
      rw [L2.wipe_length, L2.wipe_length] at this
      exact this
    · have e1 := congrArg (fun l => l[i]?) e
      simp only [g, if_neg hi] at e1
      exact e1
  · rintro ⟨hl, he⟩
    apply List.ext_getElem?
    intro i
    rw [g, g]
    by_cases hi : i ∈ is
    · rw [if_pos hi, if_pos hi]
      by_cases hlt : i < σ.length
      · rw [List.getElem?_eq_getElem hlt, List.getElem?_eq_getElem (by omega)]
        rfl
      · rw [List.getElem?_eq_none (by omega), List.getElem?_eq_none (by omega)]
    · rw [if_neg hi, if_neg hi]
      exact he i hi
theorem s_Tg_n {i : Nat} {e' : Expr} (x : XOk c kn k X) (h : agTg c (.n i) e' = true) : PG X e' (tTg X.K (.n i)) := by
  cases e' with
  | Name y p =>
    obtain ⟨h1, h2⟩ := b2 (show (decide (c.N[i]? = some y) && locB c.sc c.blk y) = true from h)
    obtain ⟨l1, l2⟩ := x.loc h2
    refine PG.imp (pg_name x.nd (by rw [x.N]; exact of_decide_eq_true h1) l1 l2) fun v σ H Q hh => ?_
    obtain ⟨as, F, st, env, d, env', st', s, en, dv, e, a⟩ := hh
    obtain ⟨rfl, rfl⟩ := pure_inv (show (pure (env.set i (some (.dat d))) : M Env) st = .ok env' st' from e)
    refine a (σ.set i (some v)) F H s .refl (en.set i (.inl ⟨d, rfl, dv⟩)) (wipe_iff.mpr ⟨by rw [List.length_set], fun j hj => ?_⟩)
    exact List.getElem?_set_ne fun z => hj (by rw [z]; exact List.mem_cons_self ..)
  | _ => exact absurd h Bool.false_ne_true
theorem agTgs_star : ∀ {ts : Tgs} {es' : List Expr}, agTgs c ts es' = true → ∀ e ∈ es', notStar e = true
  | .nil, [], _ => fun _ h => nomatch h
  | .nil, _ :: _, h => absurd h Bool.false_ne_true
  | .cons _ _, [], h => absurd h Bool.false_ne_true
  | .cons t ts, e' :: es', h => fun x hx => by
    have h : (notStar e' && (agTg c t e' && agTgs c ts es')) = true := h
    obtain ⟨h1, h⟩ := b2 h
    obtain ⟨h2, h3⟩ := b2 h
    rcases List.mem_cons.mp hx with rfl | hx
    · exact h1
    · exact agTgs_star h3 x hx
theorem assign_cons {e : Expr} {es : List Expr} {env : PySem.Env} (h : notStar e = true) : assignEach (e :: es) env = (false, assign e env) :: assignEach es env := by
  cases e <;> first | rfl | exact absurd h Bool.false_ne_true
theorem assign_len {env : PySem.Env} : ∀ {es : List Expr}, (∀ e ∈ es, notStar e = true) → (assignEach es env).length = es.length ∧ (assignEach es env).findIdx? (·.1) = none
  | [], _ => ⟨rfl, rfl⟩
  | e :: es, h => by
    obtain ⟨h1, h2⟩ := assign_len (env := env) (es := es) fun x hx => h x (List.mem_cons_of_mem _ hx)
    rw [assign_cons (h e (List.mem_cons_self ..))]
    refine ⟨by rw [List.length_cons, List.length_cons, h1], ?_⟩
    rw [List.findIdx?_cons, h2]
    rfl
def lenTgs : Tgs → Nat
  | .nil => 0
  | .cons _ ts => lenTgs ts + 1
theorem evTgs_len : ∀ {ts : Tgs} {ds : List D} {env env' : Env} {st st' : Sto}, evTgs ts ds env st = .ok env' st' → ds.length = lenTgs ts
  | .nil, [], _, _, _, _, _ => rfl
  | .nil, _ :: _, _, _, _, _, h => (no_inv h).elim
  | .cons _ _, [], _, _, _, _, h => (no_inv h).elim
  | .cons t ts, d :: ds, env, env', st, st', h => by
    obtain ⟨e1, s1, _, z1⟩ := bind_inv (show (evTg t d env >>= fun env' => evTgs ts ds env') st = .ok env' st' from h)
    exact congrArg Nat.succ (evTgs_len z1)
theorem agTgs_len : ∀ {ts : Tgs} {es' : List Expr}, agTgs c ts es' = true → es'.length = lenTgs ts
  | .nil, [], _ => rfl
  | .nil, _ :: _, h => absurd h Bool.false_ne_true
  | .cons _ _, [], h => absurd h Bool.false_ne_true
  | .cons t ts, e' :: es', h => by
    have h : (notStar e' && (agTg c t e' && agTgs c ts es')) = true := h
    obtain ⟨h1, h⟩ := b2 h
    obtain ⟨h2, h3⟩ := b2 h
    exact congrArg Nat.succ (agTgs_len h3)
theorem s_Tg_t {ts : Tgs} {e' : Expr} (x : XOk c kn k X) (h : agTg c (.t ts) e' = true) (hs : ∀ es', agTgs c ts es' = true → PGs X es' (tTgs X.K ts)) : PG X e' (tTg X.K (.t ts)) := by
  cases e' with
  | Tuple es' j p =>
    have h : agTgs c ts es' = true := h
    obtain ⟨l1, l2⟩ := assign_len (env := X.env) (agTgs_star h)
    refine PG.imp (pg_tup x.calm (hs es' h) l1 l2) fun v σ H Q hh => ?_
    obtain ⟨as, F, st, env, d, env', st', s, en, dv, e, a⟩ := hh
    cases d with
    | tup ds =>
      cases dv with
      | tup h1 h2 h3 => exact ⟨_, _, rfl, Same.seqT s.sub h1, by rw [h3.length, evTgs_len (show evTgs ts ds env st = .ok env' st' from e), agTgs_len h], as, F, st, env, ds, env', st', s, en, h3, e, a⟩
    | _ => exact (no_inv e).elim
  | _ => exact absurd h Bool.false_ne_true
theorem s_Tgs_nil : PGs X [] (tTgs X.K .nil) := PGs.imp pgs_nil fun vs σ H Q hh => by
  obtain ⟨as, F, st, env, ds, env', st', s, en, dv, e, a⟩ := hh
  cases ds with
  | nil =>
    cases dv
    obtain ⟨rfl, rfl⟩ := pure_inv (show (pure env : M Env) st = .ok env' st' from e)
    exact ⟨rfl, a σ F H s .refl en rfl⟩
  | cons _ _ => exact (no_inv e).elim
theorem s_Tgs_cons {t : Tg} {ts : Tgs} {e' : Expr} {es' : List Expr} (h0 : notStar e' = true) (ht : PG X e' (tTg X.K t)) (hs : PGs X es' (tTgs X.K ts)) : PGs X (e' :: es') (tTgs X.K (.cons t ts)) := by
  refine PGs.imp (pgs_cons ht hs (by rw [assign_cons h0]; rfl)) fun vs σ H Q hh => ?_
  obtain ⟨as, F, st, env, ds, env', st', s, en, dv, e, a⟩ := hh
  cases ds with
  | nil => exact (no_inv e).elim
  | cons d ds =>
    cases dv with
    | cons d1 d2 =>
      obtain ⟨env1, s1, e1, z1⟩ := bind_inv (show (evTg t d env >>= fun env' => evTgs ts ds env') st = .ok env' st' from e)
      refine ⟨_, _, rfl, as, F, st, env, d, env1, s1, s, en, d1, e1, fun σ1 F1 H1 k1 x1 en1 w1 => ?_⟩
      refine ⟨as, F1, s1, env1, ds, env', st', k1, en1, d2.mono x1.f, z1, fun σ2 F2 H2 k2 x2 en2 w2 => a σ2 F2 H2 k2 (x1.trans s.len k1.len x2) en2 ?_⟩
      obtain ⟨l1, g1⟩ := wipe_iff.mp w1
      obtain ⟨l2, g2⟩ := wipe_iff.mp w2
      refine wipe_iff.mpr ⟨l2.trans l1, fun i hi => ?_⟩
      have hi' : i ∉ t.slots ∧ i ∉ ts.slots := by
        have : i ∉ t.slots ++ ts.slots := hi
        simpa [List.mem_append, not_or] using this
      rw [g2 i hi'.2, g1 i hi'.1]
/-- a live cell's content changes -/
theorem StOk.write {K : PySem.W.Frag} {F H : Hp} {as : List Addr} {st : Sto} (s : StOk K F H as st) {n : Nat} {a : Addr} {d d' : D} {o : HO} (ha : as[n]? = some a) (hc : st[n]? = some ⟨d, true⟩) (hn : CelOk K F (L2.upd H a o) a d') :
    StOk K F (L2.upd H a o) as (st.set n ⟨d', true⟩) ∧ Ext [] as F H st as F (L2.upd H a o) (st.set n ⟨d', true⟩) := by
  obtain ⟨f, c1, u1⟩ := s.live n a d ha hc
  have hlt : n < st.length := (List.getElem?_eq_some_iff.mp hc).1
  refine ⟨⟨fun b ob hb => ?_, by rw [List.length_set]; exact s.len, fun m b e h1 h2 => ?_, fun m b e h1 h2 => ?_⟩, ⟨⟨[], by simp, fun _ h => nomatch h⟩, Same.refl F, fun b hb z => ?_, fun b ob hb n' _ => ⟨?_, id⟩, fun m e _ h2 => ?_, by rw [List.length_set]; exact Nat.le_refl _⟩⟩
  · have ne : b ≠ a := fun z => by rw [z, f] at hb; cases hb
    rw [upd_ne ne]
    exact s.sub b ob hb
  · by_cases hm : n = m
    · subst hm
      rw [List.getElem?_set_self hlt] at h2
      cases h2
      rw [ha] at h1
      cases h1
      exact ⟨f, hn, u1⟩
    · rw [List.getElem?_set_ne hm] at h2
      obtain ⟨f2, c2, u2⟩ := s.live m b e h1 h2
      have ne : b ≠ a := fun z => hm (u1 m (z ▸ h1)).symm
      exact ⟨f2, c2.keep (upd_ne ne) (Same.refl F), u2⟩
  · by_cases hm : n = m
    · subst hm
      rw [List.getElem?_set_self hlt] at h2
      cases h2
    · rw [List.getElem?_set_ne hm] at h2
      exact s.froz m b e h1 h2
  · unfold L2.upd at z
    split at z
    · cases z
    · exact hb z
  · have ne : b ≠ a := fun q => n' n _ hc (q ▸ ha)
    rw [upd_ne ne]
    exact hb
  · by_cases hm : n = m
    · subst hm
      exact ⟨_, hc⟩
    · rw [List.getElem?_set_ne hm] at h2
      exact ⟨e, h2⟩
theorem live_inv {r : R} {n : Nat} {d : D} {st st' : Sto} (h : live r st = .ok (n, d) st') : r = .cell n ∧ st' = st ∧ st[n]? = some ⟨d, true⟩ := by
  cases r with
  | cell c =>
    have h' : (match st[c]? with | some ⟨d, true⟩ => Res.ok (c, d) st | _ => .no) = .ok (n, d) st' := h
    split at h'
    · rename_i d0 e
      cases h'
      exact ⟨rfl, rfl, e⟩
    · cases h'
  | _ => exact (no_inv h).elim
theorem s_Tg_ix {a b : E} {e' : Expr} (x : XOk c kn k X) (h : agTg c (.ix a b) e' = true)
    (ha : ∀ a', agE c a a' = true → PE X a' (tE X.K a)) (hb : ∀ b', agE c b b' = true → PE X b' (tE X.K b)) : PG X e' (tTg X.K (.ix a b)) := by
  cases e' with
  | Subscript a' b' p =>
    obtain ⟨h1, h⟩ := b2 (show (notSlice b' && (agE c a a' && agE c b b')) = true from h)
    obtain ⟨h2, h3⟩ := b2 h
    refine PG.imp (pg_sub (ha a' h2) (hb b' h3) set_list (fun v => by cases b' <;> first | rfl | exact absurd h1 Bool.false_ne_true)) fun v σ H Q hh => ?_
    obtain ⟨as, F, st, env, d, env', st', s, en, dv, e, af⟩ := hh
    obtain ⟨ra, s1, e1, z1⟩ := bind_inv (show (evE a env >>= fun x => evE b env >>= fun y => live x >>= fun q => ixSet q.1 q.2 y d env) st = .ok env' st' from e)
    obtain ⟨rb, s2, e2, z2⟩ := bind_inv z1
    obtain ⟨⟨n, q⟩, s3, e3, z3⟩ := bind_inv z2
    refine ⟨as, F, st, env, ra, s1, s, en, e1, fun v1 F1 H1 k1 x1 r1 f1 => ?_⟩
    refine ⟨as, F1, s1, env, rb, s2, k1, en.ext x1, e2, fun v2 F2 H2 k2 x2 r2 f2 => ?_⟩
    obtain ⟨rfl, rfl, hn⟩ := live_inv e3
    have z3 : ixSet n q rb d env s3 = .ok env' st' := z3
    have x12 : Ext [] as F H st as F2 H2 s3 := x1.trans s.len k1.len x2
    cases r1 with
    | @cell p1 _ hp =>
      cases q with
      | lst xs =>
        cases rb with
        | dat dj =>
          cases dj with
          | int j =>
            obtain ⟨xs', s4, e40, z4⟩ := bind_inv (show (M.opt (setAt xs j d) >>= fun xs' => write n (.lst xs') >>= fun _ => (pure env : M Env)) s3 = .ok env' st' from z3)
            obtain ⟨e4, rfl⟩ := opt_inv e40
            obtain ⟨_, s5, e5, z5⟩ := bind_inv z4
            obtain ⟨rfl, rfl⟩ := pure_inv z5
            have e5 : s4.set n ⟨.lst xs', true⟩ = st' := by cases e5; rfl
            subst e5
            obtain ⟨f0, c0, u0⟩ := k2.live n p1 _ hp hn
            cases c0 with
            | lst ho hl hd =>
              cases r2 with
              | dat r2 =>
                cases r2
                unfold setAt at e4
                cases q4 : ixN xs.length j with
                | none => rw [q4] at e4; cases e4
                | some m =>
                  rw [q4] at e4
                  cases e4
                  have hd' := hd.set m (dv.mono x12.f)
                  obtain ⟨k3, x3⟩ := k2.write (o := .lst _) hp hn (.lst upd_same (by rw [List.length_set]; exact hl) hd')
                  refine ⟨p1, _, j, m, rfl, rfl, ho, by rw [hd.length]; exact q4, ?_⟩
                  exact af σ F2 _ k3 (x12.trans s.len k2.len x3) ((en.ext x12).ext x3) rfl
          | _ => exact (no_inv z3).elim
        | _ => exact (no_inv z3).elim
      | _ => exact (no_inv z3).elim
  | _ => exact absurd h Bool.false_ne_true

/-! ### what is walked -/
/-- a list, a tuple, whichever it is -/
def iSeq (K : PySem.W.Frag) (tl : TE) : TI := fun σ H R => tl σ H fun x H1 => ∃ a, x = .ref a ∧ (((∃ xs, SqL K H1 a xs) ∧ R (Itl K a) H1) ∨ ((∃ xs, SqT K H1 a xs) ∧ R (Itt K a) H1))
theorem pi_seq {tg l : Expr} {tl : TE} (hl : PE X l tl) : PI X tg l (iSeq X.K tl) := by
  refine ⟨fun pins s σ H R I h => ?_⟩
  refine thn (hl.run pins s σ H _ I h) fun v s1 ⟨y, H1, I1, r1, q1⟩ => ?_
  obtain ⟨a, e, q1⟩ := q1
  subst e
  cases r1
  have fpo : ∀ b ∈ [s1.heap.objs.size], FpOk X pins H1 b := fun b hb => by
    have e : b = s1.heap.objs.size := by simpa using hb
    subst e
    exact I1.fpOk (Nat.le_refl _) (I1.hok.fresh (Nat.le_refl _))
  rcases q1 with ⟨⟨xs, hq⟩, q⟩ | ⟨⟨xs, hq⟩, q⟩
  · obtain ⟨its, rv, p, hz⟩ := I1.list hq
    refine wpAny_pyIter_list p.isList ?_
    exact ⟨s1.heap.objs.size, [s1.heap.objs.size], _, _, H1, rfl, I1.kept (t' := s1.toks) fun b o e => Heap.get?_push_of_some _ e, turn_list a _, ⟨_, Heap.get?_push_size _ rfl, rfl, rfl⟩, fpo, q⟩
  · obtain ⟨its, rv, p, hz⟩ := I1.tuple hq
    refine wpAny_pyIter_tuple (show s1.heap.IsTuple a its.toArray from p) ?_
    exact ⟨s1.heap.objs.size, [s1.heap.objs.size], _, _, H1, rfl, I1.kept (t' := s1.toks) fun b o e => Heap.get?_push_of_some _ e, turn_tuple a _, ⟨_, Heap.get?_push_size _ rfl, rfl, rfl⟩, fpo, q⟩
theorem yl_list {K : PySem.W.Frag} {F0 : Hp} {a : Addr} {xs : List V} {ds : List D} (h : SqL K F0 a xs) (r : DsOk K F0 xs ds) : Yl K (Itl K a) F0 ds := by
  intro i F H as st s0 s
  have hq : SqL K H a xs := s.sub.seq (s0.seq h)
  refine ⟨fun e => ⟨xs, hq, by rw [r.length, e]; exact Nat.le_refl _⟩, fun d hd => ?_⟩
  obtain ⟨v, hv, dv⟩ := r.get hd
  refine ⟨⟨xs, v, hq, hv⟩, fun y H' hy => ?_⟩
  obtain ⟨rfl, hy⟩ := hy
  have := hy xs hq
  rw [hv] at this
  cases this
  exact ⟨F, s, .refl, dv.mono s0⟩
theorem yl_tuple {K : PySem.W.Frag} {F0 : Hp} {a : Addr} {xs : List V} {ds : List D} (h : SqT K F0 a xs) (r : DsOk K F0 xs ds) : Yl K (Itt K a) F0 ds := by
  intro i F H as st s0 s
  have hq : SqT K H a xs := Same.seqT s.sub (Same.seqT s0 h)
  refine ⟨fun e => ⟨xs, hq, by rw [r.length, e]; exact Nat.le_refl _⟩, fun d hd => ?_⟩
  obtain ⟨v, hv, dv⟩ := r.get hd
  refine ⟨⟨xs, v, hq, hv⟩, fun y H' hy => ?_⟩
  obtain ⟨rfl, hy⟩ := hy
  have := hy xs hq
  rw [hv] at this
  cases this
  exact ⟨F, s, .refl, dv.mono s0⟩
theorem rngD_get : ∀ {n : Nat} {lo : Int} {i : Nat} {d : D}, (rngD lo n)[i]? = some d → i < n ∧ d = .int (lo + i)
  | 0, _, _, _, h => by simp [rngD] at h
  | n + 1, lo, 0, d, h => by
    have h : some (D.int lo) = some d := h
    cases h
    exact ⟨Nat.succ_pos _, by simp⟩
  | n + 1, lo, i + 1, d, h => by
    obtain ⟨h1, h2⟩ := rngD_get (n := n) (lo := lo + 1) (i := i) (d := d) h
    refine ⟨Nat.succ_lt_succ h1, ?_⟩
    rw [h2]
    congr 1
    omega
theorem rngD_len : ∀ {n : Nat} {lo : Int}, (rngD lo n).length = n
  | 0, _ => rfl
  | n + 1, lo => congrArg Nat.succ rngD_len
theorem yl_rng {K : PySem.W.Frag} {F0 : Hp} {lo : Int} {n : Nat} : Yl K (Itr lo n) F0 (rngD lo n) := by
  intro i F H as st s0 s
  refine ⟨fun e => by rw [rngD_len] at e; exact Nat.le_of_eq e.symm, fun d hd => ?_⟩
  obtain ⟨h1, rfl⟩ := rngD_get hd
  refine ⟨h1, fun y H' hy => ?_⟩
  obtain ⟨rfl, rfl⟩ := hy
  exact ⟨F, s, .refl, .int _⟩
theorem enumD_get : ∀ {ds : List D} {j : Int} {i : Nat} {d : D}, (enumD j ds)[i]? = some d → ∃ d', ds[i]? = some d' ∧ d = .tup [.int (j + i), d']
  | [], _, _, _, h => by simp [enumD] at h
  | d0 :: ds, j, 0, d, h => by
    have h : some (D.tup [.int j, d0]) = some d := h
    cases h
    exact ⟨d0, rfl, by simp⟩
  | d0 :: ds, j, i + 1, d, h => by
    obtain ⟨d', h1, h2⟩ := enumD_get (ds := ds) (j := j + 1) (i := i) (d := d) h
    refine ⟨d', h1, ?_⟩
    rw [h2]
    congr 3
    omega
theorem enumD_len : ∀ {ds : List D} {j : Int}, (enumD j ds).length = ds.length
  | [], _ => rfl
  | _ :: ds, _ => congrArg Nat.succ enumD_len
/-- a new pair handed out -/
theorem yl_pair {K : PySem.W.Frag} {F H : Hp} {as : List Addr} {st : Sto} {T : Addr} {x y : V} {dx dy : D} (s : StOk K F H as st) (hT : H T = none) (hx : DOk K F x dx) (hy : DOk K F y dy) :
    ∃ F', StOk K F' (L2.upd H T (.tup [x, y])) as st ∧ Ext [] as F H st as F' (L2.upd H T (.tup [x, y])) st ∧ DOk K F' (.ref T) (.tup [dx, dy]) := by
  have fp : F T = none := by
    cases q : F T with
    | none => rfl
    | some u => rw [s.sub T u q] at hT; cases hT
  exact ⟨_, s.updF hT, Ext.updF s hT, .tup (SqT.of upd_same) (by show 2 ≤ sizeLine; decide) (.cons (hx.mono (Same.updB fp)) (.cons (hy.mono (Same.updB fp)) .nil))⟩
theorem yl_enumL {K : PySem.W.Frag} {F0 : Hp} {a : Addr} {xs : List V} {ds : List D} (h : SqL K F0 a xs) (r : DsOk K F0 xs ds) : Yl K (Ite K a) F0 (enumD 0 ds) := by
  intro i F H as st s0 s
  have hq : SqL K H a xs := s.sub.seq (s0.seq h)
  refine ⟨fun e => ⟨xs, hq, by rw [r.length, e, enumD_len]; exact Nat.le_refl _⟩, fun d hd => ?_⟩
  obtain ⟨d', hd', rfl⟩ := enumD_get hd
  obtain ⟨v, hv, dv⟩ := r.get hd'
  refine ⟨⟨xs, v, hq, hv⟩, fun y H' hy => ?_⟩
  obtain ⟨T, z, rfl, hT, rfl, hz⟩ := hy
  have := hz xs hq
  rw [hv] at this
  cases this
  have e0 : (0 : Int) + (i : Int) = (i : Nat) := by omega
  rw [e0]
  exact yl_pair s hT (.int _) (dv.mono s0)
theorem yl_enumT {K : PySem.W.Frag} {F0 : Hp} {a : Addr} {xs : List V} {ds : List D} (h : SqT K F0 a xs) (r : DsOk K F0 xs ds) : Yl K (IteT K a) F0 (enumD 0 ds) := by
  intro i F H as st s0 s
  have hq : SqT K H a xs := Same.seqT s.sub (Same.seqT s0 h)
  refine ⟨fun e => ⟨xs, hq, by rw [r.length, e, enumD_len]⟩, fun d hd => ?_⟩
  obtain ⟨d', hd', rfl⟩ := enumD_get hd
  obtain ⟨v, hv, dv⟩ := r.get hd'
  refine ⟨⟨xs, v, hq, hv⟩, fun y H' hy => ?_⟩
  obtain ⟨T, z, rfl, hT, rfl, hz⟩ := hy
  have := hz xs hq
  rw [hv] at this
  cases this
  have e0 : (0 : Int) + (i : Int) = (i : Nat) := by omega
  rw [e0]
  exact yl_pair s hT (.int _) (dv.mono s0)
theorem zipD_get : ∀ {as bs : List D} {i : Nat} {d : D}, (zipD as bs)[i]? = some d → ∃ a b, as[i]? = some a ∧ bs[i]? = some b ∧ d = .tup [a, b]
  | [], _, _, _, h => by simp [zipD] at h
  | _ :: _, [], _, _, h => by simp [zipD] at h
  | a :: as, b :: bs, 0, d, h => by
    have h : some (D.tup [a, b]) = some d := h
    cases h
    exact ⟨a, b, rfl, rfl, rfl⟩
  | a :: as, b :: bs, i + 1, d, h => zipD_get (as := as) (bs := bs) (i := i) h
theorem zipD_len : ∀ {as bs : List D}, (zipD as bs).length = min as.length bs.length
  | [], bs => by simp [zipD]
  | _ :: _, [] => by simp [zipD]
  | a :: as, b :: bs => by
    show (zipD as bs).length + 1 = min (as.length + 1) (bs.length + 1)
    rw [zipD_len]
    omega
theorem yl_zipL {K : PySem.W.Frag} {F0 : Hp} {a b : Addr} {xs ys : List V} {ds es : List D} (h : SqL K F0 a xs) (r : DsOk K F0 xs ds) (h' : SqL K F0 b ys) (r' : DsOk K F0 ys es) : Yl K (Itz K a b) F0 (zipD ds es) := by
  intro i F H as st s0 s
  have hq : SqL K H a xs := s.sub.seq (s0.seq h)
  have hq' : SqL K H b ys := s.sub.seq (s0.seq h')
  refine ⟨fun e => ⟨xs, ys, hq, hq', ?_⟩, fun d hd => ?_⟩
  · rw [zipD_len] at e
    rw [r.length, r'.length]
    omega
  · obtain ⟨d1, d2, e1, e2, rfl⟩ := zipD_get hd
    obtain ⟨v, hv, dv⟩ := r.get e1
    obtain ⟨w, hw, dw⟩ := r'.get e2
    refine ⟨⟨xs, ys, v, w, hq, hq', hv, hw⟩, fun y H' hy => ?_⟩
    obtain ⟨T, z1, z2, rfl, hT, rfl, hz1, hz2⟩ := hy
    have q1 := hz1 xs hq
    have q2 := hz2 ys hq'
    rw [hv] at q1
    rw [hw] at q2
    cases q1
    cases q2
    exact yl_pair s hT (dv.mono s0) (dw.mono s0)
theorem yl_zipT {K : PySem.W.Frag} {F0 : Hp} {a b : Addr} {xs ys : List V} {ds es : List D} (h : SqT K F0 a xs) (r : DsOk K F0 xs ds) (h' : SqT K F0 b ys) (r' : DsOk K F0 ys es) : Yl K (RZ.ItzT K a b) F0 (zipD ds es) := by
  intro i F H as st s0 s
  have hq : SqT K H a xs := Same.seqT s.sub (Same.seqT s0 h)
  have hq' : SqT K H b ys := Same.seqT s.sub (Same.seqT s0 h')
  refine ⟨fun e => ⟨xs, ys, hq, hq', ?_⟩, fun d hd => ?_⟩
  · rw [zipD_len] at e
    rw [r.length, r'.length]
    omega
  · obtain ⟨d1, d2, e1, e2, rfl⟩ := zipD_get hd
    obtain ⟨v, hv, dv⟩ := r.get e1
    obtain ⟨w, hw, dw⟩ := r'.get e2
    refine ⟨⟨xs, ys, v, w, hq, hq', hv, hw⟩, fun y H' hy => ?_⟩
    obtain ⟨T, z1, z2, rfl, hT, rfl, hz1, hz2⟩ := hy
    have q1 := hz1 xs hq
    have q2 := hz2 ys hq'
    rw [hv] at q1
    rw [hw] at q2
    cases q1
    cases q2
    exact yl_pair s hT (dv.mono s0) (dw.mono s0)
/-- items of data: a list's or a tuple's -/
theorem items_ok {K : PySem.W.Frag} {F : Hp} {v : V} {d : D} {ds : List D} {st st' : Sto} (h : DOk K F v d) (e : itemsOf d st = .ok ds st') : st' = st ∧ ∃ a xs, v = .ref a ∧ xs.length ≤ sizeLine ∧ DsOk K F xs ds ∧ ((isTupD d = false ∧ SqL K F a xs) ∨ (isTupD d = true ∧ SqT K F a xs)) := by
  cases d with
  | tup ys =>
    obtain ⟨rfl, rfl⟩ := pure_inv (show (pure ys : M (List D)) st = .ok ds st' from e)
    cases h with
    | tup h1 h2 h3 => exact ⟨rfl, _, _, rfl, h2, h3, .inr ⟨rfl, h1⟩⟩
  | lst ys =>
    obtain ⟨rfl, rfl⟩ := pure_inv (show (pure ys : M (List D)) st = .ok ds st' from e)
    cases h with
    | lst h1 h2 h3 => exact ⟨rfl, _, _, rfl, h2, h3, .inl ⟨rfl, SqL.of h1⟩⟩
  | scr ys =>
    obtain ⟨rfl, rfl⟩ := pure_inv (show (pure ys : M (List D)) st = .ok ds st' from e)
    cases h with
    | scr h1 h2 h3 => exact ⟨rfl, _, _, rfl, h2, h3, .inl ⟨rfl, h1⟩⟩
  | _ => exact (no_inv e).elim
theorem s_It_seq {a : E} {e' tg' : Expr} (ha : PE X e' (tE X.K a)) : PI X tg' e' (tIt X.K (.seq a)) := by
  refine PI.imp (pi_seq ha) fun σ H R' hh => ?_
  obtain ⟨as, F, st, env, ds, st', s, en, e, af⟩ := hh
  obtain ⟨ra, s1, e1, z1⟩ := bind_inv (show (evE a env >>= fun r => use r >>= fun d => itemsOf d) st = .ok ds st' from e)
  obtain ⟨d, s2, e2, z2⟩ := bind_inv z1
  refine ⟨as, F, st, env, ra, s1, s, en, e1, fun v F1 H1 k1 x1 r1 f1 => ?_⟩
  obtain ⟨F2, k2, x2, d2⟩ := use_aft s.len k1 x1 r1 f1 e2
  obtain ⟨rfl, b, xs, rfl, hl, hd, hs⟩ := items_ok d2 z2
  refine ⟨b, rfl, ?_⟩
  rcases hs with ⟨_, hs⟩ | ⟨_, hs⟩
  · exact .inl ⟨⟨xs, k2.sub.seq hs⟩, af _ F2 H1 k2 x2 (yl_list hs hd) (by rw [← hd.length]; exact hl)⟩
  · exact .inr ⟨⟨xs, Same.seqT k2.sub hs⟩, af _ F2 H1 k2 x2 (yl_tuple hs hd) (by rw [← hd.length]; exact hl)⟩
theorem rng_shape {tg' : Expr} {es : Es} {e' : Expr} (h : agIt c tg' (.rng es) e' = true) : ∃ y p es' p3, e' = .Call (.Name y p) es' [] p3 ∧ y = ("range" : Str) ∧ glB c.sc y = true ∧ (es'.length = 1 ∨ es'.length = 2) ∧ agEs c es es' = true := by
  cases e' with
  | Call f' args kws p3 =>
    cases f' with
    | Name y p =>
      cases kws with
      | nil =>
        obtain ⟨h1, h⟩ := b2 (show (decide (y = ("range" : Str)) && (glB c.sc y && (decide (args.length = 1 ∨ args.length = 2) && agEs c es args))) = true from h)
        obtain ⟨h2, h⟩ := b2 h
        obtain ⟨h3, h4⟩ := b2 h
        exact ⟨y, p, args, p3, rfl, of_decide_eq_true h1, h2, of_decide_eq_true h3, h4⟩
      | cons _ _ => exact absurd h Bool.false_ne_true
    | _ => exact absurd h Bool.false_ne_true
  | _ => exact absurd h Bool.false_ne_true
theorem evEs_len : ∀ {es : Es} {env : Env} {rs : List R} {st st' : Sto}, evEs es env st = .ok rs st' → rs.length = lenEs es
  | .nil, _, _, _, _, h => by
    obtain ⟨rfl, rfl⟩ := pure_inv h
    rfl
  | .cons e es, env, rs, st, st', h => by
    obtain ⟨r, s1, _, z1⟩ := bind_inv (show (evE e env >>= fun r => evEs es env >>= fun rs => (pure (r :: rs) : M (List R))) st = .ok rs st' from h)
    obtain ⟨rs', s2, h2, z2⟩ := bind_inv z1
    obtain ⟨rfl, rfl⟩ := pure_inv z2
    exact congrArg Nat.succ (evEs_len h2)
theorem s_It_rng {es : Es} {e' tg' : Expr} (x : XOk c kn k X) (h : agIt c tg' (.rng es) e' = true) (hs : ∀ es', agEs c es es' = true → PA X es' (tEs X.K es)) : PI X tg' e' (tIt X.K (.rng es)) := by
  obtain ⟨y, p, es', p3, rfl, rfl, h1, h2, h3⟩ := rng_shape h
  obtain ⟨g1, d1⟩ := x.glb h1
  have hm : X.mg "range" = none := free_of x (by decide +kernel)
  have hst := agEs_star h3
  have hl := agEs_len h3 rfl
  match es', h2, h3, hst, hl with
  | [a'], _, h3, hst, hl =>
    refine PI.imp (pi_range1 g1 hm (hs _ h3) (by rw [star_cons (hst _ (List.mem_cons_self ..))]; rfl)) fun σ H R' hh => ?_
    obtain ⟨as, F, st, env, ds, st', s, en, e, af⟩ := hh
    obtain ⟨rs, s1, e1, z1⟩ := bind_inv (show (evEs es env >>= fun rs => rngB rs) st = .ok ds st' from e)
    refine ⟨as, F, st, env, rs, s1, s, en, e1, fun vs F1 H1 k1 x1 r1 f1 => ?_⟩
    have hn : rs.length = 1 := by rw [evEs_len e1, hl]; rfl
    match rs, hn, r1, z1 with
    | [r], _, .cons r1 .nil _, z1 =>
      cases r1 with
      | dat r1 =>
        cases r1 with
        | int j =>
          obtain ⟨_, s2, e2, z2⟩ := bind_inv (show (M.guard (decide (-(2 ^ 62) ≤ j) && decide (j ≤ 1000000)) >>= fun _ => (pure (rngD 0 j.toNat) : M (List D))) s1 = .ok ds st' from z1)
          obtain ⟨g, rfl⟩ := guard_inv e2
          obtain ⟨rfl, rfl⟩ := pure_inv z2
          obtain ⟨g1, g2⟩ := b2 g
          have g1 := of_decide_eq_true g1
          have g2 := of_decide_eq_true g2
          exact ⟨j, rfl, g1, by omega, af _ F1 H1 k1 x1 yl_rng (by rw [rngD_len, sizeLine_eq]; omega)⟩
        | _ => exact (no_inv z1).elim
      | _ => exact (no_inv z1).elim
  | [a', b'], _, h3, hst, hl =>
    refine PI.imp (pi_range2 g1 hm (hs _ h3) (by rw [star_cons (hst _ (List.mem_cons_self ..)), star_cons (hst _ (List.mem_cons_of_mem _ (List.mem_cons_self ..)))]; rfl) (by rw [star_cons (hst _ (List.mem_cons_of_mem _ (List.mem_cons_self ..)))]; rfl)) fun σ H R' hh => ?_
    obtain ⟨as, F, st, env, ds, st', s, en, e, af⟩ := hh
    obtain ⟨rs, s1, e1, z1⟩ := bind_inv (show (evEs es env >>= fun rs => rngB rs) st = .ok ds st' from e)
    refine ⟨as, F, st, env, rs, s1, s, en, e1, fun vs F1 H1 k1 x1 r1 f1 => ?_⟩
    have hn : rs.length = 2 := by rw [evEs_len e1, hl]; rfl
    match rs, hn, r1, z1 with
    | [r, q], _, .cons r1 (.cons r2 .nil _) _, z1 =>
      cases r1 with
      | dat r1 =>
        cases r1 with
        | int i =>
          cases r2 with
          | dat r2 =>
            cases r2 with
            | int j =>
              obtain ⟨_, s2, e2, z2⟩ := bind_inv (show (M.guard (decide (-1000000 ≤ i) && decide (j ≤ 1000000) && decide (i ≤ 1000000) && decide (-1000000 ≤ j)) >>= fun _ => (pure (rngD i (j - i).toNat) : M (List D))) s1 = .ok ds st' from z1)
              obtain ⟨g, rfl⟩ := guard_inv e2
              obtain ⟨rfl, rfl⟩ := pure_inv z2
              simp only [Bool.and_eq_true, decide_eq_true_eq] at g
              exact ⟨i, j, rfl, by omega, af _ F1 H1 k1 x1 yl_rng (by rw [rngD_len, sizeLine_eq]; omega)⟩
            | _ => exact (no_inv z1).elim
          | _ => exact (no_inv z1).elim
        | _ => exact (no_inv (show (Res.no : Res (List D)) = .ok ds st' by cases r2 <;> exact z1)).elim
      | _ => exact (no_inv (show (Res.no : Res (List D)) = .ok ds st' by cases r2 <;> exact z1)).elim
theorem s_It_enum {a : E} {e' tg' : Expr} (x : XOk c kn k X) (h : agIt c tg' (.enum a) e' = true) (ha : ∀ a', agE c a a' = true → PE X a' (tE X.K a)) : PI X tg' e' (tIt X.K (.enum a)) := by
  have h0 : ∃ y p a' p3, e' = .Call (.Name y p) [a'] [] p3 ∧ y = ("enumerate" : Str) ∧ glB c.sc y = true ∧ isTupX tg' = true ∧ notStar a' = true ∧ agE c a a' = true := by
    cases e' with
    | Call f' args kws p3 =>
      cases f' with
      | Name y p =>
        match args, kws, h with
        | [a'], [], h =>
          obtain ⟨h1, h⟩ := b2 (show (decide (y = ("enumerate" : Str)) && (glB c.sc y && (isTupX tg' && (notStar a' && agE c a a')))) = true from h)
          obtain ⟨h2, h⟩ := b2 h
          obtain ⟨h3, h⟩ := b2 h
          obtain ⟨h4, h5⟩ := b2 h
          exact ⟨y, p, a', p3, rfl, of_decide_eq_true h1, h2, h3, h4, h5⟩
        | [], _, h => exact absurd h Bool.false_ne_true
        | [_], _ :: _, h => exact absurd h Bool.false_ne_true
        | _ :: _ :: _, _, h => exact absurd h Bool.false_ne_true
      | _ => exact absurd h Bool.false_ne_true
    | _ => exact absurd h Bool.false_ne_true
  obtain ⟨y, p, a', p3, rfl, rfl, h1, h2, h3, h4⟩ := h0
  obtain ⟨g1, d1⟩ := x.glb h1
  have hm : X.mg "enumerate" = none := free_of x (by decide +kernel)
  cases tg' with
  | Tuple elts kk tpos =>
    refine PI.imp (pi_enumA g1 hm (pa_cons (ha a' h4) pa_nil (star_cons h3)) (by rw [star_cons h3]; rfl)) fun σ H R' hh => ?_
    obtain ⟨as, F, st, env, ds, st', s, en, e, af⟩ := hh
    obtain ⟨ra, s1, e1, z1⟩ := bind_inv (show (evE a env >>= fun r => use r >>= fun d => itemsOf d >>= fun ds => (pure (enumD 0 ds) : M (List D))) st = .ok ds st' from e)
    obtain ⟨d, s2, e2, z2⟩ := bind_inv z1
    obtain ⟨ds0, s3, e3, z3⟩ := bind_inv z2
    refine ⟨as, F, st, env, ra, s1, s, en, e1, fun v F1 H1 k1 x1 r1 f1 => ?_⟩
    obtain ⟨F2, k2, x2, d2⟩ := use_aft s.len k1 x1 r1 f1 e2
    obtain ⟨rfl, b, xs, rfl, hl, hd, hs⟩ := items_ok d2 e3
    obtain ⟨rfl, rfl⟩ := pure_inv z3
    have hz : (enumD 0 ds0).length ≤ sizeLine := by rw [enumD_len, ← hd.length]; exact hl
    refine ⟨b, rfl, ?_⟩
    rcases hs with ⟨_, hs⟩ | ⟨_, hs⟩
    · exact .inl ⟨xs, k2.sub.seq hs, af _ F2 H1 k2 x2 (yl_enumL hs hd) hz⟩
    · exact .inr ⟨xs, Same.seqT k2.sub hs, af _ F2 H1 k2 x2 (yl_enumT hs hd) hz⟩
  | _ => exact absurd h2 Bool.false_ne_true
theorem s_It_zip {a b : E} {e' tg' : Expr} (x : XOk c kn k X) (h : agIt c tg' (.zip a b) e' = true) (ha : ∀ a', agE c a a' = true → PE X a' (tE X.K a)) (hb : ∀ a', agE c b a' = true → PE X a' (tE X.K b)) : PI X tg' e' (tIt X.K (.zip a b)) := by
  have h0 : ∃ y p a' b' p3, e' = .Call (.Name y p) [a', b'] [] p3 ∧ y = ("zip" : Str) ∧ glB c.sc y = true ∧ isTupX tg' = true ∧ notStar a' = true ∧ notStar b' = true ∧ agE c a a' = true ∧ agE c b b' = true := by
    cases e' with
    | Call f' args kws p3 =>
      cases f' with
      | Name y p =>
        match args, kws, h with
        | [a', b'], [], h =>
          obtain ⟨h1, h⟩ := b2 (show (decide (y = ("zip" : Str)) && (glB c.sc y && (isTupX tg' && (notStar a' && (notStar b' && (agE c a a' && agE c b b')))))) = true from h)
          obtain ⟨h2, h⟩ := b2 h
          obtain ⟨h3, h⟩ := b2 h
          obtain ⟨h4, h⟩ := b2 h
          obtain ⟨h5, h⟩ := b2 h
          obtain ⟨h6, h7⟩ := b2 h
          exact ⟨y, p, a', b', p3, rfl, of_decide_eq_true h1, h2, h3, h4, h5, h6, h7⟩
        | [], _, h => exact absurd h Bool.false_ne_true
        | [_], _, h => exact absurd h Bool.false_ne_true
        | [_, _], _ :: _, h => exact absurd h Bool.false_ne_true
        | _ :: _ :: _ :: _, _, h => exact absurd h Bool.false_ne_true
      | _ => exact absurd h Bool.false_ne_true
    | _ => exact absurd h Bool.false_ne_true
  obtain ⟨y, p, a', b', p3, rfl, rfl, h1, h2, h3, h4, h5, h6⟩ := h0
  obtain ⟨g1, d1⟩ := x.glb h1
  have hm : X.mg "zip" = none := free_of x (by decide +kernel)
  cases tg' with
  | Tuple elts kk tpos =>
    refine PI.imp (RZ.pi_zipA g1 hm (pa_cons (ha a' h5) (pa_cons (hb b' h6) pa_nil (star_cons h4)) (star_cons h3)) (star_cons h3) (by rw [star_cons h4]; rfl)) fun σ H R' hh => ?_
    obtain ⟨as, F, st, env, ds, st', s, en, e, af⟩ := hh
    obtain ⟨ra, s1, e1, z1⟩ := bind_inv (show (evE a env >>= fun x => evE b env >>= fun y => use x >>= fun p => use y >>= fun q => M.guard (isTupD p == isTupD q) >>= fun _ => itemsOf p >>= fun as => itemsOf q >>= fun bs => (pure (zipD as bs) : M (List D))) st = .ok ds st' from e)
    obtain ⟨rb, s2, e2, z2⟩ := bind_inv z1
    obtain ⟨d, s3, e3, z3⟩ := bind_inv z2
    obtain ⟨q, s4, e4, z4⟩ := bind_inv z3
    obtain ⟨_, s5, e5, z5⟩ := bind_inv z4
    obtain ⟨ds1, s6, e6, z6⟩ := bind_inv z5
    obtain ⟨ds2, s7, e7, z7⟩ := bind_inv z6
    refine ⟨as, F, st, env, ra, s1, s, en, e1, fun v F1 H1 k1 x1 r1 f1 => ?_⟩
    refine ⟨as, F1, s1, env, rb, s2, k1, en.ext x1, e2, fun w F2 H2 k2 x2 r2 f2 => ?_⟩
    have x12 := x1.trans s.len k1.len x2
    have r1' := r1.ext k1.len x2 fun _ _ z => nomatch z
    have hdis : ∀ a ∈ ownA w rb, a ∉ ownA v ra := fun a hw hv => by
      cases ra with
      | own d0 =>
        cases r1 with
        | own q1 q2 q3 =>
          have e1 : a = _ := List.mem_singleton.mp hv
          subst e1
          cases rb with
          | own d1 =>
            cases r2 with
            | own p1 p2 p3 =>
              have e2 : a = _ := List.mem_singleton.mp hw
              exact q2.some (f2 a (by rw [e2]))
          | _ => cases w <;> cases hw
      | _ => cases v <;> cases hv
    obtain ⟨F3, k3, x3, d3⟩ := use_ok k2 r1' e3
    have x13 : Ext [] as F H st as F3 H2 s3 := x12.transX s.len k2.len x3 (fun _ z => nomatch z) fun a ha => .inr (by
      cases ra with
      | own d0 =>
        cases v with
        | ref b =>
          have : a = b := List.mem_singleton.mp ha
          subst this
          exact f1 _ rfl
        | _ => cases ha
      | _ => cases v <;> cases ha)
    have r2' := r2.ext k2.len x3 hdis
    have f2' : Fresh H w rb := Fresh.back x1 f2
    obtain ⟨F4, k4, x40, d4⟩ := use_ok k3 r2' e4
    have x34 : Same F3 F4 := x40.f
    have x4 : Ext [] as F H st as F4 H2 s4 := x13.transX s.len k3.len x40 (fun _ z => nomatch z) fun a ha => .inr (by
      cases rb with
      | own d0 =>
        cases w with
        | ref b =>
          have : a = b := List.mem_singleton.mp ha
          subst this
          exact f2' _ rfl
        | _ => cases ha
      | _ => cases w <;> cases ha)
    obtain ⟨g, rfl⟩ := guard_inv e5
    obtain ⟨rfl, b1, xs, rfl, hl, hd, hs⟩ := items_ok d3 e6
    obtain ⟨rfl, b2', ys, rfl, hl2, hd2, hs2⟩ := items_ok d4 e7
    obtain ⟨rfl, rfl⟩ := pure_inv z7
    have hz : (zipD ds1 ds2).length ≤ sizeLine := by rw [zipD_len, ← hd.length]; omega
    refine ⟨b1, b2', xs, ys, rfl, ?_⟩
    rcases hs with ⟨t1, hs⟩ | ⟨t1, hs⟩
    · rcases hs2 with ⟨t2, hs2⟩ | ⟨t2, hs2⟩
      · have hs' := x34.seq hs
        exact .inl ⟨k4.sub.seq hs', k4.sub.seq hs2, af _ F4 H2 k4 x4 (yl_zipL hs' (hd.mono x34) hs2 hd2) hz⟩
      · rw [t1, t2] at g; cases g
    · rcases hs2 with ⟨t2, hs2⟩ | ⟨t2, hs2⟩
      · rw [t1, t2] at g; cases g
      · have hs' := Same.seqT x34 hs
        exact .inr ⟨Same.seqT k4.sub hs', Same.seqT k4.sub hs2, af _ F4 H2 k4 x4 (yl_zipT hs' (hd.mono x34) hs2 hd2) hz⟩
  | _ => exact absurd h2 Bool.false_ne_true
end
end DB
set_option maxHeartbeats 4000000
namespace DB
open PySem PySem.Spec L2
section
variable {c : AC} {kn : Know} {k : Nat} {X : Cx}
theorem DsOk.dropLast {K : PySem.W.Frag} {F : Hp} {vs : List V} {ds : List D} (h : DsOk K F vs ds) : DsOk K F vs.dropLast ds.dropLast := by
  have e : ds.dropLast = ds.take (vs.length - 1) := by rw [h.length]; exact List.dropLast_eq_take
  rw [e, List.dropLast_eq_take]
  exact h.take _
def mId : Mm → String
  | .append => "list.append" | .insert => "list.insert" | .pop => "list.pop" | .popi => "list.pop" | .extend => "list.extend"
def rMth (K : PySem.W.Frag) (m : Mm) : V → List V → Hp → VK → Prop := fun x vs H Q => ∃ as F st n a d ds r st', x = .ref a ∧ StOk K F H as st ∧ as[n]? = some a ∧ st[n]? = some ⟨d, true⟩ ∧ DsOk K F vs ds ∧ mthB m n d ds st = .ok r st' ∧
  ∀ v H', StOk K F H' as st' → Ext [] as F H st as F H' st' → ROk K F H' as v r → (∀ d, r ≠ .own d) → Q v H'
theorem write_inv {n : Nat} {d : D} {α : Type} {f : Unit → M α} {st st' : Sto} {a : α} (h : (write n d >>= f) st = .ok a st') : f () (st.set n ⟨d, true⟩) = .ok a st' := by
  obtain ⟨u, s1, e, z⟩ := bind_inv h
  have : s1 = st.set n ⟨d, true⟩ := by cases e; rfl
  subst this
  exact z
theorem mt_all (m : Mm) : MtR X (mId m) (rMth X.K m) := by
  intro pins s σ H x vs v us Q I rx rv h
  obtain ⟨as, F, st, n, a, d, ds, r, st', rfl, so, ha, hn, hd, e, af⟩ := h
  obtain ⟨f0, c0, u0⟩ := so.live n a d ha hn
  cases c0 with
  | @lst xs ds0 ho hl hr =>
  cases m with
  | append =>
    match ds, hd, e with
    | [y], hd, e =>
      cases hd with
      | cons h1 h2 =>
      cases h2
      obtain ⟨_, s1, e1, z1⟩ := bind_inv (show (M.guard (decide (ds0.length < sizeLine)) >>= fun _ => write n (.lst (ds0 ++ [y])) >>= fun _ => (pure (R.dat .non) : M R)) st = .ok r st' from e)
      obtain ⟨g, rfl⟩ := guard_inv e1
      obtain ⟨rfl, rfl⟩ := pure_inv (show (pure _ : M R) _ = _ from write_inv z1)
      have hz : xs.length < sizeLine := by rw [hr.length]; exact of_decide_eq_true g
      obtain ⟨k3, x3⟩ := so.write (o := .lst _) ha hn (.lst upd_same (by rw [List.length_append]; exact hz) (hr.append (.cons h1 .nil)))
      exact mt_append pins s σ H _ _ _ _ Q I rx rv ⟨a, xs, _, rfl, rfl, ho, hz, af .non _ k3 x3 (.dat .non) (fun _ z => nomatch z)⟩
    | [], _, e => exact (no_inv e).elim
    | _ :: _ :: _, _, e => exact (no_inv e).elim
  | insert =>
    match ds, hd, e with
    | [.int i, y], hd, e =>
      cases hd with
      | cons h1 h2 =>
      cases h1
      cases h2 with
      | cons h2 h3 =>
      cases h3
      obtain ⟨_, s1, e1, z1⟩ := bind_inv (show (M.guard (decide (ds0.length < sizeLine) && (decide (0 ≤ i) && decide (i < 2 ^ 63))) >>= fun _ => write n (.lst (ds0.take i.toNat ++ [y] ++ ds0.drop i.toNat)) >>= fun _ => (pure (R.dat .non) : M R)) st = .ok r st' from e)
      obtain ⟨g, rfl⟩ := guard_inv e1
      obtain ⟨rfl, rfl⟩ := pure_inv (show (pure _ : M R) _ = _ from write_inv z1)
      simp only [Bool.and_eq_true, decide_eq_true_eq] at g
      obtain ⟨g1, g2, g3⟩ := g
      have hz : xs.length < sizeLine := by rw [hr.length]; exact g1
      obtain ⟨k3, x3⟩ := so.write (o := .lst _) ha hn (.lst upd_same (by rw [List.length_append, List.length_append, List.length_take, List.length_drop, List.length_singleton]; omega) (((hr.take i.toNat).append (.cons h2 .nil)).append (hr.drop i.toNat)))
      exact mt_insert pins s σ H _ _ _ _ Q I rx rv ⟨a, xs, i, _, rfl, rfl, ho, hz, g2, g3, af .non _ k3 x3 (.dat .non) (fun _ z => nomatch z)⟩
    | [], _, e => exact (no_inv e).elim
    | [d], _, e => exact (no_inv (show (M.no : M R) st = .ok r st' by cases d <;> exact e)).elim
    | d :: _ :: _ :: _, _, e => exact (no_inv (show (M.no : M R) st = .ok r st' by cases d <;> exact e)).elim
    | [.non, _], _, e => exact (no_inv e).elim
    | [.bl _, _], _, e => exact (no_inv e).elim
    | [.str _, _], _, e => exact (no_inv e).elim
    | [.tup _, _], _, e => exact (no_inv e).elim
    | [.lst _, _], _, e => exact (no_inv e).elim
    | [.scr _, _], _, e => exact (no_inv e).elim
    | [.dct _, _], _, e => exact (no_inv e).elim
    | [.obj _ _, _], _, e => exact (no_inv e).elim
  | pop =>
    match ds, hd, e with
    | [], hd, e =>
      cases hd
      obtain ⟨y, s1, e1, z1⟩ := bind_inv (show (M.opt ds0[ds0.length - 1]? >>= fun y => write n (.lst ds0.dropLast) >>= fun _ => (pure (R.dat y) : M R)) st = .ok r st' from e)
      obtain ⟨g, rfl⟩ := opt_inv e1
      obtain ⟨rfl, rfl⟩ := pure_inv (show (pure _ : M R) _ = _ from write_inv z1)
      obtain ⟨w, hw, dw⟩ := hr.get g
      obtain ⟨k3, x3⟩ := so.write (o := .lst xs.dropLast) ha hn (.lst upd_same (by rw [List.length_dropLast]; omega) (DsOk.dropLast hr))
      exact mt_pop pins s σ H _ _ _ _ Q I rx rv ⟨a, xs, w, rfl, rfl, ho, by rw [hr.length]; exact hw, af w _ k3 x3 (.dat dw) (fun _ z => nomatch z)⟩
    | _ :: _, _, e => exact (no_inv e).elim
  | popi =>
    match ds, hd, e with
    | [.int i], hd, e =>
      cases hd with
      | cons h1 h2 =>
      cases h1
      cases h2
      obtain ⟨_, s1, e1, z1⟩ := bind_inv (show (M.guard (decide (-(2 ^ 63) ≤ i) && decide (i < 2 ^ 63)) >>= fun _ => M.opt (L2.ixN ds0.length i) >>= fun k => M.opt ds0[k]? >>= fun y => write n (.lst (ds0.eraseIdx k)) >>= fun _ => (pure (R.dat y) : M R)) st = .ok r st' from e)
      obtain ⟨g, rfl⟩ := guard_inv e1
      obtain ⟨j, s2, e2, z2⟩ := bind_inv z1
      obtain ⟨hj, rfl⟩ := opt_inv e2
      obtain ⟨y, s3, e3, z3⟩ := bind_inv z2
      obtain ⟨hy, rfl⟩ := opt_inv e3
      obtain ⟨rfl, rfl⟩ := pure_inv (show (pure _ : M R) _ = _ from write_inv z3)
      simp only [Bool.and_eq_true, decide_eq_true_eq] at g
      obtain ⟨w, hw, dw⟩ := hr.get hy
      obtain ⟨k3, x3⟩ := so.write (o := .lst (xs.eraseIdx j)) ha hn (.lst upd_same (Nat.le_trans (len_erase _ _) hl) (hr.eraseIdx j))
      exact mt_popAt pins s σ H _ _ _ _ Q I rx rv ⟨a, xs, i, j, w, rfl, rfl, ho, g.1, g.2, by rw [hr.length]; exact (ixN_seq hj).1, hw, af w _ k3 x3 (.dat dw) (fun _ z => nomatch z)⟩
    | [], _, e => exact (no_inv e).elim
    | d :: _ :: _, _, e => exact (no_inv (show (M.no : M R) st = .ok r st' by cases d <;> exact e)).elim
    | [.non], _, e => exact (no_inv e).elim
    | [.bl _], _, e => exact (no_inv e).elim
    | [.str _], _, e => exact (no_inv e).elim
    | [.tup _], _, e => exact (no_inv e).elim
    | [.lst _], _, e => exact (no_inv e).elim
    | [.scr _], _, e => exact (no_inv e).elim
    | [.dct _], _, e => exact (no_inv e).elim
    | [.obj _ _], _, e => exact (no_inv e).elim
  | extend =>
    match ds, hd, e with
    | [.lst ys], hd, e =>
      cases hd with
      | cons h1 h2 =>
      cases h2
      cases h1 with
      | @lst b zs _ hb hlb hrb =>
      obtain ⟨_, s1, e1, z1⟩ := bind_inv (show (M.guard (decide (ds0.length + ys.length ≤ sizeLine)) >>= fun _ => write n (.lst (ds0 ++ ys)) >>= fun _ => (pure (R.dat .non) : M R)) st = .ok r st' from e)
      obtain ⟨g, rfl⟩ := guard_inv e1
      obtain ⟨rfl, rfl⟩ := pure_inv (show (pure _ : M R) _ = _ from write_inv z1)
      have hz : xs.length + zs.length ≤ sizeLine := by rw [hr.length, hrb.length]; exact of_decide_eq_true g
      obtain ⟨k3, x3⟩ := so.write (o := .lst _) ha hn (.lst upd_same (by rw [List.length_append]; exact hz) (hr.append hrb))
      exact mt_extend pins s σ H _ _ _ _ Q I rx rv ⟨a, b, xs, zs, rfl, rfl, ho, so.sub _ _ hb, hz, af .non _ k3 x3 (.dat .non) (fun _ z => nomatch z)⟩
    | [], _, e => exact (no_inv e).elim
    | d :: _ :: _, _, e => exact (no_inv (show (M.no : M R) st = .ok r st' by cases d <;> exact e)).elim
    | [.non], _, e => exact (no_inv e).elim
    | [.bl _], _, e => exact (no_inv e).elim
    | [.str _], _, e => exact (no_inv e).elim
    | [.tup _], _, e => exact (no_inv e).elim
    | [.int _], _, e => exact (no_inv e).elim
    | [.scr _], _, e => exact (no_inv e).elim
    | [.dct _], _, e => exact (no_inv e).elim
    | [.obj _ _], _, e => exact (no_inv e).elim
theorem backTo_all {pos : Pos} {env : PySem.Env} : ∀ {es : List Expr}, (∀ e ∈ es, notStar e = true) → (backTo pos (starEach es env)).all (fun x => !x.1) = true
  | [], _ => rfl
  | e :: es, h => by
    rw [star_cons (h e (List.mem_cons_self ..))]
    have ih := backTo_all (pos := pos) (env := env) (es := es) fun x hx => h x (List.mem_cons_of_mem _ hx)
    show (true && (backTo pos (starEach es env)).all (fun x => !x.1)) = true
    rw [ih]
    rfl
theorem base_of {o : Expr} {y : Str} {env : PySem.Env} (h : notCallX o = true) : attributeBase o y env (eval o env) = eval o env := by
  cases o <;> first | rfl | exact absurd h Bool.false_ne_true
theorem mth_shape {m : Mm} {a : E} {es : Es} {e' : Expr} (h : agE c (.mth m a es) e' = true) : ∃ o apos es' cpos, e' = .Call (.Attribute o (Str.ofString (mName m)) apos) es' [] cpos ∧ notCallX o = true ∧ (apos.endLine == cpos.line) = true ∧ es'.length < 20 ∧ agE c a o = true ∧ agEs c es es' = true := by
  cases e' with
  | Call f' args kws p3 =>
    cases f' with
    | Attribute o y apos =>
      cases kws with
      | nil =>
        have h : (decide (y = Str.ofString (mName m)) && (notCallX o && (decide (apos.endLine = p3.line) && (decide (args.length < 20) && (agE c a o && agEs c es args))))) = true := by
          match args, h with
          | [], h => exact h
          | [_], h => exact h
          | [_, b'], h => cases b' <;> exact h
          | _ :: b' :: _ :: _, h => cases b' <;> exact h
        obtain ⟨h1, h⟩ := b2 h
        obtain ⟨h2, h⟩ := b2 h
        obtain ⟨h3, h⟩ := b2 h
        obtain ⟨h4, h⟩ := b2 h
        obtain ⟨h5, h6⟩ := b2 h
        cases of_decide_eq_true h1
        exact ⟨o, apos, args, p3, rfl, h2, by rw [of_decide_eq_true h3]; exact beq_self_eq_true _, of_decide_eq_true h4, h5, h6⟩
      | cons _ _ =>
        match args, h with
        | [], h => exact absurd h Bool.false_ne_true
        | [_], h => exact absurd h Bool.false_ne_true
        | [_, b'], h => cases b' <;> exact absurd h Bool.false_ne_true
        | _ :: b' :: _ :: _, h => cases b' <;> exact absurd h Bool.false_ne_true
    | _ =>
      match args, kws, h with
      | [], [], h => exact absurd h Bool.false_ne_true
      | [_], [], h => exact absurd h Bool.false_ne_true
      | [_, b'], [], h => cases b' <;> exact absurd h Bool.false_ne_true
      | _ :: b' :: _ :: _, [], h => cases b' <;> exact absurd h Bool.false_ne_true
      | [], _ :: _, h => exact absurd h Bool.false_ne_true
      | [_], _ :: _, h => exact absurd h Bool.false_ne_true
      | [_, b'], _ :: _, h => cases b' <;> exact absurd h Bool.false_ne_true
      | _ :: b' :: _ :: _, _ :: _, h => cases b' <;> exact absurd h Bool.false_ne_true
  | _ => exact absurd h Bool.false_ne_true
theorem s_mth {m : Mm} {a : E} {es : Es} {e' : Expr} (x : XOk c kn k X) (h : agE c (.mth m a es) e' = true)
    (ha : ∀ a', agE c a a' = true → PE X a' (tE X.K a)) (hs : ∀ es', agEs c es es' = true → PA X es' (tDs X.K es)) : PE X e' (tE X.K (.mth m a es)) := by
  obtain ⟨o, apos, es', cpos, rfl, h1, h2, h3, h4, h5⟩ := mth_shape h
  have hst := agEs_star h5
  have slot : Slot "list" (Str.ofString (mName m)) (mId m) := by
    cases m with
    | append => exact F.slot_list_append
    | insert => exact F.slot_list_insert
    | pop => exact F.slot_list_pop
    | popi => exact F.slot_list_pop
    | extend => exact F.slot_list_extend
  have hty : typeOf (.builtin (mId m)) = pure (.type "method_descriptor") := by
    cases m with
    | append => exact F.type_list_append
    | insert => exact F.type_list_insert
    | pop => exact F.type_list_pop
    | popi => exact F.type_list_pop
    | extend => exact F.type_list_extend
  have key : ∀ (σ : L2.St) (H : Hp) (Q : VK), tE X.K (.mth m a es) σ H Q → tBM X.K "list" (rMth X.K m) (tE X.K a) (tDs X.K es) σ H Q := fun σ H Q hh => by
    obtain ⟨as, F, st, env, r, st', s, en, e, af⟩ := hh
    obtain ⟨ra, s1, e1, z1⟩ := bind_inv (show (evE a env >>= fun x => live x >>= fun _ => evDs es env >>= fun ds => live x >>= fun q => mthB m q.1 q.2 ds) st = .ok r st' from e)
    obtain ⟨⟨n0, q0⟩, s10, e10, z10⟩ := bind_inv z1
    obtain ⟨ds, s2, e2, z2⟩ := bind_inv z10
    obtain ⟨⟨n, q⟩, s3, e3, z3⟩ := bind_inv z2
    obtain ⟨rfl, rfl, hn⟩ := live_inv e3
    refine ⟨as, F, st, env, _, s1, s, en, e1, fun v F1 H1 k1 x1 r1 f1 => ?_⟩
    cases r1 with
    | @cell p1 _ hp =>
    refine ⟨?_, ?_⟩
    · obtain ⟨q1, rfl, hd0⟩ := live_inv e10
      cases q1
      obtain ⟨_, c0, _⟩ := k1.live _ p1 _ hp hd0
      cases c0 with
      | lst ho _ _ => exact .inl ⟨rfl, _, .of ho⟩
    · obtain ⟨q1, rfl, hd0⟩ := live_inv e10
      refine ⟨as, F1, s10, env, ds, s3, k1, en.ext x1, e2, fun vs F2 H2 k2 x2 d2 => ?_⟩
      refine ⟨as, F2, s3, n, p1, q, ds, r, st', rfl, k2, hp, hn, d2, z3, fun v H3 k3 x3 r3 no => ?_⟩
      refine af v F2 H3 k3 ((x1.trans s.len k1.len x2).trans s.len k2.len x3) r3 ?_
      cases r with
      | own d => exact absurd rfl (no d)
      | _ => trivial
  cases es' with
  | nil =>
    cases es with
    | cons _ _ => exact absurd h5 Bool.false_ne_true
    | nil =>
    refine PE.imp (pe_bm0 F.plainAttrs_list slot hty (mt_all m) (ha o h4) (base_of h1) h2) fun σ H Q hh => ?_
    obtain ⟨as, F, st, env, r, st', s, en, e, af⟩ := hh
    obtain ⟨ra, s1, e1, z1⟩ := bind_inv (show (evE a env >>= fun x => live x >>= fun _ => evDs .nil env >>= fun ds => live x >>= fun q => mthB m q.1 q.2 ds) st = .ok r st' from e)
    obtain ⟨⟨n0, q0⟩, s10, e10, z10⟩ := bind_inv z1
    obtain ⟨ds, s2, e2, z2⟩ := bind_inv z10
    obtain ⟨rfl, rfl⟩ := pure_inv (show (pure [] : M (List D)) s10 = .ok ds s2 from e2)
    obtain ⟨⟨n, q⟩, s3, e3, z3⟩ := bind_inv z2
    obtain ⟨rfl, rfl, hn⟩ := live_inv e3
    obtain ⟨_, rfl, _⟩ := live_inv e10
    refine ⟨as, F, st, env, _, s3, s, en, e1, fun v F1 H1 k1 x1 r1 f1 => ?_⟩
    cases r1 with
    | @cell p1 _ hp =>
    obtain ⟨_, c0, _⟩ := k1.live n p1 q hp hn
    refine ⟨by cases c0 with | lst ho _ _ => exact .inl ⟨rfl, _, .of ho⟩, ?_⟩
    refine ⟨as, F1, s3, n, p1, q, [], r, st', rfl, k1, hp, hn, .nil, z3, fun v H3 k3 x3 r3 no => ?_⟩
    refine af v F1 H3 k3 (x1.trans s.len k1.len x3) r3 ?_
    cases r with
    | own d => exact absurd rfl (no d)
    | _ => trivial
  | cons e0 es' =>
    refine PE.imp (pe_bm F.plainAttrs_list slot hty (mt_all m) (ha o h4) (hs _ h5) (base_of h1) ?_ h2 (star_cons (hst _ (List.mem_cons_self ..))) (backTo_plain fun e he => hst e (List.mem_cons_of_mem _ he))) key
    rw [backTo_all hst]
    show (true && decide ((e0 :: es').length + 0 + 0 < 30)) = true
    rw [Bool.true_and]
    exact decide_eq_true (by omega)
end
end DB
set_option maxHeartbeats 4000000
namespace L2
open PySem PySem.Spec PyProof.Rows
section
variable {X : Cx} {CX : CXT} {k n : Nat} {f : Addr} {fd : FuncData} {ps ks : List Str} {sp : Sp} {E : XK} {x : Str} {p pos : Pos} {kws : List Keyword} {tk : TA} {g : List Value → List Value → List Value} {gV : List V → List V → List V}
/-- f(k = v, ..) -/
theorem pe_callN0 (F : FnOk X.prog X.w X.K X.mg X.base CX k f fd ps sp) (hr : Room k X.A) (hg : Gl X x) (hm : X.mg x = some (.ref f)) (hk : PySem.W.keepIn X.K (.ref f) = true) (hb : KBn X.K fd ps n ks g gV) (hx : Passes CX X E) (hn : n = 0)
    (hkw : PK X kws tk) (hall : (backToKw pos (keywordEach kws X.env)).all (·.1.isSome) = true) (hks : (backToKw pos (keywordEach kws X.env)).filterMap (·.1) = ks)
    (hdb : (x == ("__debug__" : Str)) = false)
    (hpl : ((backTo pos (starEach [] X.env)).any (·.1) || (backToKw pos (keywordEach kws X.env)).any (·.1.isNone)) = false) :
    PE X (.Call (.Name x p) [] kws pos) (tCallN n ks.length sp gV E tNil tk) := by
  refine ⟨fun pins s σ H Q I h => ?_⟩
  refine wpAny_Call_Name_kw (ld_glob I hg hm ?_ hdb)
  refine PySem.W.callWith_KW0 (h₀ := X.base) I.ok.mod.kin hk hall (thn (hkw.run pos pins s σ H _ I h) fun ws s2 ⟨zs, H2, I2, rz, l1, l2, q2⟩ => ⟨I2.kIn, ?_⟩) hpl
  rw [hks]
  exact run_fnN (us := []) F hr hb hx I2 .nil rz l1 l2 q2
end
end L2
namespace DB
open PySem PySem.Spec L2
section
variable {c : AC} {kn : Know} {k : Nat} {X : Cx}
theorem PK.imp {X : Cx} {e : List Keyword} {t t' : TA} (h : PK X e t) (i : ∀ σ H Q, t' σ H Q → t σ H Q) : PK X e t' := ⟨fun pos pins s σ H Q I hw => h.run pos pins s σ H Q I (i _ _ _ hw)⟩
theorem s_Ks_nil : PK X [] (tDs X.K .nil) := PK.imp pk_nil fun σ H Q hh => by
  obtain ⟨as, F, st, env, r, st', s, en, e, af⟩ := hh
  obtain ⟨rfl, rfl⟩ := pure_inv (show (pure [] : M (List D)) st = .ok r st' from e)
  exact af [] F H s .refl .nil
theorem s_Ks_cons {a : E} {es : Es} {a' : Expr} {nm : Option Str} {kp : Pos} {es' : List Keyword} (ha : PE X a' (tE X.K a)) (hs : PK X es' (tDs X.K es)) : PK X (⟨nm, a', kp⟩ :: es') (tDs X.K (.cons a es)) := by
  refine PK.imp (pk_cons ha hs) fun σ H Q hh => ?_
  obtain ⟨as, F, st, env, ds, st', s, en, e, af⟩ := hh
  obtain ⟨ra, s1, e1, z1⟩ := bind_inv (show (evE a env >>= fun r => use r >>= fun d => evDs es env >>= fun ds => (pure (d :: ds) : M (List D))) st = .ok ds st' from e)
  obtain ⟨d, s2, e2, z2⟩ := bind_inv z1
  obtain ⟨ds', s3, e3, z3⟩ := bind_inv z2
  obtain ⟨rfl, rfl⟩ := pure_inv z3
  refine ⟨as, F, st, env, ra, s1, s, en, e1, fun v F1 H1 k1 x1 r1 f1 => ?_⟩
  obtain ⟨F2, k2, x2, d2⟩ := use_aft s.len k1 x1 r1 f1 e2
  exact ⟨as, F2, s2, env, ds', st', k2, en.ext x2, e3, fun vs F3 H3 k3 x3 r3 => af (v :: vs) F3 H3 k3 (x2.trans s.len k2.len x3) (.cons (d2.mono x3.f) r3)⟩
theorem kw_each {pos : Pos} {env : PySem.Env} : ∀ {kws : List Keyword}, (backToKw pos (keywordEach kws env)).map (·.1) = kwNames kws
  | [] => rfl
  | ⟨nm, e, p⟩ :: kws => congrArg (nm :: ·) (kw_each (pos := pos) (env := env) (kws := kws))
theorem kw_all {l : List (Option Str × Sem Value)} {ks : List Str} (h : l.map (·.1) = ks.map some) : l.all (·.1.isSome) = true ∧ l.filterMap (·.1) = ks ∧ l.any (·.1.isNone) = false := by
  induction l generalizing ks with
  | nil =>
    cases ks with
    | nil => exact ⟨rfl, rfl, rfl⟩
    | cons _ _ => cases h
  | cons a l ih =>
    cases ks with
    | nil => cases h
    | cons k ks =>
      have h1 : a.1 = some k := (List.cons.inj h).1
      obtain ⟨i1, i2, i3⟩ := ih (List.cons.inj h).2
      refine ⟨?_, ?_, ?_⟩
      · rw [List.all_cons, h1, i1]; rfl
      · rw [List.filterMap_cons, h1, i2]
      · rw [List.any_cons, h1, i3]; rfl
theorem DsOk.perm {K : PySem.W.Frag} {F : Hp} {vs : List V} {ds : List D} (h : DsOk K F vs ds) : ∀ perm : List Nat, DsOk K F (permL perm vs) (permL perm ds)
  | [] => .nil
  | i :: perm => by
    have ih := DsOk.perm h perm
    unfold permL at ih ⊢
    rw [List.filterMap_cons, List.filterMap_cons]
    cases q : ds[i]? with
    | none =>
      have : vs[i]? = none := by
        rw [List.getElem?_eq_none_iff] at q ⊢
        rw [h.length]; exact q
      rw [this]
      exact ih
    | some d =>
      obtain ⟨v, hv, dv⟩ := h.get q
      rw [hv]
      exact .cons dv ih
theorem DsOk.rs {K : PySem.W.Frag} {F H : Hp} {as : List Addr} : ∀ {vs : List V} {ds : List D}, DsOk K F vs ds → RsOk K F H as vs (ds.map R.dat) ∧ ownsA vs (ds.map R.dat) = []
  | _, _, .nil => ⟨.nil, rfl⟩
  | v :: vs, d :: ds, .cons h r => by
    obtain ⟨i1, i2⟩ := DsOk.rs (H := H) (as := as) r
    have h0 : ownA v (R.dat d) = [] := by cases v <;> rfl
    refine ⟨.cons (.dat h) i1 fun a ha => by rw [h0] at ha; (cases ha), ?_⟩
    show ownA v (R.dat d) ++ ownsA vs (ds.map R.dat) = []
    rw [h0, i2]
    rfl
theorem callK_shape {f : Fn} {id n : Nat} {ks : List Str} {dd : List D} {perm : List Nat} {es kes : Es} {e' : Expr} (h : agE c (.callK f id n ks dd perm es kes) e' = true) : ∃ y p as' kws p3, e' = .Call (.Name y p) as' kws p3 ∧ c.fns[id]? = some y ∧ glB c.sc y = true ∧ as'.length = n ∧ kwNames kws = ks.map some ∧ agEs c es as' = true ∧ agKs c kes kws = true := by
  cases e' with
  | Call f' args kws p3 =>
    cases f' with
    | Name y p =>
      have h : (decide (c.fns[id]? = some y) && (glB c.sc y && (decide (args.length = n) && (decide (kwNames kws = ks.map some) && (agEs c es args && agKs c kes kws))))) = true := by
        match args, kws, h with
        | [], [], h => exact h
        | [_], [], h => exact h
        | [_, b'], [], h => cases b' <;> exact h
        | _ :: b' :: _ :: _, [], h => cases b' <;> exact h
        | [], _ :: _, h => exact h
        | [_], _ :: _, h => exact h
        | [_, b'], _ :: _, h => cases b' <;> exact h
        | _ :: b' :: _ :: _, _ :: _, h => cases b' <;> exact h
      obtain ⟨h1, h⟩ := b2 h
      obtain ⟨h2, h⟩ := b2 h
      obtain ⟨h3, h⟩ := b2 h
      obtain ⟨h4, h⟩ := b2 h
      obtain ⟨h5, h6⟩ := b2 h
      exact ⟨y, p, args, kws, p3, rfl, of_decide_eq_true h1, h2, of_decide_eq_true h3, of_decide_eq_true h4, h5, h6⟩
    | _ =>
      match args, kws, h with
      | [], [], h => exact absurd h Bool.false_ne_true
      | [_], [], h => exact absurd h Bool.false_ne_true
      | [_, b'], [], h => cases b' <;> exact absurd h Bool.false_ne_true
      | _ :: b' :: _ :: _, [], h => cases b' <;> exact absurd h Bool.false_ne_true
      | [], _ :: _, h => exact absurd h Bool.false_ne_true
      | [_], _ :: _, h => exact absurd h Bool.false_ne_true
      | [_, b'], _ :: _, h => cases b' <;> exact absurd h Bool.false_ne_true
      | _ :: b' :: _ :: _, _ :: _, h => cases b' <;> exact absurd h Bool.false_ne_true
  | _ => exact absurd h Bool.false_ne_true
theorem s_callK {f : Fn} {id n : Nat} {ks : List Str} {dd : List D} {perm : List Nat} {es kes : Es} {e' : Expr} (x : XOk c kn k X) (h : agE c (.callK f id n ks dd perm es kes) e' = true) (hk : kn.fn id f) (hk2 : kn.kw id n ks dd perm)
    (hs : ∀ es', agEs c es es' = true → PA X es' (tDs X.K es)) (hks : ∀ es', agKs c kes es' = true → PK X es' (tDs X.K kes)) : PE X e' (tE X.K (.callK f id n ks dd perm es kes)) := by
  obtain ⟨y, p, as', kws, p3, rfl, h1, h2, h3, h4, h5, h6⟩ := callK_shape h
  obtain ⟨g1, d1⟩ := x.glb h2
  obtain ⟨fa, fd, ps, dv, du, hm, hkp, hb, hdd, hF⟩ := x.callK id f y n ks dd perm hk hk2 h1
  have hst := agEs_star h5
  have hn := kw_each (pos := p3) (env := X.env) (kws := kws)
  rw [h4] at hn
  obtain ⟨a1, a2, a3⟩ := kw_all hn
  have run2 : ∀ (as : List Addr) (F : Hp) (st : Sto) (env : Env) (σ : L2.St) (H : Hp) (Q : VK) (ds : List D) (r : R) (s1 st' : Sto) (vs : List V), StOk X.K F H as s1 → EnvOk X.K F as σ env → DsOk X.K F vs ds →
      (evDs kes env >>= fun ws => runFn f ((permL perm (ds ++ (ws ++ dd))).map R.dat)) s1 = .ok r st' → vs.length = n →
      (∀ v F' H', StOk X.K F' H' as st' → Ext [] as F H s1 as F' H' st' → ROk X.K F' H' as v r → Fresh H v r → Q v H') →
      tDs X.K kes σ H fun zs H2 => vs.length = n ∧ zs.length = ks.length ∧ spF X.K f (gP perm dv vs zs) H2 Q E0 := fun as F st env σ H Q ds r s1 st' vs k1 en d1 e hl af => by
    obtain ⟨ws, s2, e2, z2⟩ := bind_inv e
    refine ⟨as, F, s1, env, ws, s2, k1, en, e2, fun zs F2 H2 k2 x2 d2 => ⟨hl, ?_, ?_⟩⟩
    · have l1 := evDs_len e2
      have : ∀ {kes : Es} {kws : List Keyword}, agKs c kes kws = true → kws.length = lenEs kes := by
        intro kes
        induction kes using Es.rec (motive_1 := fun _ => True) (motive_3 := fun _ => True) (motive_4 := fun _ => True) (motive_5 := fun _ => True) (motive_6 := fun _ => True) (motive_7 := fun _ => True) (motive_8 := fun _ => True) (motive_9 := fun _ => True) (motive_10 := fun _ => True) with
        | nil => intro kws h; cases kws with
          | nil => rfl
          | cons _ _ => exact absurd h Bool.false_ne_true
        | cons e es _ ih => intro kws h; cases kws with
          | nil => exact absurd h Bool.false_ne_true
          | cons a kws =>
            obtain ⟨nm, e', q⟩ := a
            exact congrArg Nat.succ (ih (b2 (show (agE c e e' && agKs c es kws) = true from h)).2)
        | _ => trivial
      have l2 := this h6
      have l3 := congrArg List.length h4
      rw [List.length_map] at l3
      unfold kwNames at l3
      rw [List.length_map] at l3
      rw [d2.length, l1, ← l2, l3]
    · have dall := (d1.mono x2.f).append (d2.append (hdd F2))
      have dp := dall.perm perm
      obtain ⟨ro, ow⟩ := dp.rs (H := H2) (as := as)
      refine ⟨as, F2, s2, _, r, st', k2, ro, z2, fun v F3 H3 k3 x3 r3 o3 => ?_⟩
      rw [show ownsA (gP perm dv vs zs) ((permL perm (ds ++ (ws ++ dd))).map R.dat) = [] from ow] at x3 o3
      refine af v F3 H3 k3 (x2.trans k1.len k2.len x3) r3 ?_
      refine Fresh.back x2 ?_
      cases r with
      | own d =>
        intro a ha
        subst ha
        exact (o3 a (by simp [ownA])).elim (fun z => z) fun z => by cases z
      | _ => trivial
  have key : ∀ σ H Q, tE X.K (.callK f id n ks dd perm es kes) σ H Q → tDs X.K es σ H fun vs H1 => tDs X.K kes σ H1 fun zs H2 => vs.length = n ∧ zs.length = ks.length ∧ spF X.K f (gP perm dv vs zs) H2 Q E0 := fun σ H Q hh => by
    obtain ⟨as, F, st, env, r, st', s, en, e, af⟩ := hh
    obtain ⟨ds, s1, e1, z1⟩ := bind_inv (show (evDs es env >>= fun ds => evDs kes env >>= fun ws => runFn f ((permL perm (ds ++ (ws ++ dd))).map R.dat)) st = .ok r st' from e)
    refine ⟨as, F, st, env, ds, s1, s, en, e1, fun vs F1 H1 k1 x1 d1 => ?_⟩
    have hl : vs.length = n := by rw [d1.length, evDs_len e1, agEs_len h5 rfl, h3]
    exact run2 as F1 s1 env σ H1 Q ds r s1 st' vs k1 (en.ext x1) d1 z1 hl fun v F' H' k' x' r' f' => af v F' H' k' (x1.trans s.len k1.len x') r' (Fresh.back x1 f')
  cases as' with
  | nil =>
    cases es with
    | cons _ _ => exact absurd h5 Bool.false_ne_true
    | nil =>
    refine PE.imp (pe_callN0 hF x.room g1 hm hkp hb pass0 h3.symm (hks kws h6) a1 a2 d1 (by rw [a3]; rfl)) fun σ H Q hh => ?_
    obtain ⟨as, F, st, env, r, st', s, en, e, af⟩ := hh
    obtain ⟨ds, s1, e1, z1⟩ := bind_inv (show (evDs .nil env >>= fun ds => evDs kes env >>= fun ws => runFn f ((permL perm (ds ++ (ws ++ dd))).map R.dat)) st = .ok r st' from e)
    obtain ⟨rfl, rfl⟩ := pure_inv (show (pure [] : M (List D)) st = .ok ds s1 from e1)
    exact run2 as F s1 env σ H Q [] r s1 st' [] s en .nil z1 h3 af
  | cons e0 as' =>
    refine PE.imp (pe_callN hF x.room g1 hm hkp hb pass0 (hs _ h5) (hks kws h6) a1 a2 d1 (star_cons (hst _ (List.mem_cons_self ..))) ?_) key
    rw [a3, Bool.or_false]
    exact backTo_plain hst
end
end DB
set_option maxHeartbeats 4000000
namespace DB
open PySem
/-- a comprehension's turn -/
def compF (tg : Tg) (cond : Ts) (elt : E) (env : Env) (d : D) : M (Option D) := do
  let env' ← evTg tg d (DB.wipe env tg.slots)
  let b ← evTAnd cond env'
  if b then do
    let r ← evE elt env'
    let x ← use r
    pure (some x)
  else pure none
end DB
set_option maxHeartbeats 4000000
namespace DB
open PySem PySem.Spec L2
section
variable {K : PySem.W.Frag} {F F' H H' : Hp} {ex as as' : List Addr} {st st' : Sto}
/-- an object that nobody knows changes -/
theorem StOk.updD (s : StOk K F H as st) {p : Addr} {o : HO} (hf : F p = none) (hp : p ∉ as) : StOk K F (L2.upd H p o) as st := by
  refine ⟨fun b u h => ?_, s.len, fun c a d h1 h2 => ?_, s.froz⟩
  · have ne : b ≠ p := fun z => by rw [z, hf] at h; cases h
    rw [upd_ne ne]
    exact s.sub b u h
  · obtain ⟨f, c1, u⟩ := s.live c a d h1 h2
    have ne : a ≠ p := fun z => hp (z ▸ List.mem_of_getElem? h1)
    exact ⟨f, c1.keep (upd_ne ne) (Same.refl _), u⟩
theorem Ext.updD {p : Addr} {o : HO} (e : Ext ex as F H st as' F' H' st') (hp : H p = none) : Ext ex as F H st as' F' (L2.upd H' p o) st' where
  pre := e.pre
  f := e.f
  k := fun b hb z => by
    unfold L2.upd at z
    split at z
    · cases z
    · exact e.k b hb z
  h := fun b u hb n nx => by
    obtain ⟨h1, h2⟩ := e.h b u hb n nx
    have ne : b ≠ p := fun z => by rw [z, hp] at hb; cases hb
    exact ⟨by rw [upd_ne ne]; exact h1, h2⟩
  l := e.l
  g := e.g
end
section
variable {c : AC} {kn : Know} {k : Nat} {X : Cx}
theorem evE_comp' {tg : Tg} {it : It} {cond : Ts} {elt : E} {env : Env} : evE (.comp tg it cond elt) env = (evIt it env >>= fun ds => compM (compF tg cond elt env) ds >>= fun xs => (pure (R.own (.lst xs)) : M R)) := rfl
/-- the reading of a comprehension -/
theorem comp_run {tg : Tg} {it : It} {cond : Ts} {elt : E} {σ : L2.St} {H : Hp} {Q : VK} (hh : tE X.K (.comp tg it cond elt) σ H Q) : tLc (tIt X.K it) (tTg X.K tg) (tTAnd X.K cond) (tE X.K elt) tg.slots σ H Q := by
  obtain ⟨as, F, st, env, r, st', s, en, e, af⟩ := hh
  rw [evE_comp'] at e
  obtain ⟨ds, s1, e1, z1⟩ := bind_inv e
  obtain ⟨xs, s2, e2, z2⟩ := bind_inv z1
  obtain ⟨rfl, rfl⟩ := pure_inv z2
  refine ⟨as, F, st, env, ds, s1, s, en, e1, fun J F1 H1 k1 x1 yl hl => ?_⟩
  intro D hD
  have fD : F1 D = none := by
    cases q : F1 D with
    | none => rfl
    | some u => rw [k1.sub D u q] at hD; cases hD
  have aD : D ∉ as := fun z => k1.cellSome z hD
  refine ⟨fun i m H' => m = ds.length - i ∧ i ≤ ds.length ∧ ∃ F' sti acc xsi rest, StOk X.K F' H' as sti ∧ Ext [] as F1 H1 s1 as F' H' sti ∧ H' D = some (.lst acc) ∧ F' D = none ∧ DsOk X.K F' acc xsi ∧ acc.length ≤ i ∧
      compM (compF tg cond elt env) (ds.drop i) sti = .ok rest st' ∧ xs = xsi ++ rest,
    ⟨ds.length, by simp, Nat.zero_le _, F1, s1, [], [], xs, k1.upd hD, Ext.updH hD, upd_same, fD, .nil, Nat.le_refl _, by rw [List.drop_zero]; exact e2, rfl⟩, ?_⟩
  rintro i m H' ⟨rfl, hi, F', sti, acc, xsi, rest, k', x', hacc, fD', dacc, lacc, ec, rfl⟩
  obtain ⟨y1, y2⟩ := yl i F' H' as sti x'.f k'
  by_cases hlt : i < ds.length
  · obtain ⟨d, hd⟩ : ∃ d, ds[i]? = some d := ⟨_, List.getElem?_eq_getElem hlt⟩
    obtain ⟨go, yy⟩ := y2 d hd
    have hdrop : ds.drop i = d :: ds.drop (i + 1) := by
      rw [List.drop_eq_getElem_cons hlt]
      rw [List.getElem?_eq_getElem hlt] at hd
      rw [Option.some.inj hd]
    rw [hdrop] at ec
    obtain ⟨o, sa, ea, za⟩ := bind_inv (show (compF tg cond elt env d >>= fun o => match o with | some x => compM (compF tg cond elt env) (ds.drop (i + 1)) >>= fun xs => (pure (x :: xs) : M (List DB.D)) | none => compM (compF tg cond elt env) (ds.drop (i + 1))) sti = .ok rest st' from ec)
    obtain ⟨env', sb, eb, zb⟩ := bind_inv (show (evTg tg d (DB.wipe env tg.slots) >>= fun env' => evTAnd cond env' >>= fun b => if b then (evE elt env' >>= fun r => use r >>= fun x => (pure (some x) : M (Option DB.D))) else pure none) sti = .ok o sa from ea)
    obtain ⟨b, sc, ecd, zc⟩ := bind_inv zb
    refine .inr ⟨go, fun H'' => ∃ F'' stn acc' xsn rest', StOk X.K F'' H'' as stn ∧ Ext [] as F1 H1 s1 as F'' H'' stn ∧ H'' D = some (.lst acc') ∧ F'' D = none ∧ DsOk X.K F'' acc' xsn ∧ acc'.length ≤ i + 1 ∧
      compM (compF tg cond elt env) (ds.drop (i + 1)) stn = .ok rest' st' ∧ xsi ++ rest = xsn ++ rest', fun H'' q => ⟨ds.length - (i + 1), by omega, rfl, hlt, q⟩, fun w H2 hy => ?_⟩
    obtain ⟨F2, k2, x2, dw⟩ := yy w H2 hy
    have x12 : Ext [] as F1 H1 s1 as F2 H2 sti := x'.trans k1.len k'.len x2
    refine ⟨as, F2, sti, DB.wipe env tg.slots, d, env', sb, k2, ((en.ext x1).ext x12).wipe _, dw, eb, fun σ3 F3 H3 k3 x3 en3 w3 => ?_⟩
    refine ⟨by rw [w3, wipe_eq], ?_⟩
    have x13 := x12.trans k1.len k2.len x3
    refine ⟨as, F3, sb, env', b, sc, k3, en3, ecd, fun F4 H4 k4 x4 => ?_⟩
    have x14 := x13.trans k1.len k3.len x4
    -- the new list stays as it is
    have nl : ∀ {stt : Sto} , NL as stt D := fun {stt} c0 d0 _ hc => aD (List.mem_of_getElem? hc)
    have hacc2 := x2.h D _ hacc nl (by simp)
    have hacc3 := x3.h D _ hacc2.1 nl (by simp)
    have hacc4 := x4.h D _ hacc3.1 nl (by simp)
    have fD4 : F4 D = none := hacc4.2 (hacc3.2 (hacc2.2 fD'))
    have S14 : Same F' F4 := (x2.f.trans x3.f).trans x4.f
    cases b with
    | false =>
      refine iteF ?_
      obtain ⟨rfl, rfl⟩ := pure_inv (show (pure none : M (Option DB.D)) sc = .ok o sa from zc)
      exact ⟨F4, sa, acc, xsi, rest, k4, x14, hacc4.1, fD4, dacc.mono S14, by omega, za, rfl⟩
    | true =>
      refine iteT ?_
      obtain ⟨re, sd, ed, zd⟩ := bind_inv (show (evE elt env' >>= fun r => use r >>= fun x => (pure (some x) : M (Option DB.D))) sc = .ok o sa from zc)
      obtain ⟨dx, se, ee, ze⟩ := bind_inv zd
      obtain ⟨rfl, rfl⟩ := pure_inv ze
      obtain ⟨rest', sf, ef, zf⟩ := bind_inv (show (compM (compF tg cond elt env) (ds.drop (i + 1)) >>= fun xs => (pure (dx :: xs) : M (List DB.D))) sa = .ok rest st' from za)
      obtain ⟨rfl, rfl⟩ := pure_inv zf
      refine ⟨as, F4, sc, env', re, sd, k4, en3.ext x4, ed, fun v F5 H5 k5 x5 r5 f5 => ?_⟩
      obtain ⟨F6, k6, x6, d6⟩ := use_aft k4.len k5 x5 r5 f5 ee
      have hacc6 := x6.h D _ hacc4.1 nl (by simp)
      have x16 := x14.trans k1.len k4.len x6
      refine ⟨acc, hacc6.1, by have : acc.length < ds.length := by omega
                               omega, F6, sa, acc ++ [v], xsi ++ [dx], rest', k6.updD (hacc6.2 fD4) aD, x16.updD hD, upd_same, hacc6.2 fD4, (dacc.mono (S14.trans x6.f)).append (.cons d6 .nil), by rw [List.length_append]; exact Nat.succ_le_succ lacc, ef, by simp⟩
  · have hi' : i = ds.length := by omega
    refine .inl ⟨y1 hi', ?_⟩
    rw [List.drop_eq_nil_of_le (by omega)] at ec
    obtain ⟨rfl, rfl⟩ := pure_inv (show (pure [] : M (List DB.D)) sti = .ok rest st' from ec)
    rw [List.append_nil] at af
    have x1' := x1.trans s.len k1.len x'
    refine af (.ref D) F' H' k' x1' (.own fD' (.lst hacc (by omega) dacc) aD) fun a ha => ?_
    cases ha
    cases q : H D with
    | none => rfl
    | some o => exact absurd hD (x1.k D (by rw [q]; exact fun z => nomatch z))
/-- the shape of a comprehension that agrees -/
theorem comp_shape {tg : Tg} {it : It} {cond : Ts} {elt : E} {e' : Expr} (h : agE c (.comp tg it cond elt) e' = true) : ∃ elt' tg' it' ifs' scope p, e' = .ListComp elt' [⟨tg', it', ifs', 0⟩] scope p ∧
    blkC c.N c.sc scope (ownOf c.N tg.slots) = true ∧ agIt c tg' it it' = true ∧ notSet it' = true ∧ agTg (c.sub scope) tg tg' = true ∧ agC (c.sub scope) cond ifs' = true ∧ agE (c.sub scope) elt elt' = true := by
  cases e' with
  | ListComp elt' gens scope p =>
    match gens, h with
    | [⟨tg', it', ifs', ia⟩], h =>
      have hia : ia = 0 := by
        by_cases hz : ia = 0
        · exact hz
        · exfalso
          cases ia with
          | ofNat n =>
            cases n with
            | zero => exact hz rfl
            | succ n => exact absurd h Bool.false_ne_true
          | negSucc n => exact absurd h Bool.false_ne_true
      subst hia
      obtain ⟨h1, h⟩ := b2 (show (blkC c.N c.sc scope (ownOf c.N tg.slots) && (agIt c tg' it it' && (notSet it' && (agTg (c.sub scope) tg tg' && (agC (c.sub scope) cond ifs' && agE (c.sub scope) elt elt'))))) = true from h)
      obtain ⟨h2, h⟩ := b2 h
      obtain ⟨h3, h⟩ := b2 h
      obtain ⟨h4, h⟩ := b2 h
      obtain ⟨h5, h6⟩ := b2 h
      exact ⟨elt', tg', it', ifs', scope, p, rfl, h1, h2, h3, h4, h5, h6⟩
    | [], h => exact absurd h Bool.false_ne_true
    | ⟨_, _, _, ia⟩ :: _ :: _, h =>
      cases ia with
      | ofNat n => cases n <;> exact absurd h Bool.false_ne_true
      | negSucc n => exact absurd h Bool.false_ne_true
  | _ => exact absurd h Bool.false_ne_true
theorem ne_emp {α : Type} {l : List α} (h : (!l.isEmpty) = true) : l ≠ [] := by
  cases l with
  | nil => cases h
  | cons _ _ => exact fun z => nomatch z
theorem c_nil : PTs X [] (tTAnd X.K .nil) := PTs.imp pts_nil fun σ H Q hh => by
  obtain ⟨as, F, st, env, b, st', s, en, e, af⟩ := hh
  obtain ⟨rfl, rfl⟩ := pure_inv (show (pure true : M Bool) st = .ok b st' from e)
  exact af F H s .refl
theorem c_one {t : T} {e' : Expr} (ht : PT X e' (tT X.K t)) : PTs X [e'] (tTAnd X.K (.cons t .nil)) := PTs.imp (pts_one ht) fun σ H Q hh => by
  obtain ⟨as, F, st, env, b, st', s, en, e, af⟩ := hh
  obtain ⟨b1, s1, e1, z1⟩ := bind_inv (show (evT t env >>= fun b => if b then evTAnd .nil env else pure false) st = .ok b st' from e)
  refine ⟨as, F, st, env, b1, s1, s, en, e1, fun F1 H1 k1 x1 => ?_⟩
  cases b1 with
  | true =>
    obtain ⟨rfl, rfl⟩ := pure_inv (show (pure true : M Bool) s1 = .ok b st' from z1)
    exact af F1 H1 k1 x1
  | false =>
    obtain ⟨rfl, rfl⟩ := pure_inv (show (pure false : M Bool) s1 = .ok b st' from z1)
    exact af F1 H1 k1 x1
end

/-! ### all of an expression -/
section
variable {kn : Know} {k : Nat}
mutual
theorem sE : ∀ (e : E) (c : AC) (X : Cx) (e' : Expr), XOk c kn k X → KnE kn e → agE c e e' = true → PE X e' (tE X.K e)
  | .k d, c, X, e', x, _, h => s_k x h
  | .v i, c, X, e', x, _, h => s_v x h
  | .glob y d, c, X, e', x, hk, h => s_glob x hk h
  | .bin op a b, c, X, e', x, hk, h => s_bin x h (fun a' => sE a c X a' x hk.1) (fun b' => sE b c X b' x hk.2)
  | .neg a, c, X, e', x, hk, h => s_neg x h (fun a' => sE a c X a' x hk)
  | .cmp op a b, c, X, e', x, hk, h => s_cmp x h (fun a' => sE a c X a' x hk.1) (fun b' => sE b c X b' x hk.2)
  | .chain _ _ a b d, c, X, e', x, hk, h => s_chain x h (fun a' => sE a c X a' x hk.1) (fun b' => sE b c X b' x hk.2.1) (fun b' => sE d c X b' x hk.2.2)
  | .isN _ a, c, X, e', x, hk, h => s_isN x h (fun a' => sE a c X a' x hk)
  | .and es, c, X, e', x, hk, h => by
    cases e' with
    | BoolOp op es' p =>
      cases op with
      | And =>
        obtain ⟨h1, h2⟩ := b2 (show (!es'.isEmpty && agEs c es es') = true from h)
        exact s_and (sAnd es c X es' p x hk h2 (ne_emp h1))
      | Or => exact absurd h Bool.false_ne_true
    | _ => exact absurd h Bool.false_ne_true
  | .or es, c, X, e', x, hk, h => by
    cases e' with
    | BoolOp op es' p =>
      cases op with
      | Or =>
        obtain ⟨h1, h2⟩ := b2 (show (!es'.isEmpty && agEs c es es') = true from h)
        exact s_or (sOr es c X es' p x hk h2 (ne_emp h1))
      | And => exact absurd h Bool.false_ne_true
    | _ => exact absurd h Bool.false_ne_true
  | .not a, c, X, e', x, hk, h => s_not x h (fun a' => sE a c X a' x hk)
  | .ite t a b, c, X, e', x, hk, h => s_ite x h (fun a' => sT t c X a' x hk.1) (fun a' => sE a c X a' x hk.2.1) (fun b' => sE b c X b' x hk.2.2)
  | .tup es, c, X, e', x, hk, h => s_tup x h (fun es' => sDs es c X es' x hk)
  | .lst es, c, X, e', x, hk, h => s_lst x h (fun es' => sDs es c X es' x hk)
  | .ix a b, c, X, e', x, hk, h => s_ix x h (fun a' => sE a c X a' x hk.1) (fun b' => sE b c X b' x hk.2)
  | .sl a lo hi, c, X, e', x, hk, h => s_sl x h (fun a' => sE a c X a' x hk.1) (fun b' => sPart lo c X b' x hk.2.1) (fun b' => sPart hi c X b' x hk.2.2)
  | .isI _ a, c, X, e', x, hk, h => s_isI x h (fun a' => sE a c X a' x hk)
  | .call f id es, c, X, e', x, hk, h => s_call x h hk.1 (fun es' => sEs es c X es' x hk.2)
  | .callK f id n ks dd perm es kes, c, X, e', x, hk, h => s_callK x h hk.1 hk.2.1 (fun es' => sDs es c X es' x hk.2.2.1) (fun es' => sKs kes c X es' x hk.2.2.2)
  | .bi b es, c, X, e', x, hk, h => s_bi x h (fun es' => sEs es c X es' x hk)
  | .mth m a es, c, X, e', x, hk, h => s_mth x h (fun a' => sE a c X a' x hk.1) (fun es' => sDs es c X es' x hk.2)
  | .comp tg it cond elt, c, X, e', x, hk, h => by
    obtain ⟨elt', tg', it', ifs', scope, p, rfl, h1, h2, h3, h4, h5, h6⟩ := comp_shape h
    obtain ⟨k1, k2, k3, k4⟩ := hk
    have pl := pe_lc (X := X) (elt := elt') (tg := tg') (iter := it') (ifs := ifs') (pos := p) (g := tTg X.K tg) (tt := tTAnd X.K cond) (te := tE X.K elt) x.calm x.nd (sIt it c X tg' it' x k2 h2) (blkOk_by (N := X.N) (sc := X.env.scope) (by rw [x.N, x.sc]; exact h1))
      (fun s H C cl fp => sTg tg (c.sub scope) _ tg' (x.blk s H C cl fp) k1 h4) (fun s H C cl fp => sC cond (c.sub scope) _ ifs' (x.blk s H C cl fp) k3 h5) (fun s H C cl fp => sE elt (c.sub scope) _ elt' (x.blk s H C cl fp) k4 h6) (fun z => fold_of h3 z)
    rw [own_map] at pl
    exact PE.imp pl fun σ H Q hh => comp_run hh
theorem sEs : ∀ (es : Es) (c : AC) (X : Cx) (es' : List Expr), XOk c kn k X → KnEs kn es → agEs c es es' = true → PA X es' (tEs X.K es)
  | .nil, c, X, [], _, _, _ => s_Es_nil
  | .nil, _, _, _ :: _, _, _, h => absurd h Bool.false_ne_true
  | .cons _ _, _, _, [], _, _, h => absurd h Bool.false_ne_true
  | .cons e es, c, X, e' :: es', x, hk, h =>
    have h := b2 (show (notStar e' && (agE c e e' && agEs c es es')) = true from h)
    s_Es_cons h.1 (sE e c X e' x hk.1 (b2 h.2).1) (sEs es c X es' x hk.2 (b2 h.2).2)
theorem sDs : ∀ (es : Es) (c : AC) (X : Cx) (es' : List Expr), XOk c kn k X → KnEs kn es → agEs c es es' = true → PA X es' (tDs X.K es)
  | .nil, c, X, [], _, _, _ => s_Ds_nil
  | .nil, _, _, _ :: _, _, _, h => absurd h Bool.false_ne_true
  | .cons _ _, _, _, [], _, _, h => absurd h Bool.false_ne_true
  | .cons e es, c, X, e' :: es', x, hk, h =>
    have h := b2 (show (notStar e' && (agE c e e' && agEs c es es')) = true from h)
    s_Ds_cons h.1 (sE e c X e' x hk.1 (b2 h.2).1) (sDs es c X es' x hk.2 (b2 h.2).2)
theorem sKs : ∀ (es : Es) (c : AC) (X : Cx) (es' : List Keyword), XOk c kn k X → KnEs kn es → agKs c es es' = true → PK X es' (tDs X.K es)
  | .nil, c, X, [], _, _, _ => s_Ks_nil
  | .nil, _, _, _ :: _, _, _, h => absurd h Bool.false_ne_true
  | .cons _ _, _, _, [], _, _, h => absurd h Bool.false_ne_true
  | .cons e es, c, X, ⟨nm, e', kp⟩ :: es', x, hk, h =>
    have h := b2 (show (agE c e e' && agKs c es es') = true from h)
    s_Ks_cons (sE e c X e' x hk.1 h.1) (sKs es c X es' x hk.2 h.2)
theorem sPart : ∀ (es : Es) (c : AC) (X : Cx) (o : Option Expr), XOk c kn k X → KnEs kn es → agPart c es o = true → PO X o (tPart_ X.K es)
  | .nil, _, _, none, _, _, _ => s_Part_nil
  | .nil, _, _, some _, _, _, h => absurd h Bool.false_ne_true
  | .cons e .nil, c, X, some e', x, hk, h => s_Part_one (sE e c X e' x hk.1 h)
  | .cons _ .nil, _, _, none, _, _, h => absurd h Bool.false_ne_true
  | .cons _ (.cons _ _), _, _, none, _, _, h => absurd h Bool.false_ne_true
  | .cons _ (.cons _ _), _, _, some _, _, _, h => absurd h Bool.false_ne_true
theorem sAnd : ∀ (es : Es) (c : AC) (X : Cx) (es' : List Expr) (p : Pos), XOk c kn k X → KnEs kn es → agEs c es es' = true → es' ≠ [] → PE X (.BoolOp .And es' p) (tAnd_ X.K es)
  | .nil, _, _, [], _, _, _, _, h => absurd rfl h
  | .nil, _, _, _ :: _, _, _, _, h, _ => absurd h Bool.false_ne_true
  | .cons _ _, _, _, [], _, _, _, _, h => absurd rfl h
  | .cons e .nil, c, X, [e'], p, x, hk, h, _ => and_one (sE e c X e' x hk.1 (b2 (b2 (show (notStar e' && (agE c e e' && agEs c .nil [])) = true from h)).2).1)
  | .cons _ .nil, _, _, e' :: b' :: r', _, _, _, h, _ => absurd (b2 (b2 (show (notStar e' && (agE _ _ e' && false)) = true from h)).2).2 Bool.false_ne_true
  | .cons _ (.cons _ _), _, _, [e'], _, _, _, h, _ => absurd (b2 (b2 (show (notStar e' && (agE _ _ e' && false)) = true from h)).2).2 Bool.false_ne_true
  | .cons e (.cons e2 es), c, X, e' :: b' :: r', p, x, hk, h, _ =>
    have h := b2 (show (notStar e' && (agE c e e' && agEs c (.cons e2 es) (b' :: r'))) = true from h)
    and_cons (sE e c X e' x hk.1 (b2 h.2).1) (sAnd (.cons e2 es) c X (b' :: r') p x hk.2 (b2 h.2).2 (fun z => nomatch z))
theorem sOr : ∀ (es : Es) (c : AC) (X : Cx) (es' : List Expr) (p : Pos), XOk c kn k X → KnEs kn es → agEs c es es' = true → es' ≠ [] → PE X (.BoolOp .Or es' p) (tOr_ X.K es)
  | .nil, _, _, [], _, _, _, _, h => absurd rfl h
  | .nil, _, _, _ :: _, _, _, _, h, _ => absurd h Bool.false_ne_true
  | .cons _ _, _, _, [], _, _, _, _, h => absurd rfl h
  | .cons e .nil, c, X, [e'], p, x, hk, h, _ => or_one (sE e c X e' x hk.1 (b2 (b2 (show (notStar e' && (agE c e e' && agEs c .nil [])) = true from h)).2).1)
  | .cons _ .nil, _, _, e' :: b' :: r', _, _, _, h, _ => absurd (b2 (b2 (show (notStar e' && (agE _ _ e' && false)) = true from h)).2).2 Bool.false_ne_true
  | .cons _ (.cons _ _), _, _, [e'], _, _, _, h, _ => absurd (b2 (b2 (show (notStar e' && (agE _ _ e' && false)) = true from h)).2).2 Bool.false_ne_true
  | .cons e (.cons e2 es), c, X, e' :: b' :: r', p, x, hk, h, _ =>
    have h := b2 (show (notStar e' && (agE c e e' && agEs c (.cons e2 es) (b' :: r'))) = true from h)
    or_cons (sE e c X e' x hk.1 (b2 h.2).1) (sOr (.cons e2 es) c X (b' :: r') p x hk.2 (b2 h.2).2 (fun z => nomatch z))
theorem sT : ∀ (t : T) (c : AC) (X : Cx) (e' : Expr), XOk c kn k X → KnT kn t → agT c t e' = true → PT X e' (tT X.K t)
  | .val e, c, X, e', x, hk, h =>
    have h := b2 (show (plainX e' && agE c e e') = true from h)
    s_val h.1 (sE e c X e' x hk h.2)
  | .and ts, c, X, e', x, hk, h => by
    cases e' with
    | BoolOp op es' p =>
      cases op with
      | And =>
        obtain ⟨h1, h2⟩ := b2 (show (!es'.isEmpty && agTs c ts es') = true from h)
        exact PW.pt (sTAnd ts c X es' p x hk h2 (ne_emp h1))
      | Or => exact absurd h Bool.false_ne_true
    | _ => exact absurd h Bool.false_ne_true
  | .or ts, c, X, e', x, hk, h => by
    cases e' with
    | BoolOp op es' p =>
      cases op with
      | Or =>
        obtain ⟨h1, h2⟩ := b2 (show (!es'.isEmpty && agTs c ts es') = true from h)
        exact PW.pt (sTOr ts c X es' p x hk h2 (ne_emp h1))
      | And => exact absurd h Bool.false_ne_true
    | _ => exact absurd h Bool.false_ne_true
  | .not t, c, X, e', x, hk, h => by
    cases e' with
    | UnaryOp op a' p =>
      cases op with
      | Not => exact s_notT (sT t c X a' x hk h)
      | _ => exact absurd h Bool.false_ne_true
    | _ => exact absurd h Bool.false_ne_true
  | .cmp _ a b, c, X, e', x, hk, h => s_cmpT x h (fun a' => sE a c X a' x hk.1) (fun b' => sE b c X b' x hk.2)
  | .chain _ _ a b d, c, X, e', x, hk, h => s_chainT x h (fun a' => sE a c X a' x hk.1) (fun b' => sE b c X b' x hk.2.1) (fun b' => sE d c X b' x hk.2.2)
  | .isN _ a, c, X, e', x, hk, h => s_isNT x h (fun a' => sE a c X a' x hk)
theorem sTAnd : ∀ (ts : Ts) (c : AC) (X : Cx) (es' : List Expr) (p : Pos), XOk c kn k X → KnTs kn ts → agTs c ts es' = true → es' ≠ [] → PW X (.BoolOp .And es' p) (tTAnd X.K ts)
  | .nil, _, _, [], _, _, _, _, h => absurd rfl h
  | .nil, _, _, _ :: _, _, _, _, h, _ => absurd h Bool.false_ne_true
  | .cons _ _, _, _, [], _, _, _, _, h => absurd rfl h
  | .cons t .nil, c, X, [e'], p, x, hk, h, _ => tand_one (sT t c X e' x hk.1 (b2 (show (agT c t e' && agTs c .nil []) = true from h)).1)
  | .cons _ .nil, _, _, e' :: b' :: r', _, _, _, h, _ => absurd (b2 (show (agT _ _ e' && false) = true from h)).2 Bool.false_ne_true
  | .cons _ (.cons _ _), _, _, [e'], _, _, _, h, _ => absurd (b2 (show (agT _ _ e' && false) = true from h)).2 Bool.false_ne_true
  | .cons t (.cons t2 ts), c, X, e' :: b' :: r', p, x, hk, h, _ =>
    have h := b2 (show (agT c t e' && agTs c (.cons t2 ts) (b' :: r')) = true from h)
    tand_cons (sT t c X e' x hk.1 h.1) (sTAnd (.cons t2 ts) c X (b' :: r') p x hk.2 h.2 (fun z => nomatch z))
theorem sTOr : ∀ (ts : Ts) (c : AC) (X : Cx) (es' : List Expr) (p : Pos), XOk c kn k X → KnTs kn ts → agTs c ts es' = true → es' ≠ [] → PW X (.BoolOp .Or es' p) (tTOr X.K ts)
  | .nil, _, _, [], _, _, _, _, h => absurd rfl h
  | .nil, _, _, _ :: _, _, _, _, h, _ => absurd h Bool.false_ne_true
  | .cons _ _, _, _, [], _, _, _, _, h => absurd rfl h
  | .cons t .nil, c, X, [e'], p, x, hk, h, _ => tor_one (sT t c X e' x hk.1 (b2 (show (agT c t e' && agTs c .nil []) = true from h)).1)
  | .cons _ .nil, _, _, e' :: b' :: r', _, _, _, h, _ => absurd (b2 (show (agT _ _ e' && false) = true from h)).2 Bool.false_ne_true
  | .cons _ (.cons _ _), _, _, [e'], _, _, _, h, _ => absurd (b2 (show (agT _ _ e' && false) = true from h)).2 Bool.false_ne_true
  | .cons t (.cons t2 ts), c, X, e' :: b' :: r', p, x, hk, h, _ =>
    have h := b2 (show (agT c t e' && agTs c (.cons t2 ts) (b' :: r')) = true from h)
    tor_cons (sT t c X e' x hk.1 h.1) (sTOr (.cons t2 ts) c X (b' :: r') p x hk.2 h.2 (fun z => nomatch z))
theorem sC : ∀ (ts : Ts) (c : AC) (X : Cx) (es' : List Expr), XOk c kn k X → KnTs kn ts → agC c ts es' = true → PTs X es' (tTAnd X.K ts)
  | .nil, _, _, [], _, _, _ => c_nil
  | .nil, _, _, _ :: _, _, _, h => absurd h Bool.false_ne_true
  | .cons t .nil, c, X, [e'], x, hk, h => c_one (sT t c X e' x hk.1 h)
  | .cons _ .nil, _, _, [], _, _, h => absurd h Bool.false_ne_true
  | .cons _ .nil, _, _, _ :: _ :: _, _, _, h => absurd h Bool.false_ne_true
  | .cons _ (.cons _ _), _, _, [], _, _, h => absurd h Bool.false_ne_true
  | .cons _ (.cons _ _), _, _, [_], _, _, h => absurd h Bool.false_ne_true
  | .cons _ (.cons _ _), _, _, _ :: _ :: _, _, _, h => absurd h Bool.false_ne_true
theorem sIt : ∀ (it : It) (c : AC) (X : Cx) (tg' e' : Expr), XOk c kn k X → KnIt kn it → agIt c tg' it e' = true → PI X tg' e' (tIt X.K it)
  | .seq e, c, X, tg', e', x, hk, h => s_It_seq (sE e c X e' x hk (b2 (show (notSet e' && agE c e e') = true from h)).2)
  | .rng es, c, X, tg', e', x, hk, h => s_It_rng x h (fun es' => sEs es c X es' x hk)
  | .enum e, c, X, tg', e', x, hk, h => s_It_enum x h (fun a' => sE e c X a' x hk)
  | .zip a b, c, X, tg', e', x, hk, h => s_It_zip x h (fun a' => sE a c X a' x hk.1) (fun a' => sE b c X a' x hk.2)
theorem sTg : ∀ (t : Tg) (c : AC) (X : Cx) (e' : Expr), XOk c kn k X → KnTg kn t → agTg c t e' = true → PG X e' (tTg X.K t)
  | .n i, c, X, e', x, hk, h => s_Tg_n x h
  | .t ts, c, X, e', x, hk, h => s_Tg_t x h (fun es' => sTgs ts c X es' x hk)
  | .ix a b, c, X, e', x, hk, h => s_Tg_ix x h (fun a' => sE a c X a' x hk.1) (fun b' => sE b c X b' x hk.2)
theorem sTgs : ∀ (ts : Tgs) (c : AC) (X : Cx) (es' : List Expr), XOk c kn k X → KnTgs kn ts → agTgs c ts es' = true → PGs X es' (tTgs X.K ts)
  | .nil, _, _, [], _, _, _ => s_Tgs_nil
  | .nil, _, _, _ :: _, _, _, h => absurd h Bool.false_ne_true
  | .cons _ _, _, _, [], _, _, h => absurd h Bool.false_ne_true
  | .cons t ts, c, X, e' :: es', x, hk, h =>
    have h := b2 (show (notStar e' && (agTg c t e' && agTgs c ts es')) = true from h)
    s_Tgs_cons h.1 (sTg t c X e' x hk.1 (b2 h.2).1) (sTgs ts c X es' x hk.2 (b2 h.2).2)
end
end
end DB
set_option maxHeartbeats 4000000
namespace DB
open PySem PySem.Spec L2

/-! ### statements: agreement -/
def notCompX : Expr → Bool
  | .ListComp _ _ _ _ => false
  | .SetComp _ _ _ _ => false
  | .DictComp _ _ _ _ _ => false
  | _ => true
def notNameX : Expr → Bool
  | .Name _ _ => false
  | _ => true
/-- the exchanged stores of name = [comprehension] -/
def swapL (c : AC) (y : Str) (py : Pos) (scope : Scope) (vp : Pos) : Bool :=
  decide (c.sc.names.lookup y = some .local) && ((py.line == vp.line) && !(scope.names.any fun (n, k) => n == y && (k == .local || k == .cell)))
def asgOk : Expr → Bool
  | .SetComp _ _ _ _ => false
  | .DictComp _ _ _ _ _ => false
  | _ => true
def noPar : Expr → Expr → Bool
  | .Tuple _ _ _, .Tuple _ _ _ => false
  | .List _ _, .Tuple _ _ _ => false
  | _, _ => true
def agNames (c : AC) : List (Nat × Bool) → List Expr → Bool
  | [], [] => true
  | (i, _) :: cs, .Name y _ :: es => decide (c.N[i]? = some y) && (locB c.sc c.blk y && agNames c cs es)
  | _, _ => false
def namesOf : List Expr → List Str
  | [] => []
  | .Name y _ :: es => y :: namesOf es
  | _ :: es => namesOf es
/-- are the stores of a, b = x, y swapped -/
def swapP (c : AC) (ts vs : List Expr) : Bool :=
  (ts.length == 2 || ts.length == 3) && ((namesOf ts).all (fun y => decide (c.sc.names.lookup y = some .local)) && !vs.all (foldedForSure 8))
def parOk (c : AC) (ts vs : List Expr) : Bool :=
  !swapP c ts vs || (ts.all (fun t => t.pos.line == (ts.head?.map (·.pos.line)).getD 0) && !vs.all (constantsAlone 8))
mutual
def agS (c : AC) : S → Stmt → Bool
  | .asg _ i e, .Assign [.Name y _] v _ => decide (c.N[i]? = some y) && (locB c.sc c.blk y && (asgOk v && agE c e v))
  | .asgT t e, .Assign [tg'] v _ => notNameX tg' && (notStar tg' && (noPar tg' v && (agTg c t tg' && agE c e v)))
  | .par cs es, .Assign [.Tuple ts _ _] (.Tuple vs _ _) _ => agNames c cs ts && (decide ((cs.map (·.1)).Nodup) && (agEs c es vs && (decide (vs.length ≤ sizeLine) && (decide (ts.length = vs.length) && parOk c ts vs))))
  | .ex e, .Expr e' _ => notCompX e' && agE c e e'
  | .ret e, .Return (some e') _ => agE c e e'
  | .retN, .Return none _ => true
  | .iff t a b, .If t' a' b' _ => agT c t t' && (agSs c a a' && agSs c b b')
  | .for t it body, .For tg' it' body' [] _ => agIt c tg' it it' && (notSet it' && (agTg c t tg' && agSs c body body'))
  | .whl _ t body, .While t' body' [] _ => agT c t t' && agSs c body body'
  | .rai, .Raise _ _ _ => true
  | .pass, .Pass _ => true
  | .pass, .Expr (.Constant (.str _) _ _) _ => true
  | .brk, .Break _ => true
  | .cont, .Continue _ => true
  | _, _ => false
def agSs (c : AC) : Ss → List Stmt → Bool
  | .nil, [] => true
  | .cons s ss, s' :: ss' => agS c s s' && agSs c ss ss'
  | _, _ => false
end
mutual
def KnS (k : Know) : S → Prop
  | .asg _ _ e => KnE k e
  | .asgT t e => KnTg k t ∧ KnE k e
  | .par _ es => KnEs k es
  | .ex e => KnE k e
  | .ret e => KnE k e
  | .retN => True
  | .iff c a b => KnT k c ∧ KnSs k a ∧ KnSs k b
  | .for t it body => KnTg k t ∧ KnIt k it ∧ KnSs k body
  | .whl _ c body => KnT k c ∧ KnSs k body
  | .rai => True
  | .pass => True
  | .brk => True
  | .cont => True
def KnSs (k : Know) : Ss → Prop
  | .nil => True
  | .cons s ss => KnS k s ∧ KnSs k ss
end

/-! ### readings -/
def FlQ (K : PySem.W.Frag) (D : Ends) (H : Hp) (as' : List Addr) (F' H' : Hp) : Flow → Prop
  | .nx env => ∀ σ', EnvOk K F' as' σ' env → D.nx σ' H'
  | .bk env => ∀ σ', EnvOk K F' as' σ' env → D.bk σ' H'
  | .ct env => ∀ σ', EnvOk K F' as' σ' env → D.ct σ' H'
  | .rt r => ∀ v, ROk K F' H' as' v r → Fresh H v r → D.rt v H'
def tS (K : PySem.W.Frag) (s : S) : TS := fun D σ H => ∃ as F st env fl st', StOk K F H as st ∧ EnvOk K F as σ env ∧ evS s env st = .ok fl st' ∧
  ∀ as' F' H', StOk K F' H' as' st' → Ext [] as F H st as' F' H' st' → FlQ K D H as' F' H' fl
def tSs (K : PySem.W.Frag) (ss : Ss) : TS := fun D σ H => ∃ as F st env fl st', StOk K F H as st ∧ EnvOk K F as σ env ∧ evSs ss env st = .ok fl st' ∧
  ∀ as' F' H', StOk K F' H' as' st' → Ext [] as F H st as' F' H' st' → FlQ K D H as' F' H' fl
structure SOk (c : AC) (kn : Know) (k : Nat) (X : Cx) : Prop extends XOk c kn k X where
  kind : X.env.scope.kind = .function
  nb : c.blk = none
  own : PassesOwn (model X.prog X.w) X.A X.env X.xe
section
variable {K : PySem.W.Frag} {F F' H H' F0 H0 : Hp} {ex as as' as0 : List Addr} {st st' st0 : Sto}
/-- a new thing becomes a cell -/
theorem StOk.alloc {a : Addr} {d : D} (s : StOk K F H as st) (f : F a = none) (c : CelOk K F H a d) (nm : a ∉ as) : StOk K F H (as ++ [a]) (st ++ [⟨d, true⟩]) := by
  have hlen : (as ++ [a]).length = (st ++ [(⟨d, true⟩ : Cel)]).length := by rw [List.length_append, List.length_append, s.len]; rfl
  refine ⟨s.sub, hlen, fun n b d' h1 h2 => ?_, fun n b d' h1 h2 => ?_⟩
  · by_cases hn : n < st.length
    · rw [List.getElem?_append_left hn] at h2
      rw [List.getElem?_append_left (by rw [s.len]; exact hn)] at h1
      obtain ⟨f1, c1, u1⟩ := s.live n b d' h1 h2
      refine ⟨f1, c1, fun n' h' => ?_⟩
      by_cases hn' : n' < st.length
      · rw [List.getElem?_append_left (by rw [s.len]; exact hn')] at h'
        exact u1 n' h'
      · rw [List.getElem?_append_right (by rw [s.len]; omega)] at h'
        have : b = a := List.mem_singleton.mp (List.mem_of_getElem? h')
        subst this
        exact absurd (List.mem_of_getElem? h1) nm
    · rw [List.getElem?_append_right (by omega)] at h2
      rw [List.getElem?_append_right (by rw [s.len]; omega)] at h1
      have hz : n - st.length = 0 := by
        cases q : n - st.length with
        | zero => rfl
        | succ j => rw [q] at h2; cases h2
      rw [hz] at h2
      rw [s.len, hz] at h1
      cases h2
      cases h1
      refine ⟨f, c, fun n' h' => ?_⟩
      by_cases hn' : n' < st.length
      · rw [List.getElem?_append_left (by rw [s.len]; exact hn')] at h'
        exact absurd (List.mem_of_getElem? h') nm
      · have := (List.getElem?_eq_some_iff.mp h').1
        rw [List.length_append, s.len] at this
        have : n' < st.length + 1 := this
        omega
  · by_cases hn : n < st.length
    · rw [List.getElem?_append_left hn] at h2
      rw [List.getElem?_append_left (by rw [s.len]; exact hn)] at h1
      exact s.froz n b d' h1 h2
    · rw [List.getElem?_append_right (by omega)] at h2
      have hz : n - st.length = 0 := by
        cases q : n - st.length with
        | zero => rfl
        | succ j => rw [q] at h2; cases h2
      rw [hz] at h2
      cases h2
theorem EnvOk.more {a : Addr} {σ : L2.St} {env : Env} (en : EnvOk K F as σ env) : EnvOk K F (as ++ [a]) σ env := by
  refine ⟨en.len, fun j q hq => ?_⟩
  obtain ⟨w, hw, z⟩ := en.get j q hq
  refine ⟨w, hw, ?_⟩
  rcases z with z | ⟨c', a', rfl, rfl, z⟩
  · exact .inl z
  · exact .inr ⟨c', a', rfl, rfl, by rw [List.getElem?_append_left (List.getElem?_eq_some_iff.mp z).1]; exact z⟩
/-- a name's new value -/
theorem store1_aft {m : Bool} {i : Nat} {v : V} {r : R} {σ : L2.St} {env env' : Env} (hl0 : as0.length = st0.length) (s : StOk K F H as st) (x : Ext [] as0 F0 H0 st0 as F H st) (en : EnvOk K F as σ env) (ro : ROk K F H as v r) (fr : Fresh H0 v r)
    (e : store1 m i r env st = .ok env' st') : ∃ F' as', StOk K F' H as' st' ∧ Ext [] as0 F0 H0 st0 as' F' H st' ∧ Ext (ownA v r) as F H st as F' H st ∧ (as' = as ∨ as' = as ++ ownA v r) ∧ EnvOk K F' as' (σ.set i (some v)) env' := by
  cases ro with
  | dat d =>
    obtain ⟨rfl, rfl⟩ := pure_inv (show (pure (env.set i (some (.dat _))) : M Env) st = .ok env' st' from e)
    exact ⟨F, as, s, x, .refl, .inl rfl, en.set i (.inl ⟨_, rfl, d⟩)⟩
  | cell h =>
    obtain ⟨rfl, rfl⟩ := pure_inv (show (pure (env.set i (some (.cell _))) : M Env) st = .ok env' st' from e)
    exact ⟨F, as, s, x, .refl, .inl rfl, en.set i (.inr ⟨_, _, rfl, rfl, h⟩)⟩
  | @own a d f c nm =>
    cases m with
    | false =>
      obtain ⟨rfl, rfl⟩ := pure_inv (show (pure (env.set i (some (.dat d))) : M Env) st = .ok env' st' from e)
      obtain ⟨F2, k2, x2, d2⟩ := use_ok s (.own f c nm) (show use (.own d) st' = .ok d st' from rfl)
      refine ⟨F2, as, k2, x.transX hl0 s.len x2 (fun _ z => nomatch z) (fun a' ha => .inr ?_), x2, .inl rfl, (en.ext x2).set i (.inl ⟨d, rfl, d2⟩)⟩
      have : a' = a := List.mem_singleton.mp ha
      subst this
      exact fr _ rfl
    | true =>
      have e : (Res.ok (env.set i (some (.cell st.length))) (st ++ [⟨d, true⟩]) : Res Env) = .ok env' st' := e
      cases e
      have hk : StOk K F H (as ++ [a]) (st ++ [⟨d, true⟩]) := s.alloc f c nm
      refine ⟨F, as ++ [a], hk, ?_, .refl, .inr rfl, ?_⟩
      · refine ⟨?_, x.f, x.k, fun b o hb n nx => x.h b o hb n nx, fun n d' hn h2 => ?_, by rw [List.length_append]; exact Nat.le_trans x.g (Nat.le_add_right _ _)⟩
        · obtain ⟨new, rfl, hnew⟩ := x.pre
          refine ⟨new ++ [a], by simp, fun b hb => ?_⟩
          rcases List.mem_append.mp hb with hb | hb
          · exact hnew b hb
          · have : b = a := List.mem_singleton.mp hb
            subst this
            exact fr _ rfl
        · rw [List.getElem?_append_left (Nat.lt_of_lt_of_le hn x.g)] at h2
          exact x.l n d' hn h2
      · have en' : EnvOk K F (as ++ [a]) σ env := by
          refine ⟨en.len, fun j q hq => ?_⟩
          obtain ⟨w, hw, z⟩ := en.get j q hq
          refine ⟨w, hw, ?_⟩
          rcases z with z | ⟨c', a', rfl, rfl, z⟩
          · exact .inl z
          · exact .inr ⟨c', a', rfl, rfl, by rw [List.getElem?_append_left (List.getElem?_eq_some_iff.mp z).1]; exact z⟩
        exact en'.set i (.inr ⟨st.length, a, rfl, rfl, by rw [← s.len, List.getElem?_append_right (Nat.le_refl _), Nat.sub_self]; rfl⟩)
def setAll : List (Nat × Bool) → List V → L2.St → L2.St
  | (i, _) :: cs, v :: vs, σ => setAll cs vs (σ.set i (some v))
  | _, _, σ => σ
theorem parM_aft : ∀ {cs : List (Nat × Bool)} {vs : List V} {rs : List R} {σ : L2.St} {env env' : Env} {F : Hp} {as : List Addr} {st st' : Sto}, as0.length = st0.length → StOk K F H as st → Ext [] as0 F0 H0 st0 as F H st → EnvOk K F as σ env → RsOk K F H as vs rs → (∀ a ∈ ownsA vs rs, H0 a = none) →
    parM cs rs env st = .ok env' st' → ∃ F' as', StOk K F' H as' st' ∧ Ext [] as0 F0 H0 st0 as' F' H st' ∧ EnvOk K F' as' (setAll cs vs σ) env' ∧ cs.length = vs.length
  | [], _, [], σ, env, env', F, as, st, st', hl0, s, x, en, ro, fr, e => by
    cases ro
    obtain ⟨rfl, rfl⟩ := pure_inv (show (pure env : M Env) st = .ok env' st' from e)
    exact ⟨F, as, s, x, en, rfl⟩
  | [], _, _ :: _, σ, env, env', F, as, st, st', hl0, s, x, en, ro, fr, e => (no_inv e).elim
  | (i, m) :: cs, _, [], σ, env, env', F, as, st, st', hl0, s, x, en, ro, fr, e => (no_inv e).elim
  | (i, m) :: cs, _, r :: rs, σ, env, env', F, as, st, st', hl0, s, x, en, ro, fr, e => by
    cases ro with
    | @cons v _ vs _ r1 r2 dj =>
    obtain ⟨env1, s1, e1, z1⟩ := bind_inv (show (store1 m i r env >>= fun env' => parM cs rs env') st = .ok env' st' from e)
    obtain ⟨F1, as1, k1, x1, x10, ha, en1⟩ := store1_aft hl0 s x en r1 (by
      cases r with
      | own d => exact fun a ha => fr a (List.mem_append_left _ (by rw [ha]; simp [ownA]))
      | _ => trivial) e1
    have r2' : RsOk K F1 H as1 vs rs := by
      clear fr z1 e
      induction r2 with
      | nil => exact .nil
      | @cons w q ws qs w1 w2 dj2 ih =>
        refine .cons ?_ (ih fun a ha hb => dj a ha (List.mem_append_right _ hb)) dj2
        have w1' : ROk K F1 H as w q := w1.ext s.len x10 fun a ha hb => dj a hb (List.mem_append_left _ ha)
        rcases ha with rfl | rfl
        · exact w1'
        · cases w1' with
          | dat d => exact .dat d
          | own f c nm =>
            refine .own f c fun hm => ?_
            rcases List.mem_append.mp hm with hm | hm
            · exact nm hm
            · exact dj _ hm (List.mem_append_left _ (by simp [ownA]))
          | cell h => exact .cell (by rw [List.getElem?_append_left (List.getElem?_eq_some_iff.mp h).1]; exact h)
    obtain ⟨F2, as2, k2, x2, en2, hl⟩ := parM_aft hl0 k1 x1 en1 r2' (fun a ha => fr a (List.mem_append_right _ ha)) z1
    exact ⟨F2, as2, k2, x2, en2, congrArg Nat.succ hl⟩
end
end DB
set_option maxHeartbeats 4000000
namespace L2
open PySem PySem.Spec PyProof.Rows
section
variable {X : Cx} {pos : Pos}
/-- a, b, c = x, y, z with plain local names: stored from the right -/
def tPar3 (i j l : Nat) (ta : TA) : TS := fun D σ H => ta σ H fun vs H1 => ∃ v w u, vs = [v, w, u] ∧ D.nx (((σ.set i (some v)).set j (some w)).set l (some u)) H1
theorem ps_par3 {i j l : Nat} {x y z : Str} {a b c : Expr} {ta : TA} {px py pz pt : Pos} {kt k2 pt2} (hc : X.calm = true) (hN : X.N.Nodup) (hi : X.N[i]? = some x) (hj : X.N[j]? = some y) (hl : X.N[l]? = some z) (hij : i ≠ j) (hil : i ≠ l) (hjl : j ≠ l)
    (hx : X.env.scope.names.lookup x = some .local) (hy : X.env.scope.names.lookup y = some .local) (hz : X.env.scope.names.lookup z = some .local) (ha : PA X [a, b, c] ta)
    (hw : swappedStores [.Tuple [.Name x px, .Name y py, .Name z pz] kt pt] (.Tuple [a, b, c] k2 pt2) X.env = pure (some [x, y, z]))
    (hs : swapsWithSole [.Tuple [.Name x px, .Name y py, .Name z pz] kt pt] (.Tuple [a, b, c] k2 pt2) pos.line X.env = pure false := by rfl) :
    PS X (.Assign [.Tuple [.Name x px, .Name y py, .Name z pz] kt pt] (.Tuple [a, b, c] k2 pt2) pos) (tPar3 i j l ta) := by
  refine ⟨fun pins s σ H D I h => ?_⟩
  rw [exec_Assign_arm]
  refine wpAny_bind (wpAny_standAt ?_)
  rw [hs]
  refine wpAny_bind (wpAny_pure ?_)
  rw [if_neg (by decide)]
  refine wpAny_bind (Tuple_ (thn (ha.run _ pins s σ H _ I h) fun us s1 ⟨vs, H1, I1, r1, q1⟩ => ?_))
  obtain ⟨v, w, u, e1, q1⟩ := q1
  subst e1
  obtain ⟨u1, u2, u3, rfl, rv, rw', ru⟩ : ∃ u1 u2 u3, us = [u1, u2, u3] ∧ RelV v u1 ∧ RelV w u2 ∧ RelV u u3 := by
    cases r1 with
    | cons p q =>
      cases q with
      | cons p' q' =>
        cases q' with
        | cons p'' q'' =>
          cases q''
          exact ⟨_, _, _, rfl, p, p', p''⟩
  refine wpAny_newObj_type ?_ (by show 3 ≤ sizeLine; decide)
  have I2 : Inv X pins σ H1 { s1 with heap := s1.heap.push { cls := .type "tuple", data := .seq [u1, u2, u3].toArray } } := I1.kept (t' := s1.toks) fun b o e => Heap.get?_push_of_some _ e
  rw [hw]
  refine wpAny_bind (wpAny_pure ?_)
  show wpAny (model X.prog X.w) X.A (do rule "assign.swapped-stores"; let items ← unpackItems (.ref s1.heap.objs.size) 3 none; assignInOrder [fun v => bindName X.env z v, fun v => bindName X.env y v, fun v => bindName X.env x v] items.reverse; pure Flow.next) _ _ _
  refine wpAny_bind (wpAny_rule (wpAny_bind (unpackItems_tuple (items := #[u1, u2, u3]) (I.ok.hd hc) (IsTup.new s1.heap _) fun h' hx' => ?_)))
  have I3 := I2.kept (h' := h') (t' := s1.toks) fun b o e => hx' b o (Nat.ne_of_lt (Heap.lt_size e)) e
  show wpAny _ _ (assignInOrder [fun v => bindName X.env z v, fun v => bindName X.env y v, fun v => bindName X.env x v] [u3, u2, u1] >>= fun _ => pure Flow.next) _ _ _
  refine wpAny_bind (assignInOrder_cons (wpAny_bindName (store_ok I3 hN hl (.inl hz) ru (fun s2 I4 => ?_) (.inr hz))))
  refine assignInOrder_cons (wpAny_bindName (store_ok I4 hN hj (.inl hy) rw' (fun s3 I5 => ?_) (.inr hy)))
  refine assignInOrder_cons (wpAny_bindName (store_ok I5 hN hi (.inl hx) rv (fun s4 I6 => assignInOrder_nil (wpAny_pure ?_)) (.inr hx)))
  rw [List.set_comm _ _ (Ne.symm hjl), List.set_comm _ _ (Ne.symm hil), List.set_comm _ _ (Ne.symm hij)] at I6
  exact ⟨_, H1, I6, q1⟩
end
end L2
namespace DB
open PySem PySem.Spec L2
section
variable {c : AC} {kn : Know} {k : Nat} {X : Cx}
theorem RsOk.ext {K : PySem.W.Frag} {F F' H H' : Hp} {ex as as' : List Addr} {st st' : Sto} {vs : List V} {rs : List R} (h : RsOk K F H as vs rs) (hl : as.length = st.length) (e : Ext ex as F H st as' F' H' st') (hx : ∀ a ∈ ownsA vs rs, a ∉ ex) : RsOk K F' H' as' vs rs := by
  induction h with
  | nil => exact .nil
  | cons r1 r2 dj ih => exact .cons (r1.ext hl e fun a ha => hx a (List.mem_append_left _ ha)) (ih fun a ha => hx a (List.mem_append_right _ ha)) dj
theorem RsOk.length {K : PySem.W.Frag} {F H : Hp} {as : List Addr} {vs : List V} {rs : List R} (h : RsOk K F H as vs rs) : vs.length = rs.length := by
  induction h with
  | nil => rfl
  | cons _ _ _ ih => exact congrArg Nat.succ ih
theorem sw_false {v : Expr} {t : Option Expr} {l : Nat} {env : PySem.Env} (h : notCompX v = true) : swapsWith v t l env = pure false := by
  cases v <;> first | rfl | exact absurd h Bool.false_ne_true
theorem sw_false2 {v t : Expr} {l : Nat} {env : PySem.Env} (h : notNameX t = true) : swapsWith v (some t) l env = pure false := by
  cases v <;> first | rfl | (cases t <;> first | rfl | exact absurd h Bool.false_ne_true)
theorem block_fn {env : PySem.Env} (h : env.scope.kind = .function) : env.blockKind = .function := by
  unfold Env.blockKind
  rw [h]
  rfl
theorem sw_lc {elt : Expr} {gs : List Comprehension} {scope : Scope} {vp py : Pos} {y : Str} {l : Nat} {env : PySem.Env} (h : env.scope.kind = .function) (hs : env.scope = c.sc) :
    swapsWith (.ListComp elt gs scope vp) (some (.Name y py)) l env = pure (swapL c y py scope vp) := by
  have hb := block_fn h
  unfold swapsWith
  simp only [hb, Expr.pos]
  unfold swapL
  have e : (env.kindOf y == some .local) = decide (c.sc.names.lookup y = some .local) := by
    rw [← hs]
    show (env.scope.names.lookup y == some .local) = _
    cases q : env.scope.names.lookup y with
    | none => rfl
    | some z => cases z <;> rfl
  rw [e]
  show (pure ((true && decide (c.sc.names.lookup y = some .local)) && (py.line == vp.line) && !(scope.names.any fun (n, k) => n == y && (k == .local || k == .cell))) : Sem Bool) = _
  rw [Bool.true_and, Bool.and_assoc]
theorem asg_run {m : Bool} {i : Nat} {e : E} {D : Ends} {σ : L2.St} {H : Hp} (hh : tS X.K (.asg m i e) D σ H) : tE X.K e σ H fun x H1 => D.nx (σ.set i (some x)) H1 := by
  obtain ⟨as, F, st, env, fl, st', s, en, ee, af⟩ := hh
  obtain ⟨r, s1, e1, z1⟩ := bind_inv (show (evE e env >>= fun r => store1 m i r env >>= fun env' => (pure (Flow.nx env') : M Flow)) st = .ok fl st' from ee)
  obtain ⟨env', s2, e2, z2⟩ := bind_inv z1
  obtain ⟨rfl, rfl⟩ := pure_inv z2
  refine ⟨as, F, st, env, r, s1, s, en, e1, fun v F1 H1 k1 x1 r1 f1 => ?_⟩
  obtain ⟨F2, as2, k2, x2, _, _, en2⟩ := store1_aft s.len k1 x1 (en.ext x1) r1 f1 e2
  exact af as2 F2 H1 k2 x2 _ en2
theorem s_asg {m : Bool} {i : Nat} {e : E} {s' : Stmt} (x : SOk c kn k X) (hk : KnE kn e) (h : agS c (.asg m i e) s' = true) : PS X s' (tS X.K (.asg m i e)) := by
  have h0 : ∃ y p v pos, s' = .Assign [.Name y p] v pos ∧ c.N[i]? = some y ∧ locB c.sc c.blk y = true ∧ asgOk v = true ∧ agE c e v = true := by
    cases s' with
    | Assign ts v pos =>
      match ts, h with
      | [t], h =>
        cases t with
        | Name y p =>
          obtain ⟨h1, h⟩ := b2 (show (decide (c.N[i]? = some y) && (locB c.sc c.blk y && (asgOk v && agE c e v))) = true from h)
          obtain ⟨h2, h⟩ := b2 h
          obtain ⟨h3, h4⟩ := b2 h
          exact ⟨y, p, v, pos, rfl, of_decide_eq_true h1, h2, h3, h4⟩
        | _ => exact absurd h Bool.false_ne_true
      | [], h => exact absurd h Bool.false_ne_true
      | t :: _ :: _, h => cases t <;> exact absurd h Bool.false_ne_true
    | _ => exact absurd h Bool.false_ne_true
  obtain ⟨y, p, v, pos, rfl, h1, h2, h3, h4⟩ := h0
  obtain ⟨l1, l2⟩ := x.toXOk.loc h2
  have hN : X.N[i]? = some y := by rw [x.N]; exact h1
  have std : swapsWith v (some (.Name y p)) pos.line X.env = pure false → PS X (.Assign [.Name y p] v pos) (tS X.K (.asg m i e)) := fun hs =>
    PS.imp (ps_set x.nd hN l1 (sE e c X v x.toXOk hk h4) hs l2) fun D σ H hh => asg_run hh
  cases v with
  | ListComp elt gs scope vp =>
    cases hsw : swapL c y p scope vp with
    | false => exact std (by rw [sw_lc x.kind x.sc, hsw])
    | true =>
      have hyl : X.env.scope.names.lookup y = some .local := by
        unfold swapL at hsw
        rw [x.sc]
        exact of_decide_eq_true (b2 hsw).1
      cases e with
      | comp tg it cond elt0 =>
        obtain ⟨elt', tg', it', ifs', scope', p', e0, g1, g2, g3, g4, g5, g6⟩ := comp_shape h4
        cases e0
        obtain ⟨k1, k2, k3, k4⟩ := hk
        have pl := ps_setLc (X := X) (i := i) (y := y) (py := p) (elt := elt) (tg := tg') (iter := it') (ifs := ifs') (pos := vp) (spos := pos) (g := tTg X.K tg) (tt := tTAnd X.K cond) (te := tE X.K elt0) x.calm x.nd hN hyl (by rw [sw_lc x.kind x.sc, hsw]) (sIt it c X tg' it' x.toXOk k2 g2) (blkOk_by (N := X.N) (sc := X.env.scope) (by rw [x.N, x.sc]; exact g1))
          (fun s H C cl fp => sTg tg (c.sub scope) _ tg' (x.toXOk.blk s H C cl fp) k1 g4) (fun s H C cl fp => sC cond (c.sub scope) _ ifs' (x.toXOk.blk s H C cl fp) k3 g5) (fun s H C cl fp => sE elt0 (c.sub scope) _ elt (x.toXOk.blk s H C cl fp) k4 g6) (fun z => fold_of g3 z)
        rw [own_map] at pl
        exact PS.imp pl fun D σ H hh => comp_run (asg_run hh)
      | _ => exact absurd (show false = true from h4) Bool.false_ne_true
  | SetComp _ _ _ _ => exact absurd h3 Bool.false_ne_true
  | DictComp _ _ _ _ _ => exact absurd h3 Bool.false_ne_true
  | _ => exact std rfl
theorem s_asgT {t : Tg} {e : E} {s' : Stmt} (x : SOk c kn k X) (hk : KnTg kn t ∧ KnE kn e) (h : agS c (.asgT t e) s' = true) : PS X s' (tS X.K (.asgT t e)) := by
  have h0 : ∃ tg' v pos, s' = .Assign [tg'] v pos ∧ notNameX tg' = true ∧ notStar tg' = true ∧ noPar tg' v = true ∧ agTg c t tg' = true ∧ agE c e v = true := by
    cases s' with
    | Assign ts v pos =>
      match ts, h with
      | [tg'], h =>
        obtain ⟨h1, h⟩ := b2 (show (notNameX tg' && (notStar tg' && (noPar tg' v && (agTg c t tg' && agE c e v)))) = true from h)
        obtain ⟨h2, h⟩ := b2 h
        obtain ⟨h3, h⟩ := b2 h
        obtain ⟨h4, h5⟩ := b2 h
        exact ⟨tg', v, pos, rfl, h1, h2, h3, h4, h5⟩
      | [], h => exact absurd h Bool.false_ne_true
      | _ :: _ :: _, h => exact absurd h Bool.false_ne_true
    | _ => exact absurd h Bool.false_ne_true
  obtain ⟨tg', v, pos, rfl, h1, h2, h3, h4, h5⟩ := h0
  refine PS.imp (ps_asg (sE e c X v x.toXOk hk.2 h5) (sTg t c X tg' x.toXOk hk.1 h4) (sw_false2 h1) ?_ ?_) fun D σ H hh => ?_
  · unfold swappedStores
    cases tg' <;> cases v <;> first | rfl | exact absurd h3 Bool.false_ne_true
  · rw [assign_cons h2]
    rfl
  · obtain ⟨as, F, st, env, fl, st', s, en, ee, af⟩ := hh
    obtain ⟨r, s1, e1, z1⟩ := bind_inv (show (evE e env >>= fun r => use r >>= fun d => evTg t d env >>= fun env' => (pure (Flow.nx env') : M Flow)) st = .ok fl st' from ee)
    obtain ⟨d, s2, e2, z2⟩ := bind_inv z1
    obtain ⟨env', s3, e3, z3⟩ := bind_inv z2
    obtain ⟨rfl, rfl⟩ := pure_inv z3
    refine ⟨as, F, st, env, r, s1, s, en, e1, fun v F1 H1 k1 x1 r1 f1 => ?_⟩
    obtain ⟨F2, k2, x2, d2⟩ := use_aft s.len k1 x1 r1 f1 e2
    exact ⟨as, F2, s2, env, d, env', st', k2, en.ext x2, d2, e3, fun σ3 F3 H3 k3 x3 en3 _ => af as F3 H3 k3 (x2.trans s.len k2.len x3) _ en3⟩
/-! ### several names -/
theorem agNames_len : ∀ {cs : List (Nat × Bool)} {ts : List Expr}, agNames c cs ts = true → ts.length = cs.length
  | [], [], _ => rfl
  | [], _ :: _, h => absurd h Bool.false_ne_true
  | _ :: _, [], h => absurd h Bool.false_ne_true
  | (i, m) :: cs, t :: ts, h => by
    cases t with
    | Name y p =>
      obtain ⟨_, h⟩ := b2 (show (decide (c.N[i]? = some y) && (locB c.sc c.blk y && agNames c cs ts)) = true from h)
      exact congrArg Nat.succ (agNames_len (b2 h).2)
    | _ => exact absurd h Bool.false_ne_true
theorem agNames_star : ∀ {cs : List (Nat × Bool)} {ts : List Expr}, agNames c cs ts = true → ∀ e ∈ ts, notStar e = true
  | [], [], _ => fun _ h => nomatch h
  | [], _ :: _, h => absurd h Bool.false_ne_true
  | _ :: _, [], h => absurd h Bool.false_ne_true
  | (i, m) :: cs, t :: ts, h => fun e he => by
    cases t with
    | Name y p =>
      obtain ⟨_, h⟩ := b2 (show (decide (c.N[i]? = some y) && (locB c.sc c.blk y && agNames c cs ts)) = true from h)
      rcases List.mem_cons.mp he with rfl | he
      · rfl
      · exact agNames_star (b2 h).2 e he
    | _ => exact absurd h Bool.false_ne_true
theorem pgs_names (x : XOk c kn k X) : ∀ {cs : List (Nat × Bool)} {ts : List Expr}, agNames c cs ts = true → PGs X ts (fun vs σ H Q => vs.length = cs.length ∧ Q (setAll cs vs σ) H)
  | [], [], _ => PGs.imp pgs_nil fun vs σ H Q ⟨h1, h2⟩ => by
    cases vs with
    | nil => exact ⟨rfl, h2⟩
    | cons _ _ => cases h1
  | [], _ :: _, h => absurd h Bool.false_ne_true
  | _ :: _, [], h => absurd h Bool.false_ne_true
  | (i, m) :: cs, t :: ts, h => by
    cases t with
    | Name y p =>
      obtain ⟨h1, h⟩ := b2 (show (decide (c.N[i]? = some y) && (locB c.sc c.blk y && agNames c cs ts)) = true from h)
      obtain ⟨h2, h3⟩ := b2 h
      obtain ⟨l1, l2⟩ := x.loc h2
      refine PGs.imp (pgs_cons (pg_name x.nd (by rw [x.N]; exact of_decide_eq_true h1) l1 l2) (pgs_names x h3) (by rw [assign_cons (by rfl)]; rfl)) fun vs σ H Q ⟨g1, g2⟩ => ?_
      cases vs with
      | nil => cases g1
      | cons v vs => exact ⟨v, vs, rfl, Nat.succ.inj g1, g2⟩
    | _ => exact absurd h Bool.false_ne_true
def swNames (env : PySem.Env) (ts : List Expr) : List Str := ts.filterMap fun e => match e with
    | .Name id pos => if env.kindOf id == some .local && pos.line == (ts.head?.map (·.pos.line)).getD 0 then some id else none
    | _ => none
theorem sw_shape {ts vs : List Expr} {kt k2 : _} {pt p2 : Pos} {env : PySem.Env} : swappedStores [.Tuple ts kt pt] (.Tuple vs k2 p2) env =
    (if (!(ts.length == 2 || ts.length == 3) || vs.length != ts.length || env.blockKind != .function) = true then pure none
    else if (vs.any fun x => match x with | .Starred .. => true | _ => false) = true then pure none
    else if ((swNames env ts).length != ts.length || (swNames env ts).eraseDups.length != (swNames env ts).length) = true then pure none
    else if vs.all (foldedForSure 8) = true then pure none
    else if vs.all (constantsAlone 8) = true then (do unsupported "assign.tuple-of-constant-expressions:order-of-the-stores"; pure (some (swNames env ts))) else pure (some (swNames env ts))) := rfl
theorem filter_local {env : PySem.Env} {line : Nat} (hs : env.scope = c.sc) : ∀ {cs : List (Nat × Bool)} {ts : List Expr}, agNames c cs ts = true → (ts.filterMap fun e => match e with
    | .Name id pos => if env.kindOf id == some .local && pos.line == line then some id else none
    | _ => none).length = ts.length → (namesOf ts).all (fun y => decide (c.sc.names.lookup y = some .local)) = true
  | [], [], _, _ => rfl
  | [], _ :: _, h, _ => absurd h Bool.false_ne_true
  | _ :: _, [], h, _ => absurd h Bool.false_ne_true
  | (i, m) :: cs, t :: ts, h, hl => by
    cases t with
    | Name y p =>
      obtain ⟨_, h⟩ := b2 (show (decide (c.N[i]? = some y) && (locB c.sc c.blk y && agNames c cs ts)) = true from h)
      rw [List.filterMap_cons] at hl
      by_cases hc : (env.kindOf y == some .local && p.line == line) = true
      · simp only [hc, if_true] at hl
        have ih := filter_local hs (b2 h).2 (Nat.succ.inj hl)
        have h1 := (b2 hc).1
        show (decide (c.sc.names.lookup y = some .local) && (namesOf ts).all _) = true
        rw [ih, Bool.and_true]
        rw [← hs]
        have h1 : (env.scope.names.lookup y == some .local) = true := h1
        cases q : env.scope.names.lookup y with
        | none => rw [q] at h1; cases h1
        | some z => rw [q] at h1; cases z <;> first | rfl | cases h1
      · simp only [Bool.not_eq_true] at hc
        simp only [hc, Bool.false_eq_true, if_false] at hl
        have := List.length_filterMap_le (fun e => match e with
          | Expr.Name id pos => if env.kindOf id == some .local && pos.line == line then some id else none
          | _ => none) ts
        rw [List.length_cons] at hl
        omega
    | _ => exact absurd h Bool.false_ne_true
theorem sw_none {cs : List (Nat × Bool)} {ts vs : List Expr} {kt k2 : _} {pt p2 : Pos} {env : PySem.Env} (hs : env.scope = c.sc) (h : agNames c cs ts = true) (hw : swapP c ts vs = false) : swappedStores [.Tuple ts kt pt] (.Tuple vs k2 p2) env = pure none := by
  rw [sw_shape]
  by_cases g1 : (!(ts.length == 2 || ts.length == 3) || vs.length != ts.length || env.blockKind != .function) = true
  · rw [if_pos g1]
  rw [if_neg g1]
  by_cases g2 : (vs.any fun x => match x with | .Starred .. => true | _ => false) = true
  · rw [if_pos g2]
  rw [if_neg g2]
  by_cases g3 : ((swNames env ts).length != ts.length || (swNames env ts).eraseDups.length != (swNames env ts).length) = true
  · rw [if_pos g3]
  rw [if_neg g3]
  by_cases g4 : vs.all (foldedForSure 8) = true
  · rw [if_pos g4]
  exfalso
  simp only [Bool.or_eq_true, not_or, bne_iff_ne, ne_eq, Decidable.not_not] at g3
  have hl := filter_local hs h g3.1
  unfold swapP at hw
  rw [hl] at hw
  simp only [Bool.not_eq_true] at g4
  rw [g4] at hw
  rw [Bool.true_and, Bool.not_false, Bool.and_true] at hw
  rw [hw] at g1
  exact g1 rfl
theorem star_any : ∀ {vs : List Expr}, (∀ e ∈ vs, notStar e = true) → (vs.any fun x => match x with | .Starred .. => true | _ => false) = false
  | [], _ => rfl
  | e :: es, h => by
    have ih := star_any (vs := es) fun x hx => h x (List.mem_cons_of_mem _ hx)
    have h1 := h e (List.mem_cons_self ..)
    rw [List.any_cons, ih]
    cases e <;> first | rfl | exact absurd h1 Bool.false_ne_true
theorem swP_parts {ts vs : List Expr} (hp : parOk c ts vs = true) (hw : swapP c ts vs = true) : (ts.length = 2 ∨ ts.length = 3) ∧ (∀ y ∈ namesOf ts, c.sc.names.lookup y = some .local) ∧ vs.all (foldedForSure 8) = false ∧ vs.all (constantsAlone 8) = false ∧
    ∀ t ∈ ts, (t.pos.line == (ts.head?.map (·.pos.line)).getD 0) = true := by
  unfold parOk at hp
  rw [hw] at hp
  obtain ⟨p1, p2⟩ := b2 (show (ts.all (fun t => t.pos.line == (ts.head?.map (·.pos.line)).getD 0) && !vs.all (constantsAlone 8)) = true from hp)
  unfold swapP at hw
  obtain ⟨w1, hw⟩ := b2 hw
  obtain ⟨w2, w3⟩ := b2 hw
  refine ⟨by simpa using w1, fun y hy => of_decide_eq_true (List.all_eq_true.mp w2 y hy), by simpa using w3, by simpa using p2, fun t ht => List.all_eq_true.mp p1 t ht⟩
theorem kind_loc {env : PySem.Env} (hs : env.scope = c.sc) {y : Str} (h : c.sc.names.lookup y = some .local) : (env.kindOf y == some .local) = true := by
  show (env.scope.names.lookup y == some .local) = true
  rw [hs, h]
  rfl
theorem ebeq {x y : Str} (h : x ≠ y) : (x == y) = false := by
  cases q : x == y with
  | false => rfl
  | true => exact absurd (beq_iff_eq.mp q) h
theorem er2 {x y : Str} (h : x ≠ y) : [x, y].eraseDups.length = 2 := by
  have h1 : (y == x) = false := ebeq (Ne.symm h)
  simp [List.eraseDups_cons, h1]
theorem er3 {x y z : Str} (h : x ≠ y) (h2 : x ≠ z) (h3 : y ≠ z) : [x, y, z].eraseDups.length = 3 := by
  have h1 : (y == x) = false := ebeq (Ne.symm h)
  have h2' : (z == x) = false := ebeq (Ne.symm h2)
  have h3' : (z == y) = false := ebeq (Ne.symm h3)
  simp [List.eraseDups_cons, h1, h2', h3']
theorem par_run {cs : List (Nat × Bool)} {es : Es} {D : Ends} {σ : L2.St} {H : Hp} (hh : tS X.K (.par cs es) D σ H) : tEs X.K es σ H fun vs H1 => cs.length = vs.length ∧ D.nx (setAll cs vs σ) H1 ∧ ∀ p, H1 p = none → D.nx (setAll cs vs σ) (upd H1 p (.tup vs)) := by
  obtain ⟨as, F, st, env, fl, st', s, en, ee, af⟩ := hh
  obtain ⟨rs, s1, e1, z1⟩ := bind_inv (show (evEs es env >>= fun rs => parM cs rs env >>= fun env' => (pure (Flow.nx env') : M Flow)) st = .ok fl st' from ee)
  obtain ⟨env', s2, e2, z2⟩ := bind_inv z1
  obtain ⟨rfl, rfl⟩ := pure_inv z2
  refine ⟨as, F, st, env, rs, s1, s, en, e1, fun vs F1 H1 k1 x1 r1 f1 => ?_⟩
  obtain ⟨F2, as2, k2, x2, en2, hl⟩ := parM_aft s.len k1 x1 (en.ext x1) r1 f1 e2
  refine ⟨hl, af as2 F2 H1 k2 x2 _ en2, fun p hp => ?_⟩
  have u1 : Ext [] as F1 H1 s1 as F1 (upd H1 p (.tup vs)) s1 := Ext.updH hp
  have u2 := x1.trans s.len k1.len u1
  obtain ⟨F3, as3, k3, x3, en3, _⟩ := parM_aft s.len (k1.upd hp) u2 (en.ext u2) (r1.ext k1.len u1 fun _ _ z => nomatch z) f1 e2
  exact af as3 F3 _ k3 x3 _ en3
theorem names_inj {x y : Str} {i j : Nat} (x0 : XOk c kn k X) (hx : X.N[i]? = some x) (hy : X.N[j]? = some y) (hij : i ≠ j) : x ≠ y := fun z => by
  subst z
  have h1 := List.getElem?_eq_some_iff.mp hx
  have h2 := List.getElem?_eq_some_iff.mp hy
  exact hij ((List.getElem_inj x0.nd).mp (h1.2.trans h2.2.symm))
theorem s_par {cs : List (Nat × Bool)} {es : Es} {s' : Stmt} (x : SOk c kn k X) (hk : KnEs kn es) (h : agS c (.par cs es) s' = true) : PS X s' (tS X.K (.par cs es)) := by
  have h0 : ∃ ts kt pt vs k2 p2 pos, s' = .Assign [.Tuple ts kt pt] (.Tuple vs k2 p2) pos ∧ agNames c cs ts = true ∧ (cs.map (·.1)).Nodup ∧ agEs c es vs = true ∧ vs.length ≤ sizeLine ∧ ts.length = vs.length ∧ parOk c ts vs = true := by
    cases s' with
    | Assign tl v pos =>
      match tl, h with
      | [t], h =>
        cases t with
        | Tuple ts kt pt =>
          cases v with
          | Tuple vs k2 p2 =>
            obtain ⟨h1, h⟩ := b2 (show (agNames c cs ts && (decide ((cs.map (·.1)).Nodup) && (agEs c es vs && (decide (vs.length ≤ sizeLine) && (decide (ts.length = vs.length) && parOk c ts vs))))) = true from h)
            obtain ⟨h2, h⟩ := b2 h
            obtain ⟨h3, h⟩ := b2 h
            obtain ⟨h4, h⟩ := b2 h
            obtain ⟨h5, h6⟩ := b2 h
            exact ⟨ts, kt, pt, vs, k2, p2, pos, rfl, h1, of_decide_eq_true h2, h3, of_decide_eq_true h4, of_decide_eq_true h5, h6⟩
          | _ => exact absurd h Bool.false_ne_true
        | _ => exact absurd h Bool.false_ne_true
      | [], h => exact absurd h Bool.false_ne_true
      | t :: _ :: _, h => cases t <;> exact absurd h Bool.false_ne_true
    | _ => exact absurd h Bool.false_ne_true
  obtain ⟨ts, kt, pt, vs, k2, p2, pos, rfl, h1, h2, h3, h4, h5, h6⟩ := h0
  have hA := sEs es c X vs x.toXOk hk h3
  have hst := agEs_star h3
  cases hsw : swapP c ts vs with
  | false =>
    refine PS.imp (ps_asg (pe_tup hA) (pg_tup (n := cs.length) x.calm (pgs_names x.toXOk h1) (by rw [(assign_len (agNames_star h1)).1, agNames_len h1]) (assign_len (agNames_star h1)).2) rfl (sw_none x.sc h1 hsw) rfl) fun D σ H hh => ?_
    obtain ⟨as, F, st, env, rs, st', s, en, e1, af⟩ := par_run hh
    refine ⟨as, F, st, env, rs, st', s, en, e1, fun ws F1 H1 k1 x1 r1 f1 => ?_⟩
    obtain ⟨a1, a2, a3⟩ := af ws F1 H1 k1 x1 r1 f1
    have hz : ws.length ≤ sizeLine := by rw [← a1, ← agNames_len h1, h5]; exact h4
    exact ⟨hz, fun p hp => ⟨p, ws, rfl, .of upd_same, a1.symm, a1.symm, a3 p hp⟩⟩
  | true =>
    obtain ⟨q1, q2, q3, q4, q5⟩ := swP_parts h6 hsw
    have hblk := block_fn x.kind
    have hls := agNames_len h1
    match ts, cs, vs, h1, h2, h5, hls, q1 with
    | [t1, t2], [(i, m), (j, n)], [a, b], h1, h2, h5, hls, q1 =>
      cases t1 with
      | Name y1 p1 =>
        cases t2 with
        | Name y2 p2' =>
          obtain ⟨g1, h1⟩ := b2 (show (decide (c.N[i]? = some y1) && (locB c.sc c.blk y1 && agNames c [(j, n)] [.Name y2 p2'])) = true from h1)
          obtain ⟨g2, h1⟩ := b2 h1
          obtain ⟨g3, h1⟩ := b2 (show (decide (c.N[j]? = some y2) && (locB c.sc c.blk y2 && agNames c [] [])) = true from h1)
          have n1 : X.N[i]? = some y1 := by rw [x.N]; exact of_decide_eq_true g1
          have n2 : X.N[j]? = some y2 := by rw [x.N]; exact of_decide_eq_true g3
          have hij : i ≠ j := fun z => by
            have := List.nodup_cons.mp h2
            exact this.1 (by rw [z]; exact List.mem_cons_self ..)
          have hne := names_inj x.toXOk n1 n2 hij
          have lk1 := q2 y1 (by simp [namesOf])
          have lk2 := q2 y2 (by simp [namesOf])
          have ln1 := q5 _ (List.mem_cons_self ..)
          have ln2 := q5 (.Name y2 p2') (by simp)
          have hsn : swNames X.env [.Name y1 p1, .Name y2 p2'] = [y1, y2] := by
            have e1 : (X.env.kindOf y1 == some .local && p1.line == p1.line) = true := by rw [kind_loc x.sc lk1]; exact ln1
            have e2 : (X.env.kindOf y2 == some .local && p2'.line == p1.line) = true := by rw [kind_loc x.sc lk2]; exact ln2
            unfold swNames
            simp only [List.filterMap_cons, List.filterMap_nil, List.head?_cons, Option.map_some, Option.getD_some, Expr.pos, e1, e2, if_true]
          refine PS.imp (ps_par x.calm x.nd n1 n2 hij (by rw [x.sc]; exact lk1) (by rw [x.sc]; exact lk2) hA ?_ rfl) fun D σ H hh => ?_
          · rw [sw_shape, hsn, hblk, star_any hst, q3, q4, er2 hne]
            rfl
          · obtain ⟨as, F, st, env, rs, st', s, en, e1, af⟩ := par_run hh
            refine ⟨as, F, st, env, rs, st', s, en, e1, fun ws F1 H1 k1 x1 r1 f1 => ?_⟩
            obtain ⟨a1, a2, _⟩ := af ws F1 H1 k1 x1 r1 f1
            match ws, a1, a2 with
            | [v, w], _, a2 => exact ⟨v, w, rfl, a2⟩
        | _ => exact absurd (b2 (b2 h1).2).2 Bool.false_ne_true
      | _ => exact absurd h1 Bool.false_ne_true
    | [t1, t2, t3], [(i, m), (j, n), (l, o)], [a, b, d], h1, h2, h5, hls, q1 =>
      cases t1 with
      | Name y1 p1 =>
        cases t2 with
        | Name y2 p2' =>
          cases t3 with
          | Name y3 p3 =>
            obtain ⟨g1, h1⟩ := b2 (show (decide (c.N[i]? = some y1) && (locB c.sc c.blk y1 && agNames c [(j, n), (l, o)] [.Name y2 p2', .Name y3 p3])) = true from h1)
            obtain ⟨g2, h1⟩ := b2 h1
            obtain ⟨g3, h1⟩ := b2 (show (decide (c.N[j]? = some y2) && (locB c.sc c.blk y2 && agNames c [(l, o)] [.Name y3 p3])) = true from h1)
            obtain ⟨g4, h1⟩ := b2 h1
            obtain ⟨g5, h1⟩ := b2 (show (decide (c.N[l]? = some y3) && (locB c.sc c.blk y3 && agNames c [] [])) = true from h1)
            have n1 : X.N[i]? = some y1 := by rw [x.N]; exact of_decide_eq_true g1
            have n2 : X.N[j]? = some y2 := by rw [x.N]; exact of_decide_eq_true g3
            have n3 : X.N[l]? = some y3 := by rw [x.N]; exact of_decide_eq_true g5
            have hnd : [i, j, l].Nodup := h2
            simp only [List.nodup_cons, List.mem_cons, List.not_mem_nil, or_false, not_or] at hnd
            obtain ⟨⟨hij, hil⟩, hjl, _⟩ := hnd
            have lk1 := q2 y1 (by simp [namesOf])
            have lk2 := q2 y2 (by simp [namesOf])
            have lk3 := q2 y3 (by simp [namesOf])
            have ln1 := q5 _ (List.mem_cons_self ..)
            have ln2 := q5 (.Name y2 p2') (by simp)
            have ln3 := q5 (.Name y3 p3) (by simp)
            have hsn : swNames X.env [.Name y1 p1, .Name y2 p2', .Name y3 p3] = [y1, y2, y3] := by
              have e1 : (X.env.kindOf y1 == some .local && p1.line == p1.line) = true := by rw [kind_loc x.sc lk1]; exact ln1
              have e2 : (X.env.kindOf y2 == some .local && p2'.line == p1.line) = true := by rw [kind_loc x.sc lk2]; exact ln2
              have e3 : (X.env.kindOf y3 == some .local && p3.line == p1.line) = true := by rw [kind_loc x.sc lk3]; exact ln3
              unfold swNames
              simp only [List.filterMap_cons, List.filterMap_nil, List.head?_cons, Option.map_some, Option.getD_some, Expr.pos, e1, e2, e3, if_true]
            refine PS.imp (ps_par3 x.calm x.nd n1 n2 n3 hij hil hjl (by rw [x.sc]; exact lk1) (by rw [x.sc]; exact lk2) (by rw [x.sc]; exact lk3) hA ?_ rfl) fun D σ H hh => ?_
            · rw [sw_shape, hsn, hblk, star_any hst, q3, q4, er3 (names_inj x.toXOk n1 n2 hij) (names_inj x.toXOk n1 n3 hil) (names_inj x.toXOk n2 n3 hjl)]
              rfl
            · obtain ⟨as, F, st, env, rs, st', s, en, e1, af⟩ := par_run hh
              refine ⟨as, F, st, env, rs, st', s, en, e1, fun ws F1 H1 k1 x1 r1 f1 => ?_⟩
              obtain ⟨a1, a2, _⟩ := af ws F1 H1 k1 x1 r1 f1
              match ws, a1, a2 with
              | [v, w, u], _, a2 => exact ⟨v, w, u, rfl, a2⟩
          | _ => exact absurd (b2 (b2 (b2 (b2 h1).2).2).2).2 Bool.false_ne_true
        | _ => exact absurd (b2 (b2 h1).2).2 Bool.false_ne_true
      | _ => exact absurd h1 Bool.false_ne_true
end
end DB
set_option maxHeartbeats 4000000
namespace DB
open PySem PySem.Spec L2
section
variable {c : AC} {kn : Know} {k : Nat} {X : Cx}
theorem s_ex {e : E} {s' : Stmt} (x : SOk c kn k X) (hk : KnE kn e) (h : agS c (.ex e) s' = true) : PS X s' (tS X.K (.ex e)) := by
  cases s' with
  | Expr e' pos =>
    obtain ⟨h1, h2⟩ := b2 (show (notCompX e' && agE c e e') = true from h)
    refine PS.imp (ps_expr (sE e c X e' x.toXOk hk h2) (sw_false h1)) fun D σ H hh => ?_
    obtain ⟨as, F, st, env, fl, st', s, en, ee, af⟩ := hh
    obtain ⟨r, s1, e1, z1⟩ := bind_inv (show (evE e env >>= fun _ => (pure (Flow.nx env) : M Flow)) st = .ok fl st' from ee)
    obtain ⟨rfl, rfl⟩ := pure_inv z1
    exact ⟨as, F, st, env, r, st', s, en, e1, fun v F1 H1 k1 x1 r1 f1 => af as F1 H1 k1 x1 σ (en.ext x1)⟩
  | _ => exact absurd h Bool.false_ne_true
theorem s_ret {e : E} {s' : Stmt} (x : SOk c kn k X) (hk : KnE kn e) (h : agS c (.ret e) s' = true) : PS X s' (tS X.K (.ret e)) := by
  cases s' with
  | Return o pos =>
    cases o with
    | none => exact absurd h Bool.false_ne_true
    | some e' =>
      refine PS.imp (ps_ret (sE e c X e' x.toXOk hk h)) fun D σ H hh => ?_
      obtain ⟨as, F, st, env, fl, st', s, en, ee, af⟩ := hh
      obtain ⟨r, s1, e1, z1⟩ := bind_inv (show (evE e env >>= fun r => (pure (Flow.rt r) : M Flow)) st = .ok fl st' from ee)
      obtain ⟨rfl, rfl⟩ := pure_inv z1
      exact ⟨as, F, st, env, r, st', s, en, e1, fun v F1 H1 k1 x1 r1 f1 => af as F1 H1 k1 x1 v r1 f1⟩
  | _ => exact absurd h Bool.false_ne_true
theorem s_retN {s' : Stmt} (x : SOk c kn k X) (h : agS c .retN s' = true) : PS X s' (tS X.K .retN) := by
  cases s' with
  | Return o pos =>
    cases o with
    | some _ => exact absurd h Bool.false_ne_true
    | none =>
      refine PS.imp ps_retN fun D σ H hh => ?_
      obtain ⟨as, F, st, env, fl, st', s, en, ee, af⟩ := hh
      obtain ⟨rfl, rfl⟩ := pure_inv (show (pure (Flow.rt (.dat .non)) : M Flow) st = .ok fl st' from ee)
      exact af as F H s .refl .non (.dat .non) trivial
  | _ => exact absurd h Bool.false_ne_true
theorem s_pass {s' : Stmt} (x : SOk c kn k X) (h : agS c .pass s' = true) : PS X s' (tS X.K .pass) := by
  have key : ∀ D σ H, tS X.K .pass D σ H → tNext D σ H := fun D σ H hh => by
    obtain ⟨as, F, st, env, fl, st', s, en, ee, af⟩ := hh
    obtain ⟨rfl, rfl⟩ := pure_inv (show (pure (Flow.nx env) : M Flow) st = .ok fl st' from ee)
    exact af as F H s .refl σ en
  cases s' with
  | Pass pos => exact PS.imp ps_pass key
  | Expr e pos =>
    cases e with
    | Constant v j p =>
      cases v with
      | str z => exact PS.imp ps_doc key
      | _ => exact absurd h Bool.false_ne_true
    | _ => exact absurd h Bool.false_ne_true
  | _ => exact absurd h Bool.false_ne_true
theorem s_brk {s' : Stmt} (x : SOk c kn k X) (h : agS c .brk s' = true) : PS X s' (tS X.K .brk) := by
  cases s' with
  | Break pos =>
    refine PS.imp ps_break fun D σ H hh => ?_
    obtain ⟨as, F, st, env, fl, st', s, en, ee, af⟩ := hh
    obtain ⟨rfl, rfl⟩ := pure_inv (show (pure (Flow.bk env) : M Flow) st = .ok fl st' from ee)
    exact af as F H s .refl σ en
  | _ => exact absurd h Bool.false_ne_true
theorem s_cont {s' : Stmt} (x : SOk c kn k X) (h : agS c .cont s' = true) : PS X s' (tS X.K .cont) := by
  cases s' with
  | Continue pos =>
    refine PS.imp ps_continue fun D σ H hh => ?_
    obtain ⟨as, F, st, env, fl, st', s, en, ee, af⟩ := hh
    obtain ⟨rfl, rfl⟩ := pure_inv (show (pure (Flow.ct env) : M Flow) st = .ok fl st' from ee)
    exact af as F H s .refl σ en
  | _ => exact absurd h Bool.false_ne_true
theorem s_rai {s' : Stmt} : PS X s' (tS X.K .rai) := PS.imp ps_never fun D σ H hh => by
  obtain ⟨as, F, st, env, fl, st', s, en, ee, af⟩ := hh
  exact (no_inv ee).elim
theorem FlQ.back {K : PySem.W.Frag} {D : Ends} {H H1 : Hp} {ex as as1 as' : List Addr} {F F1 F' H' : Hp} {st st1 : Sto} {fl : Flow} (e : Ext ex as F H st as1 F1 H1 st1) (h : FlQ K D H as' F' H' fl) : FlQ K D H1 as' F' H' fl := by
  cases fl with
  | rt r => exact fun v r1 f1 => h v r1 (Fresh.back e f1)
  | _ => exact h
theorem s_iff {t : T} {a b : Ss} {s' : Stmt} (x : SOk c kn k X) (hk : KnT kn t) (h : agS c (.iff t a b) s' = true) (ha : ∀ a', agSs c a a' = true → PSs X a' (tSs X.K a)) (hb : ∀ b', agSs c b b' = true → PSs X b' (tSs X.K b)) : PS X s' (tS X.K (.iff t a b)) := by
  cases s' with
  | If t' a' b' pos =>
    obtain ⟨h1, h⟩ := b2 (show (agT c t t' && (agSs c a a' && agSs c b b')) = true from h)
    obtain ⟨h2, h3⟩ := b2 h
    refine PS.imp (ps_if (sT t c X t' x.toXOk hk h1) (ha a' h2) (hb b' h3)) fun D σ H hh => ?_
    obtain ⟨as, F, st, env, fl, st', s, en, ee, af⟩ := hh
    obtain ⟨d, s1, e1, z1⟩ := bind_inv (show (evT t env >>= fun d => if d then evSs a env else evSs b env) st = .ok fl st' from ee)
    refine ⟨as, F, st, env, d, s1, s, en, e1, fun F1 H1 k1 x1 => ?_⟩
    cases d with
    | true => exact iteT ⟨as, F1, s1, env, fl, st', k1, en.ext x1, z1, fun as' F2 H2 k2 x2 => (af as' F2 H2 k2 (x1.trans s.len k1.len x2)).back x1⟩
    | false => exact iteF ⟨as, F1, s1, env, fl, st', k1, en.ext x1, z1, fun as' F2 H2 k2 x2 => (af as' F2 H2 k2 (x1.trans s.len k1.len x2)).back x1⟩
  | _ => exact absurd h Bool.false_ne_true
theorem s_Ss_nil : PSs X [] (tSs X.K .nil) := PSs.imp pss_nil fun D σ H hh => by
  obtain ⟨as, F, st, env, fl, st', s, en, ee, af⟩ := hh
  obtain ⟨rfl, rfl⟩ := pure_inv (show (pure (Flow.nx env) : M Flow) st = .ok fl st' from ee)
  exact af as F H s .refl σ en
theorem s_Ss_cons {s0 : S} {ss : Ss} {s' : Stmt} {ss' : List Stmt} (h1 : PS X s' (tS X.K s0)) (h2 : PSs X ss' (tSs X.K ss)) : PSs X (s' :: ss') (tSs X.K (.cons s0 ss)) := PSs.imp (pss_cons h1 h2) fun D σ H hh => by
  obtain ⟨as, F, st, env, fl, st', s, en, ee, af⟩ := hh
  obtain ⟨f1, s1, e1, z1⟩ := bind_inv (show (evS s0 env >>= fun f => match f with | .nx e => evSs ss e | f => pure f) st = .ok fl st' from ee)
  refine ⟨as, F, st, env, f1, s1, s, en, e1, fun as1 F1 H1 k1 x1 => ?_⟩
  cases f1 with
  | nx env1 => exact fun σ1 en1 => ⟨as1, F1, s1, env1, fl, st', k1, en1, z1, fun as2 F2 H2 k2 x2 => (af as2 F2 H2 k2 (x1.trans s.len k1.len x2)).back x1⟩
  | rt r =>
    obtain ⟨rfl, rfl⟩ := pure_inv (show (pure (Flow.rt r) : M Flow) s1 = .ok fl st' from z1)
    exact af as1 F1 H1 k1 x1
  | bk r =>
    obtain ⟨rfl, rfl⟩ := pure_inv (show (pure (Flow.bk r) : M Flow) s1 = .ok fl st' from z1)
    exact af as1 F1 H1 k1 x1
  | ct r =>
    obtain ⟨rfl, rfl⟩ := pure_inv (show (pure (Flow.ct r) : M Flow) s1 = .ok fl st' from z1)
    exact af as1 F1 H1 k1 x1
/-- after a turn's body -/
def aftM (g : Env → M Flow) : Flow → M Flow
  | .nx e => g e
  | .ct e => g e
  | .bk e => pure (.nx e)
  | .rt r => pure (.rt r)
theorem forM_cons {f : DB.D → Env → M Flow} {d : DB.D} {ds : List DB.D} {env : Env} : forM f (d :: ds) env = (f d env >>= fun x => aftM (forM f ds) x) := by
  show (f d env >>= fun x => match x with | .nx e => forM f ds e | .ct e => forM f ds e | .bk e => pure (.nx e) | .rt r => pure (.rt r)) = _
  congr 1
theorem whM_succ {cd : Env → M Bool} {f : Env → M Flow} {n : Nat} {env : Env} : whM cd f (n + 1) env = (cd env >>= fun b => if b then (f env >>= fun x => aftM (whM cd f n) x) else pure (.nx env)) := by
  show (cd env >>= fun b => if b then (f env >>= fun x => match x with | .nx e => whM cd f n e | .ct e => whM cd f n e | .bk e => pure (.nx e) | .rt r => pure (.rt r)) else pure (.nx env)) = _
  congr 1
theorem s_for {tg : Tg} {it : It} {body : Ss} {s' : Stmt} (x : SOk c kn k X) (hk : KnTg kn tg ∧ KnIt kn it) (h : agS c (.for tg it body) s' = true) (hb : ∀ b', agSs c body b' = true → PSs X b' (tSs X.K body)) : PS X s' (tS X.K (.for tg it body)) := by
  cases s' with
  | For tg' it' body' els pos =>
    cases els with
    | cons _ _ => exact absurd h Bool.false_ne_true
    | nil =>
    obtain ⟨h1, h⟩ := b2 (show (agIt c tg' it it' && (notSet it' && (agTg c tg tg' && agSs c body body'))) = true from h)
    obtain ⟨h2, h⟩ := b2 h
    obtain ⟨h3, h4⟩ := b2 h
    refine PS.imp (ps_for x.own x.calm (sIt it c X tg' it' x.toXOk hk.2 h1) (sTg tg c X tg' x.toXOk hk.1 h3) (hb body' h4) (fun z => fold_of h2 z)) fun D σ H hh => ?_
    obtain ⟨as, F, st, env, fl, st', s, en, ee, af⟩ := hh
    obtain ⟨ds, s1, e1, z1⟩ := bind_inv (show (evIt it env >>= fun ds => forM (fun d env => evTg tg d env >>= fun env' => evSs body env') ds env) st = .ok fl st' from ee)
    refine ⟨as, F, st, env, ds, s1, s, en, e1, fun J F1 H1 k1 x1 yl hl => ?_⟩
    refine ⟨fun i m σ' H' => m = ds.length - i ∧ i ≤ ds.length ∧ ∃ asi F' sti envi, StOk X.K F' H' asi sti ∧ EnvOk X.K F' asi σ' envi ∧ Ext [] as F1 H1 s1 asi F' H' sti ∧ forM (fun d env => evTg tg d env >>= fun env' => evSs body env') (ds.drop i) envi sti = .ok fl st',
      ⟨ds.length, by simp, Nat.zero_le _, as, F1, s1, env, k1, en.ext x1, .refl, by rw [List.drop_zero]; exact z1⟩, ?_⟩
    rintro i m σ' H' ⟨rfl, hi, asi, F', sti, envi, k', en', x', ec⟩
    obtain ⟨y1, y2⟩ := yl i F' H' asi sti x'.f k'
    by_cases hlt : i < ds.length
    · obtain ⟨d, hd⟩ : ∃ d, ds[i]? = some d := ⟨_, List.getElem?_eq_getElem hlt⟩
      obtain ⟨go, yy⟩ := y2 d hd
      have hdrop : ds.drop i = d :: ds.drop (i + 1) := by
        rw [List.drop_eq_getElem_cons hlt]
        rw [List.getElem?_eq_getElem hlt] at hd
        rw [Option.some.inj hd]
      rw [hdrop, forM_cons] at ec
      obtain ⟨f1, sa, ea, za⟩ := bind_inv ec
      obtain ⟨env', sb, eb, zb⟩ := bind_inv ea
      refine .inr ⟨go, fun σ'' H'' => ∃ asn F'' stn envn, StOk X.K F'' H'' asn stn ∧ EnvOk X.K F'' asn σ'' envn ∧ Ext [] as F1 H1 s1 asn F'' H'' stn ∧ forM (fun d env => evTg tg d env >>= fun env' => evSs body env') (ds.drop (i + 1)) envn stn = .ok fl st',
        fun σ'' H'' q => ⟨ds.length - (i + 1), by omega, rfl, hlt, q⟩, fun w H2 hy => ?_⟩
      obtain ⟨F2, k2, x2, dw⟩ := yy w H2 hy
      have x12 : Ext [] as F1 H1 s1 asi F2 H2 sti := x'.trans k1.len k'.len x2
      refine ⟨asi, F2, sti, envi, d, env', sb, k2, en'.ext x2, dw, eb, fun σ3 F3 H3 k3 x3 en3 w3 => ?_⟩
      have x13 := x12.trans k1.len k2.len x3
      refine ⟨asi, F3, sb, env', f1, sa, k3, en3, zb, fun as4 F4 H4 k4 x4 => ?_⟩
      have x14 := x13.trans k1.len k3.len x4
      cases f1 with
      | nx env4 => exact fun σ4 en4 => ⟨as4, F4, sa, env4, k4, en4, x14, za⟩
      | ct env4 => exact fun σ4 en4 => ⟨as4, F4, sa, env4, k4, en4, x14, za⟩
      | bk env4 =>
        obtain ⟨rfl, rfl⟩ := pure_inv (show (pure (Flow.nx env4) : M Flow) sa = .ok fl st' from za)
        exact fun σ4 en4 => af as4 F4 H4 k4 (x1.trans s.len k1.len x14) σ4 en4
      | rt r =>
        obtain ⟨rfl, rfl⟩ := pure_inv (show (pure (Flow.rt r) : M Flow) sa = .ok fl st' from za)
        exact fun v r4 f4 => af as4 F4 H4 k4 (x1.trans s.len k1.len x14) v r4 (Fresh.back (x1.trans s.len k1.len x13) f4)
    · have hi' : i = ds.length := by omega
      refine .inl ⟨y1 hi', ?_⟩
      rw [List.drop_eq_nil_of_le (by omega)] at ec
      obtain ⟨rfl, rfl⟩ := pure_inv (show (pure (Flow.nx envi) : M Flow) sti = .ok fl st' from ec)
      exact af asi F' H' k' (x1.trans s.len k1.len x') σ' en'
  | _ => exact absurd h Bool.false_ne_true
theorem s_whl {n : Nat} {t : T} {body : Ss} {s' : Stmt} (x : SOk c kn k X) (hk : KnT kn t) (h : agS c (.whl n t body) s' = true) (hb : ∀ b', agSs c body b' = true → PSs X b' (tSs X.K body)) : PS X s' (tS X.K (.whl n t body)) := by
  cases s' with
  | While t' body' els pos =>
    cases els with
    | cons _ _ => exact absurd h Bool.false_ne_true
    | nil =>
    obtain ⟨h1, h2⟩ := b2 (show (agT c t t' && agSs c body body') = true from h)
    refine PS.imp (ps_while x.own (sT t c X t' x.toXOk hk h1) (hb body' h2)) fun D σ H hh => ?_
    obtain ⟨as, F, st, env, fl, st', s, en, ee, af⟩ := hh
    have ee : whM (fun env => evT t env) (fun env => evSs body env) n env st = .ok fl st' := ee
    refine ⟨fun m σ' H' => ∃ asi F' sti envi, StOk X.K F' H' asi sti ∧ EnvOk X.K F' asi σ' envi ∧ Ext [] as F H st asi F' H' sti ∧ whM (fun env => evT t env) (fun env => evSs body env) m envi sti = .ok fl st',
      ⟨n, as, F, st, env, s, en, .refl, ee⟩, ?_⟩
    rintro m σ' H' ⟨asi, F', sti, envi, k', en', x', ec⟩
    cases m with
    | zero => exact (no_inv ec).elim
    | succ m =>
      rw [whM_succ] at ec
      obtain ⟨b, s1, e1, z1⟩ := bind_inv ec
      refine ⟨asi, F', sti, envi, b, s1, k', en', e1, fun F1 H1 k1 x1 => ?_⟩
      have x11 := x'.trans s.len k'.len x1
      cases b with
      | false =>
        obtain ⟨rfl, rfl⟩ := pure_inv (show (pure (Flow.nx envi) : M Flow) s1 = .ok fl st' from z1)
        exact iteF (af asi F1 H1 k1 x11 σ' (en'.ext x1))
      | true =>
        refine iteT ⟨fun σ'' H'' => ∃ asn F'' stn envn, StOk X.K F'' H'' asn stn ∧ EnvOk X.K F'' asn σ'' envn ∧ Ext [] as F H st asn F'' H'' stn ∧ whM (fun env => evT t env) (fun env => evSs body env) m envn stn = .ok fl st',
          fun σ'' H'' q => ⟨m, Nat.lt_succ_self m, q⟩, ?_⟩
        obtain ⟨f1, sa, ea, za⟩ := bind_inv (show (evSs body envi >>= fun x => aftM (whM (fun env => evT t env) (fun env => evSs body env) m) x) s1 = .ok fl st' from z1)
        refine ⟨asi, F1, s1, envi, f1, sa, k1, en'.ext x1, ea, fun as4 F4 H4 k4 x4 => ?_⟩
        have x14 := x11.trans s.len k1.len x4
        cases f1 with
        | nx env4 => exact fun σ4 en4 => ⟨as4, F4, sa, env4, k4, en4, x14, za⟩
        | ct env4 => exact fun σ4 en4 => ⟨as4, F4, sa, env4, k4, en4, x14, za⟩
        | bk env4 =>
          obtain ⟨rfl, rfl⟩ := pure_inv (show (pure (Flow.nx env4) : M Flow) sa = .ok fl st' from za)
          exact fun σ4 en4 => af as4 F4 H4 k4 x14 σ4 en4
        | rt r =>
          obtain ⟨rfl, rfl⟩ := pure_inv (show (pure (Flow.rt r) : M Flow) sa = .ok fl st' from za)
          exact fun v r4 f4 => af as4 F4 H4 k4 x14 v r4 (Fresh.back x11 f4)
  | _ => exact absurd h Bool.false_ne_true
mutual
theorem sS : ∀ (s0 : S) (s' : Stmt), SOk c kn k X → KnS kn s0 → agS c s0 s' = true → PS X s' (tS X.K s0)
  | .asg m i e, s', x, hk, h => s_asg x hk h
  | .asgT t e, s', x, hk, h => s_asgT x hk h
  | .par cs es, s', x, hk, h => s_par x hk h
  | .ex e, s', x, hk, h => s_ex x hk h
  | .ret e, s', x, hk, h => s_ret x hk h
  | .retN, s', x, hk, h => s_retN x h
  | .iff t a b, s', x, hk, h => s_iff x hk.1 h (fun a' => sSs a a' x hk.2.1) (fun b' => sSs b b' x hk.2.2)
  | .for t it body, s', x, hk, h => s_for x ⟨hk.1, hk.2.1⟩ h (fun b' => sSs body b' x hk.2.2)
  | .whl n t body, s', x, hk, h => s_whl x hk.1 h (fun b' => sSs body b' x hk.2)
  | .rai, s', x, hk, h => s_rai
  | .pass, s', x, hk, h => s_pass x h
  | .brk, s', x, hk, h => s_brk x h
  | .cont, s', x, hk, h => s_cont x h
theorem sSs : ∀ (ss : Ss) (ss' : List Stmt), SOk c kn k X → KnSs kn ss → agSs c ss ss' = true → PSs X ss' (tSs X.K ss)
  | .nil, [], x, hk, h => s_Ss_nil
  | .nil, _ :: _, x, hk, h => absurd h Bool.false_ne_true
  | .cons _ _, [], x, hk, h => absurd h Bool.false_ne_true
  | .cons s0 ss, s' :: ss', x, hk, h =>
    have h := b2 (show (agS c s0 s' && agSs c ss ss') = true from h)
    s_Ss_cons (sS s0 s' x hk.1 h.1) (sSs ss ss' x hk.2 h.2)
end
end
end DB
set_option maxHeartbeats 4000000
namespace DB
open PySem PySem.Spec L2

/-- a def of the text -/
structure KwQ where
  n : Nat
  ks : List Str
  dd : List D
  perm : List Nat
structure Dn where
  x : Str
  args : Arguments
  body : List Stmt
  scope : Scope
  ps : List Str
  N : List Str
  kws : List KwQ
structure DnOk (K : PySem.W.Frag) (mg : Str → Option Value) (d : Dn) : Prop where
  ex : ∃ fa fd dvs kw0, mg d.x = some (.ref fa) ∧ FunD K d.x d.x d.args d.body d.scope dvs kw0 fa fd ∧ Binds K fd d.ps [] ∧ (d.x = "law" → ∀ (s : Shared) (us : List Value), us.length = d.ps.length → BindsTo s fd ⟨us, []⟩ (d.ps.zip us)) ∧ ∀ q ∈ d.kws, (∃ dv du, KBn K fd d.ps q.n q.ks (gP q.perm du) (gP q.perm dv) ∧ ∀ F, DsOk K F dv q.dd)
structure Wo (K : PySem.W.Frag) (mg : Str → Option Value) (ds : List Dn) (gls : List (Str × D)) : Prop where
  free : ∀ x ∈ freeNames, mg x = none
  gl : ∀ p ∈ gls, ∃ u v, mg p.1 = some u ∧ RelV v u ∧ ∀ F, DOk K F v p.2
  df : ∀ d ∈ ds, DnOk K mg d
def kwOk (ds : List Dn) (id n : Nat) (ks : List Str) (dd : List D) (perm : List Nat) : Prop := ∃ d, ds[id]? = some d ∧ ⟨n, ks, dd, perm⟩ ∈ d.kws
def GoodF (ds : List Dn) (gls : List (Str × D)) : Nat → Nat → Fn → Prop
  | _, id, .no => ∃ d, ds[id]? = some d
  | 0, _, _ => False
  | k + 1, id, .mk n ms body => ∃ d, ds[id]? = some d ∧ d.N.length = n ∧ ms.length = d.ps.length ∧ C8.scC d.N d.ps d.scope = true ∧ agSs ⟨d.N, d.scope, none, ds.map (·.x)⟩ body d.body = true ∧
    KnSs ⟨GoodF ds gls k, fun x v => (x, v) ∈ gls, kwOk ds⟩ body
def kno (ds : List Dn) (gls : List (Str × D)) (k : Nat) : Know := ⟨GoodF ds gls k, fun x v => (x, v) ∈ gls, kwOk ds⟩

section
variable {K : PySem.W.Frag} {F F' H H' F0 H0 : Hp} {ex as as' as0 : List Addr} {st st' st0 : Sto}
/-! ### a call's beginning -/
/-- what holds of the state after the arguments came in -/
structure BindR (K : PySem.W.Frag) (F H : Hp) (as : List Addr) (st : Sto) (ow : List Addr) (F1 : Hp) (as1 : List Addr) (st1 : Sto) : Prop where
  ok : StOk K F1 H as1 st1
  pre : ∃ new, as1 = as ++ new ∧ ∀ a ∈ new, a ∈ ow
  f : Same F F1
  ff : ∀ b o, H b = some o → NL as st b → b ∉ ow → F b = none → F1 b = none
  l : ∀ (c : Nat) (d : D), c < st.length → st1[c]? = some ⟨d, true⟩ → ∃ d0, st[c]? = some ⟨d0, true⟩
  g : st.length ≤ st1.length
  hl : as.length = st.length
theorem BindR.refl (s : StOk K F H as st) : BindR K F H as st [] F as st := ⟨s, ⟨[], by simp, fun _ z => nomatch z⟩, Same.refl F, fun _ _ _ _ _ z => z, fun c d _ h => ⟨d, h⟩, Nat.le_refl _, s.len⟩
/-- one argument comes in -/
theorem bind1 {ow : List Addr} {F1 : Hp} {as1 : List Addr} {st1 st2 : Sto} {r : R} {v : V} {d : D} (b : BindR K F H as st ow F1 as1 st1) (ro : ROk K F1 H as1 v r) (e : use r st1 = .ok d st2) :
    ∃ F2, BindR K F H as st (ow ++ ownA v r) F2 as1 st2 ∧ Ext (ownA v r) as1 F1 H st1 as1 F2 H st2 ∧ DOk K F2 v d := by
  obtain ⟨F2, k2, x2, d2⟩ := use_ok b.ok ro e
  refine ⟨F2, ⟨k2, ?_, b.f.trans x2.f, fun c o hc n no hf => ?_, fun c d hc h => ?_, Nat.le_trans b.g x2.g, b.hl⟩, x2, d2⟩
  · obtain ⟨new, h1, h2⟩ := b.pre
    exact ⟨new, h1, fun a ha => List.mem_append_left _ (h2 a ha)⟩
  · have n1 : NL as1 st1 c := by
      intro m d' hm ha
      obtain ⟨new, rfl, hn⟩ := b.pre
      by_cases hlt : m < as.length
      · rw [List.getElem?_append_left hlt] at ha
        have hlt' : m < st.length := by rw [← b.hl]; exact hlt
        obtain ⟨d0, h0⟩ := b.l m d' hlt' hm
        exact n m d0 h0 ha
      · rw [List.getElem?_append_right (by omega)] at ha
        exact no (List.mem_append_left _ (hn c (List.mem_of_getElem? ha)))
    exact (x2.h c o hc n1 fun z => no (List.mem_append_right _ z)).2 (b.ff c o hc n (fun z => no (List.mem_append_left _ z)) hf)
  · obtain ⟨d0, h0⟩ := x2.l c d (Nat.lt_of_lt_of_le hc b.g) h
    exact b.l c d0 hc h0
theorem BindR.al {ow : List Addr} {F1 : Hp} {as1 : List Addr} {st1 : Sto} {a : Addr} {d : D} (b : BindR K F H as st ow F1 as1 st1) (f : F1 a = none) (c : CelOk K F1 H a d) (nm : a ∉ as1) : BindR K F H as st (ow ++ [a]) F1 (as1 ++ [a]) (st1 ++ [⟨d, true⟩]) := by
  refine ⟨b.ok.alloc f c nm, ?_, b.f, fun x o hx n no hf => b.ff x o hx n (fun z => no (List.mem_append_left _ z)) hf, fun n d' hn h => ?_, by rw [List.length_append]; exact Nat.le_trans b.g (Nat.le_add_right _ _), b.hl⟩
  · obtain ⟨new, rfl, h2⟩ := b.pre
    refine ⟨new ++ [a], by simp, fun x hx => ?_⟩
    rcases List.mem_append.mp hx with hx | hx
    · exact List.mem_append_left _ (h2 x hx)
    · exact List.mem_append_right _ hx
  · rw [List.getElem?_append_left (Nat.lt_of_lt_of_le hn b.g)] at h
    exact b.l n d' hn h
theorem BindR.wide {ow ow' : List Addr} {F1 : Hp} {as1 : List Addr} {st1 : Sto} (b : BindR K F H as st ow F1 as1 st1) (h : ∀ a ∈ ow, a ∈ ow') : BindR K F H as st ow' F1 as1 st1 :=
  ⟨b.ok, b.pre.imp fun _ z => ⟨z.1, fun a ha => h a (z.2 a ha)⟩, b.f, fun x o hx n no hf => b.ff x o hx n (fun z => no (h x z)) hf, b.l, b.g, b.hl⟩
theorem RsOk.more {a : Addr} {vs : List V} {rs : List R} (h : RsOk K F H as vs rs) (hx : ∀ x ∈ ownsA vs rs, x ≠ a) : RsOk K F H (as ++ [a]) vs rs := by
  induction h with
  | nil => exact .nil
  | cons r1 r2 dj ih =>
    refine .cons ?_ (ih fun x hm => hx x (List.mem_append_right _ hm)) dj
    cases r1 with
    | dat d => exact .dat d
    | own f c nm =>
      refine .own f c fun hm => ?_
      rcases List.mem_append.mp hm with hm | hm
      · exact nm hm
      · exact hx _ (List.mem_append_left _ (by simp [ownA])) (List.mem_singleton.mp hm)
    | cell h => exact .cell (by rw [List.getElem?_append_left (List.getElem?_eq_some_iff.mp h).1]; exact h)
/-- what a name holds -/
def Hold (K : PySem.W.Frag) (F : Hp) (as : List Addr) (v : V) (r : R) : Prop := (∃ d, r = .dat d ∧ DOk K F v d) ∨ ∃ c a, r = .cell c ∧ v = .ref a ∧ as[c]? = some a
theorem Hold.mono {v : V} {r : R} (h : Hold K F as v r) (s : Same F F') (new : List Addr) : Hold K F' (as ++ new) v r := by
  rcases h with ⟨d, rfl, h⟩ | ⟨c, a, rfl, rfl, h⟩
  · exact .inl ⟨d, rfl, h.mono s⟩
  · exact .inr ⟨c, a, rfl, rfl, by rw [List.getElem?_append_left (List.getElem?_eq_some_iff.mp h).1]; exact h⟩
theorem bindA_aft : ∀ {ms : List Bool} {vs : List V} {rs : List R} {es : List (Option R)} {ow : List Addr} {F1 : Hp} {as1 : List Addr} {st1 st2 : Sto}, BindR K F H as st ow F1 as1 st1 → RsOk K F1 H as1 vs rs → bindA ms rs st1 = .ok es st2 →
    ∃ F2 as2, BindR K F H as st (ow ++ ownsA vs rs) F2 as2 st2 ∧ Same F1 F2 ∧ (∃ new, as2 = as1 ++ new) ∧ es.length = vs.length ∧ ms.length = vs.length ∧ ∀ (i : Nat) (r : R), es[i]? = some (some r) → ∃ v, vs[i]? = some v ∧ Hold K F2 as2 v r
  | [], _, [], es, ow, F1, as1, st1, st2, b, ro, e => by
    cases ro
    obtain ⟨rfl, rfl⟩ := pure_inv (show (pure [] : M (List (Option R))) st1 = .ok es st2 from e)
    exact ⟨F1, as1, b.wide fun a ha => List.mem_append_left _ ha, Same.refl _, ⟨[], by simp⟩, rfl, rfl, fun i r z => by simp at z⟩
  | [], _, _ :: _, es, ow, F1, as1, st1, st2, b, ro, e => (no_inv e).elim
  | false :: _, _, [], es, ow, F1, as1, st1, st2, b, ro, e => (no_inv e).elim
  | true :: _, _, [], es, ow, F1, as1, st1, st2, b, ro, e => (no_inv e).elim
  | false :: ms, _, r :: rs, es, ow, F1, as1, st1, st2, b, ro, e => by
    cases ro with
    | @cons v _ vs _ r1 r2 dj =>
    obtain ⟨d, s1, e1, z1⟩ := bind_inv (show (use r >>= fun d => bindA ms rs >>= fun es => (pure (some (.dat d) :: es) : M (List (Option R)))) st1 = .ok es st2 from e)
    obtain ⟨es', s2, e2, z2⟩ := bind_inv z1
    obtain ⟨rfl, rfl⟩ := pure_inv z2
    obtain ⟨F2, b2, x2, d2⟩ := bind1 b r1 e1
    obtain ⟨F3, as3, b3, f3, ⟨new, hn⟩, l1, l2, hh⟩ := bindA_aft b2 (r2.ext b.ok.len x2 fun a ha hb => dj a hb ha) e2
    refine ⟨F3, as3, b3.wide fun a ha => by rw [show ownsA (v :: vs) (r :: rs) = ownA v r ++ ownsA vs rs from rfl, ← List.append_assoc]; exact ha, x2.f.trans f3, ⟨new, hn⟩, congrArg Nat.succ l1, congrArg Nat.succ l2, fun i q hq => ?_⟩
    cases i with
    | zero =>
      have hq : some (some (R.dat d)) = some (some q) := hq
      cases hq
      exact ⟨v, rfl, .inl ⟨d, rfl, d2.mono f3⟩⟩
    | succ i => exact hh i q hq
  | true :: ms, _, .cell c :: rs, es, ow, F1, as1, st1, st2, b, ro, e => by
    cases ro with
    | @cons v _ vs _ r1 r2 dj =>
    obtain ⟨es', s2, e2, z2⟩ := bind_inv (show (bindA ms rs >>= fun es => (pure (some (.cell c) :: es) : M (List (Option R)))) st1 = .ok es st2 from e)
    obtain ⟨rfl, rfl⟩ := pure_inv z2
    obtain ⟨F3, as3, b3, f3, ⟨new, hn⟩, l1, l2, hh⟩ := bindA_aft b r2 e2
    refine ⟨F3, as3, b3.wide fun a ha => ?_, f3, ⟨new, hn⟩, congrArg Nat.succ l1, congrArg Nat.succ l2, fun i q hq => ?_⟩
    · rcases List.mem_append.mp ha with ha | ha
      · exact List.mem_append_left _ ha
      · exact List.mem_append_right _ (List.mem_append_right _ ha)
    cases i with
    | zero =>
      have hq : some (some (R.cell c)) = some (some q) := hq
      cases hq
      cases r1 with
      | @cell a _ h =>
        refine ⟨_, rfl, .inr ⟨c, a, rfl, rfl, ?_⟩⟩
        rw [hn, List.getElem?_append_left (List.getElem?_eq_some_iff.mp h).1]
        exact h
    | succ i => exact hh i q hq
  | true :: ms, _, .own d :: rs, es, ow, F1, as1, st1, st2, b, ro, e => by
    cases ro with
    | @cons v _ vs _ r1 r2 dj =>
    obtain ⟨es', s2, e2, z2⟩ := bind_inv (show (bindA ms rs >>= fun es => (pure (some (.cell st1.length) :: es) : M (List (Option R)))) (st1 ++ [⟨d, true⟩]) = .ok es st2 from e)
    obtain ⟨rfl, rfl⟩ := pure_inv z2
    cases r1 with
    | @own a _ f c nm =>
    obtain ⟨F3, as3, b3, f3, ⟨new, hn⟩, l1, l2, hh⟩ := bindA_aft (b.al f c nm) (r2.more fun x hx z => dj a (by simp [ownA]) (z ▸ hx)) e2
    refine ⟨F3, as3, b3.wide fun x hx => ?_, f3, ⟨a :: new, by rw [hn]; simp⟩, congrArg Nat.succ l1, congrArg Nat.succ l2, fun i q hq => ?_⟩
    · rw [show ownsA (.ref a :: vs) (.own d :: rs) = [a] ++ ownsA vs rs from rfl, ← List.append_assoc]
      exact hx
    cases i with
    | zero =>
      have hq : some (some (R.cell st1.length)) = some (some q) := hq
      cases hq
      refine ⟨_, rfl, .inr ⟨_, a, rfl, rfl, ?_⟩⟩
      rw [hn, List.getElem?_append_left (by rw [List.length_append, b.ok.len]; exact Nat.lt_succ_self _), ← b.ok.len, List.getElem?_append_right (Nat.le_refl _), Nat.sub_self]
      rfl
    | succ i => exact hh i q hq
  | true :: ms, _, .dat d :: rs, es, ow, F1, as1, st1, st2, b, ro, e => (no_inv e).elim
/-! ### a call's end -/
theorem StOk.cut {new : List Addr} (k : StOk K F H (as ++ new) st) : StOk K F H as (st.take as.length) := by
  have hl := k.len
  rw [List.length_append] at hl
  refine ⟨k.sub, by rw [List.length_take]; omega, fun c a d h1 h2 => ?_, fun c a d h1 h2 => ?_⟩
  · have hc := (List.getElem?_eq_some_iff.mp h1).1
    rw [List.getElem?_take_of_lt hc] at h2
    obtain ⟨f, c1, u⟩ := k.live c a d (by rw [List.getElem?_append_left hc]; exact h1) h2
    exact ⟨f, c1, fun c' h' => u c' (by rw [List.getElem?_append_left (List.getElem?_eq_some_iff.mp h').1]; exact h')⟩
  · have hc := (List.getElem?_eq_some_iff.mp h1).1
    rw [List.getElem?_take_of_lt hc] at h2
    exact k.froz c a d (by rw [List.getElem?_append_left hc]; exact h1) h2
theorem end_ext {ow as1 as2 : List Addr} {F1 F2 H2 : Hp} {st1 st2 : Sto} (b : BindR K F H as st ow F1 as1 st1) (x : Ext [] as1 F1 H st1 as2 F2 H2 st2) : Ext ow as F H st as F2 H2 (st2.take st.length) := by
  refine ⟨⟨[], by simp, fun _ z => nomatch z⟩, b.f.trans x.f, x.k, fun c o hc n no => ?_, fun c d hc h => ?_, ?_⟩
  · have n1 : NL as1 st1 c := by
      intro m d' hm ha
      obtain ⟨new, rfl, hn⟩ := b.pre
      by_cases hlt : m < as.length
      · rw [List.getElem?_append_left hlt] at ha
        obtain ⟨d0, h0⟩ := b.l m d' (by rw [← b.hl]; exact hlt) hm
        exact n m d0 h0 ha
      · rw [List.getElem?_append_right (by omega)] at ha
        exact no (hn c (List.mem_of_getElem? ha))
    obtain ⟨h1, h2⟩ := x.h c o hc n1 fun z => nomatch z
    exact ⟨h1, fun z => h2 (b.ff c o hc n no z)⟩
  · rw [List.getElem?_take_of_lt hc] at h
    obtain ⟨d0, h0⟩ := x.l c d (Nat.lt_of_lt_of_le hc b.g) h
    exact b.l c d0 hc h0
  · rw [List.length_take]
    have := b.g
    have := x.g
    omega
theorem endFn_ok {new : List Addr} {v : V} {r r' : R} {n : Nat} (hn : n = as.length) (k : StOk K F H (as ++ new) st) (ro : ROk K F H (as ++ new) v r) (e : endFn n r st = .ok r' st') :
    st' = st.take as.length ∧ ROk K F H as v r' ∧ ∀ a ∈ ownA v r', a ∈ ownA v r ∨ a ∈ new := by
  subst hn
  cases ro with
  | @dat v d h =>
    have e : (Res.ok (R.dat d) (st.take as.length) : Res R) = .ok r' st' := e
    cases e
    exact ⟨rfl, .dat h, fun a ha => .inl ha⟩
  | @own a d f c nm =>
    have e : (Res.ok (R.own d) (st.take as.length) : Res R) = .ok r' st' := e
    cases e
    exact ⟨rfl, .own f c fun z => nm (List.mem_append_left _ z), fun a ha => .inl ha⟩
  | @cell a c h =>
    have e : (if c < as.length then (.ok (.cell c) (st.take as.length) : Res R) else match st[c]? with
      | some ⟨d, true⟩ => .ok (.own d) (st.take as.length)
      | some ⟨d, false⟩ => .ok (.dat d) (st.take as.length)
      | none => .no) = .ok r' st' := e
    by_cases hc : c < as.length
    · rw [if_pos hc] at e
      cases e
      rw [List.getElem?_append_left hc] at h
      exact ⟨rfl, .cell h, fun a ha => by cases ha⟩
    · rw [if_neg hc] at e
      split at e
      · rename_i d q
        cases e
        obtain ⟨f, c1, u⟩ := k.live c a d h q
        refine ⟨rfl, .own f c1 fun z => ?_, fun x hx => .inr ?_⟩
        · obtain ⟨j, hj⟩ := List.getElem?_of_mem z
          have hlt := (List.getElem?_eq_some_iff.mp hj).1
          have := u j (by rw [List.getElem?_append_left hlt]; exact hj)
          omega
        · have : x = a := List.mem_singleton.mp hx
          subst this
          rw [List.getElem?_append_right (by omega)] at h
          exact List.mem_of_getElem? h
      · rename_i d q
        cases e
        exact ⟨rfl, .dat (k.froz c a d h q).1, fun x hx => by cases hx⟩
      · cases e
end
/-! ### functions -/
theorem map_get {ds : List Dn} {id : Nat} {x : Str} {d : Dn} (h : ds[id]? = some d) (e : (ds.map (·.x))[id]? = some x) : x = d.x := by
  rw [List.getElem?_map, h] at e
  exact (Option.some.inj e).symm
theorem good_ok {P : Program} {w : World} {K : PySem.W.Frag} {mg : Str → Option Value} {ds : List Dn} {gls : List (Str × D)} (W : Wo K mg ds gls) : ∀ (k id : Nat) (f : Fn), GoodF ds gls k id f →
    ∃ d fa fd, ds[id]? = some d ∧ mg d.x = some (.ref fa) ∧ PySem.W.keepIn K (.ref fa) = true ∧ Binds K fd d.ps [] ∧ ((d.x = "law" → ∀ (s : Shared) (us : List Value), us.length = d.ps.length → BindsTo s fd ⟨us, []⟩ (d.ps.zip us)) ∧ ∀ q ∈ d.kws, ∃ dv du, KBn K fd d.ps q.n q.ks (gP q.perm du) (gP q.perm dv) ∧ ∀ F, DsOk K F dv q.dd) ∧ ∀ base : Heap, FnOk P w K mg base CX0 k fa fd d.ps (spF K f) := by
  intro k
  induction k with
  | zero =>
    intro id f g
    cases f with
    | mk n ms body => exact g.elim
    | no =>
      obtain ⟨d, hd⟩ := g
      obtain ⟨fa, fd, dvs, kw0, h1, h2, h3, h4⟩ := (W.df d (List.mem_of_getElem? hd)).ex
      have dead : ∀ vs H Q E, ¬ spF K .no vs H Q E := fun vs H Q E h => by
        obtain ⟨as, F, st, rs, r, st', _, _, e, _⟩ := h
        exact (no_inv e).elim
      exact ⟨d, fa, fd, hd, h1, h2.kp, h3, h4, fun base => ⟨fun vs H Q E h => (dead _ _ _ _ h).elim, fun A outer s H args us vs Q E _ _ _ _ h => (dead _ _ _ _ h).elim⟩⟩
  | succ k ih =>
    intro id f g
    cases f with
    | no =>
      obtain ⟨d, hd⟩ := g
      obtain ⟨fa, fd, dvs, kw0, h1, h2, h3, h4⟩ := (W.df d (List.mem_of_getElem? hd)).ex
      have dead : ∀ vs H Q E, ¬ spF K .no vs H Q E := fun vs H Q E h => by
        obtain ⟨as, F, st, rs, r, st', _, _, e, _⟩ := h
        exact (no_inv e).elim
      exact ⟨d, fa, fd, hd, h1, h2.kp, h3, h4, fun base => ⟨fun vs H Q E h => (dead _ _ _ _ h).elim, fun A outer s H args us vs Q E _ _ _ _ h => (dead _ _ _ _ h).elim⟩⟩
    | mk n ms body =>
      obtain ⟨d, hd, hN, hm, hs, ha, hk⟩ := g
      obtain ⟨fa, fd, dvs, kw0, h1, h2, h3, h4⟩ := (W.df d (List.mem_of_getElem? hd)).ex
      refine ⟨d, fa, fd, hd, h1, h2.kp, h3, h4, fun base => ?_⟩
      have S := C8.fnScope_by hs
      refine FunD.ok h2 S (fun vs H Q E h => ?_) fun cdv A outer s H vs Q E hr h => ?_
      · obtain ⟨as, F, st, rs, r, st', ok, ro, e, _⟩ := h
        obtain ⟨es, s1, e1, _⟩ := bind_inv (show (bindA ms rs >>= fun as => evSs body (as ++ List.replicate (n - as.length) none) >>= fun f => flowR f >>= fun r => endFn st.length r) st = .ok r st' from e)
        obtain ⟨_, _, _, _, _, _, l2, _⟩ := bindA_aft (BindR.refl ok) ro e1
        rw [← l2, hm]
      · have so : SOk ⟨d.N, d.scope, none, ds.map (·.x)⟩ (kno ds gls k) k (cxOf CX0 P w K mg base d.N d.x d.scope fa cdv A outer s H E) := by
          refine { N := rfl, nd := S.nd, sc := rfl, calm := rfl, fn := fun _ _ => rfl, room := hr, free := W.free, gl := fun x v hx => W.gl (x, v) hx, call := fun id f x hf hx => ?_, callK := fun id f x n ks dd perm hf hq hx => ?_, kind := S.kind, nb := rfl, own := passes_of rfl }
          · obtain ⟨d', fa', fd', q1, q2, q3, q4, _, q5⟩ := ih id f hf
            exact ⟨fa', fd', d'.ps, by rw [map_get q1 hx]; exact q2, q3, q4, q5 base⟩
          · obtain ⟨d', fa', fd', q1, q2, q3, q4, ⟨_, q6⟩, q5⟩ := ih id f hf
            obtain ⟨d2, w1, w2⟩ := hq
            rw [q1] at w1
            cases w1
            obtain ⟨dv, du, w3, w4⟩ := q6 _ w2
            exact ⟨fa', fd', d'.ps, dv, du, by rw [map_get q1 hx]; exact q2, q3, w3, w4, q5 base⟩
        refine ⟨_, sSs body d.body so hk ha, ?_⟩
        obtain ⟨as, F, st, rs, r, st', ok, ro, e, af⟩ := h
        obtain ⟨es, s1, e1, z1⟩ := bind_inv (show (bindA ms rs >>= fun as => evSs body (as ++ List.replicate (n - as.length) none) >>= fun f => flowR f >>= fun r => endFn st.length r) st = .ok r st' from e)
        obtain ⟨fl, s2, e2, z2⟩ := bind_inv z1
        obtain ⟨r0, s3, e3, z3⟩ := bind_inv z2
        obtain ⟨F1, as1, b1, f1, ⟨new, hn⟩, l1, l2, hh⟩ := bindA_aft (BindR.refl ok) ro e1
        have en : EnvOk K F1 as1 (L2.start d.N vs) (es ++ List.replicate (n - es.length) none) := by
          refine ⟨?_, fun i q hq => ?_⟩
          · unfold L2.start
            rw [List.length_append, List.length_append, List.length_replicate, List.length_replicate, List.length_map, l1, hN]
          · by_cases hi : i < es.length
            · rw [List.getElem?_append_left hi] at hq
              obtain ⟨v, hv, ho⟩ := hh i q hq
              refine ⟨v, ?_, ho⟩
              unfold L2.start
              rw [List.getElem?_append_left (by rw [List.length_map, ← l1]; exact hi), List.getElem?_map, hv]
              rfl
            · rw [List.getElem?_append_right (by omega), List.getElem?_replicate] at hq
              split at hq <;> cases hq
        refine ⟨as1, F1, s1, _, fl, s2, b1.ok, en, e2, fun as2 F2 H2 k2 x2 => ?_⟩
        have fin : ∀ (v : V) (r1 : R), ROk K F2 H2 as2 v r1 → Fresh H v r1 → endFn st.length r1 s2 = .ok r st' → Q v H2 := fun v r1 q1 q2 q3 => by
          obtain ⟨new2, rfl, hn2⟩ := x2.pre
          obtain ⟨new1, hn1, hw1⟩ := b1.pre
          have has : as1 ++ new2 = as ++ (new1 ++ new2) := by rw [hn1, List.append_assoc]
          rw [has] at k2 q1
          obtain ⟨rfl, w1, w2⟩ := endFn_ok ok.len.symm k2 q1 q3
          refine af v F2 H2 k2.cut ?_ w1 fun a ha => ?_
          · have := end_ext b1 x2
            rw [← ok.len] at this
            exact this
          · rcases w2 a ha with w | w
            · refine .inl ?_
              cases r1 with
              | own d0 =>
                cases v with
                | ref a0 =>
                  have : a = a0 := List.mem_singleton.mp w
                  subst this
                  exact q2 _ rfl
                | _ => cases w
              | _ => cases v <;> cases w
            · rcases List.mem_append.mp w with w | w
              · exact .inr (hw1 a w)
              · exact .inl (hn2 a w)
        cases fl with
        | nx env' =>
          obtain ⟨rfl, rfl⟩ := pure_inv (show (pure (R.dat .non) : M R) s2 = .ok r0 s3 from e3)
          exact fun σ' _ => fin .non (.dat .non) (.dat .non) trivial z3
        | rt r1 =>
          obtain ⟨rfl, rfl⟩ := pure_inv (show (pure r1 : M R) s2 = .ok r0 s3 from e3)
          exact fun v q1 q2 => fin v r0 q1 q2 z3
        | bk _ => exact (no_inv e3).elim
        | ct _ => exact (no_inv e3).elim
end DB
set_option maxHeartbeats 4000000
namespace DB
open PySem PySem.Spec L2
section
variable {K : PySem.W.Frag} {x qual : Str} {params : Arguments} {body : List Stmt} {scope : Scope} {kws : List (Str × V)} {f : Addr} {fd : FuncData} {ps ks : List Str} {n : Nat}
theorem Vals.perm {vs : List V} {us : List Value} (h : Vals vs us) : ∀ perm : List Nat, Vals (permL perm vs) (permL perm us)
  | [] => .nil
  | i :: perm => by
    have ih := Vals.perm h perm
    unfold permL at ih ⊢
    rw [List.filterMap_cons, List.filterMap_cons]
    cases q : vs[i]? with
    | none =>
      have : us[i]? = none := by
        rw [List.getElem?_eq_none_iff] at q ⊢
        rw [← h.length]; exact q
      rw [this]
      exact ih
    | some d =>
      obtain ⟨v, hv, dv⟩ := h.get q
      rw [hv]
      exact .cons dv ih
/-- keywords only, no defaults -/
theorem kbn_simple (F : FunD K x qual params body scope [] kws f fd) (n : Nat) (ks : List Str) (perm : List Nat)
    (h : ∀ (kV doc pm : Value) (an : Option Addr) (cdv ct : Value) (us ws : List Value), us.length = n → ws.length = ks.length → bindArgs (PySem.W.fnOf x qual params body scope .none kV doc pm an cdv ct) ⟨us, ks.zip ws⟩ = pure (ps.zip (gP perm [] us ws))) :
    ∃ dv du, KBn K fd ps n ks (gP perm du) (gP perm dv) ∧ ∀ F, DsOk K F dv [] := by
  obtain ⟨oc, od, dV, kV, doc, pm, an, cdv, ct, osl, rfl, lk, hcd, hD, hK⟩ := F.ex
  rcases hD with ⟨_, rfl⟩ | ⟨e, _⟩
  · refine ⟨[], [], ⟨fun s us ws X l1 l2 => .of_eq (h kV doc pm an cdv ct us ws l1 l2), fun r1 r2 => ?_⟩, fun F => .nil⟩
    exact Vals.perm (r1.append (r2.append .nil)) _
  · exact absurd rfl e
end
/-- the law's own def, given the plain law -/
theorem law_sp {K : PySem.W.Frag} {fn : Fn} {n : Nat} (plain : ∀ ns : List Int, ns.length ≤ n → ∃ st', runFn fn [.dat (.scr (ns.map D.int))] [] = .ok (.dat (.bl true)) st') (hn : n ≤ sizeLine) (H : Hp) (a : Addr) (ns : List Int) (hl : ns.length ≤ n) (hS : SqL K H a (ns.map V.int)) :
    spF K fn [.ref a] H (fun v _ => v = .bl true) fun _ _ _ => False := by
  obtain ⟨st', e⟩ := plain ns hl
  have hd : DsOk K H (ns.map V.int) (ns.map D.int) := by
    clear e hl hS
    induction ns with
    | nil => exact .nil
    | cons i ns ih => exact .cons (.int i) ih
  refine ⟨[], H, [], _, _, st', ⟨Same.refl H, rfl, fun c a d h => by simp at h, fun c a d h => by simp at h⟩, .cons (.dat (.scr hS (by rw [List.length_map]; omega) hd)) .nil (fun a ha => by cases ha), e, fun v F' H' k x r _ => ?_⟩
  cases r with
  | dat h =>
    cases h
    rfl
theorem law_of {P : Program} {w : World} {K : PySem.W.Frag} {mg : Str → Option Value} {ds : List Dn} {gls : List (Str × D)} (W : Wo K mg ds gls) {k id : Nat} {f : Fn} {d : Dn} {fa : Addr} (hd : ds[id]? = some d) (hx : d.x = ("law" : Str)) (hps : d.ps = [("script" : Str)]) (hm : mg ("law" : Str) = some (.ref fa)) (g : GoodF ds gls k id f) :
    ∃ fd, (∀ (s : Shared) (u : Value), BindsTo s fd ⟨[u], []⟩ [("script", u)]) ∧ ∀ base, FnOk P w K mg base CX0 k fa fd ["script"] (spF K f) := by
  obtain ⟨d', fa', fd', h1, h2, _, _, h4, h5⟩ := good_ok (P := P) (w := w) W k id f g
  rw [hd] at h1
  cases h1
  rw [hx] at h2
  have e1 := hm.symm.trans h2
  cases e1
  rw [hps] at h4 h5
  exact ⟨fd', fun s u => h4.1 hx s [u] rfl, h5⟩
end DB
set_option maxHeartbeats 4000000
namespace DB
open PySem
section
variable {α β : Type}
theorem bind_ap (m : M α) (f : α → M β) (s : Sto) : (m >>= f) s = (match m s with | .ok a s' => f a s' | .err c d s' => .err c d s' | .no => .no) := rfl
theorem pure_ap (a : α) (s : Sto) : (pure a : M α) s = .ok a s := rfl
theorem opt_some (a : α) (s : Sto) : M.opt (some a) s = .ok a s := rfl
theorem guard_true (s : Sto) : M.guard true s = .ok () s := rfl
theorem use_dat (d : D) (s : Sto) : use (.dat d) s = .ok d s := rfl
theorem use_own (d : D) (s : Sto) : use (.own d) s = .ok d s := rfl
theorem peek_dat (d : D) (s : Sto) : peek (.dat d) s = .ok d s := rfl
theorem peek_own (d : D) (s : Sto) : peek (.own d) s = .ok d s := rfl
theorem peeks_nil (s : Sto) : peeks [] s = .ok [] s := rfl
theorem peeks_cons (r : R) (rs : List R) : peeks (r :: rs) = (peek r >>= fun d => peeks rs >>= fun ds => pure (d :: ds)) := rfl
theorem bindA_nil (s : Sto) : bindA [] [] s = .ok [] s := rfl
theorem bindA_dat (ms : List Bool) (d : D) (rs : List R) (s : Sto) : bindA (false :: ms) (.dat d :: rs) s = (bindA ms rs >>= fun es => (pure (some (.dat d) :: es) : M (List (Option R)))) s := rfl
theorem bindA_own0 (ms : List Bool) (d : D) (rs : List R) (s : Sto) : bindA (false :: ms) (.own d :: rs) s = (bindA ms rs >>= fun es => (pure (some (.dat d) :: es) : M (List (Option R)))) s := rfl
theorem bindA_cell (ms : List Bool) (c : Nat) (rs : List R) (s : Sto) : bindA (true :: ms) (.cell c :: rs) s = (bindA ms rs >>= fun es => (pure (some (.cell c) :: es) : M (List (Option R)))) s := rfl
theorem bindA_own (ms : List Bool) (d : D) (rs : List R) (s : Sto) : bindA (true :: ms) (.own d :: rs) s = (bindA ms rs >>= fun es => (pure (some (.cell s.length) :: es) : M (List (Option R)))) (s ++ [⟨d, true⟩]) := rfl
theorem flowR_rt (r : R) (s : Sto) : flowR (.rt r) s = .ok r s := rfl
theorem flowR_nx (e : Env) (s : Sto) : flowR (.nx e) s = .ok (.dat .non) s := rfl
theorem endFn_dat (d : D) (s : Sto) : endFn s.length (.dat d) s = .ok (.dat d) s := by
  show Res.ok (R.dat d) (s.take s.length) = _
  rw [List.take_length]
theorem endFn_own (d : D) (s : Sto) : endFn s.length (.own d) s = .ok (.own d) s := by
  show Res.ok (R.own d) (s.take s.length) = _
  rw [List.take_length]
theorem endFn_dat' (n : Nat) (d : D) (s : Sto) : endFn n (.dat d) s = .ok (.dat d) (s.take n) := rfl
theorem endFn_own' (n : Nat) (d : D) (s : Sto) : endFn n (.own d) s = .ok (.own d) (s.take n) := rfl
theorem run_ap (n : Nat) (ms : List Bool) (body : Ss) (rs : List R) (s : Sto) : runFn (.mk n ms body) rs s = (bindA ms rs >>= fun as => evSs body (as ++ List.replicate (n - as.length) none) >>= fun f => flowR f >>= fun r => endFn s.length r) s := rfl
theorem evE_compF {tg : Tg} {it : It} {cond : Ts} {elt : E} {env : Env} : evE (.comp tg it cond elt) env = (evIt it env >>= fun ds => compM (compF tg cond elt env) ds >>= fun xs => (pure (R.own (.lst xs)) : M R)) := rfl
theorem compF_ap (tg : Tg) (cond : Ts) (elt : E) (env : Env) (d : D) : compF tg cond elt env d = (evTg tg d (DB.wipe env tg.slots) >>= fun env' => evTAnd cond env' >>= fun b => if b then (evE elt env' >>= fun r => use r >>= fun x => pure (some x)) else pure none) := rfl
theorem compM_pure {f : D → M (Option D)} {p : D → Bool} {g : D → D} {s : Sto} : ∀ {ds : List D}, (∀ d ∈ ds, f d s = .ok (if p d then some (g d) else none) s) → compM f ds s = .ok ((ds.filter p).map g) s
  | [], _ => rfl
  | d :: ds, h => by
    have h1 := h d (List.mem_cons_self ..)
    have ih := compM_pure (ds := ds) fun x hx => h x (List.mem_cons_of_mem _ hx)
    show (f d >>= fun o => match o with | some x => compM f ds >>= fun xs => (pure (x :: xs) : M (List D)) | none => compM f ds) s = _
    rw [bind_ap, h1]
    cases q : p d with
    | true =>
      rw [if_pos rfl]
      show (compM f ds >>= fun xs => (pure (g d :: xs) : M (List D))) s = _
      rw [bind_ap, ih, List.filter_cons, q]
      rfl
    | false =>
      rw [if_neg Bool.false_ne_true]
      show compM f ds s = _
      rw [ih, List.filter_cons, q]
      rfl
theorem compM_all {f : D → M (Option D)} {g : D → D} {s : Sto} {ds : List D} (h : ∀ d ∈ ds, f d s = .ok (some (g d)) s) : compM f ds s = .ok (ds.map g) s := by
  have := compM_pure (p := fun _ => true) (g := g) (f := f) (s := s) (ds := ds) fun d hd => by rw [if_pos rfl]; exact h d hd
  rw [this, List.filter_eq_self.mpr fun _ _ => rfl]
end
theorem blsOf_map {α : Type} (f : α → Bool) : ∀ l : List α, blsOf (l.map fun x => D.bl (f x)) = some (l.map f)
  | [] => rfl
  | a :: l => by
    show (match blsOf (l.map fun x => D.bl (f x)) with | some is => some (f a :: is) | none => none) = _
    rw [blsOf_map f l]
    rfl
def isW : D → Bool
  | .int _ => true
  | _ => false
def isObj : D → Bool
  | .obj _ _ => true
  | _ => false
theorem ite_ap {α : Type} (c : Prop) [Decidable c] (m m' : M α) (s : Sto) : (if c then m else m') s = if c then m s else m' s := by split <;> rfl
theorem join_some (r : R) : (some (some r)).join = some r := rfl
theorem live_ap (c : Nat) (s : Sto) : live (.cell c) s = (match s[c]? with | some ⟨d, true⟩ => .ok (c, d) s | _ => .no) := rfl
theorem live_ok {c : Nat} {s : Sto} {d : D} (h : s[c]? = some ⟨d, true⟩) : live (.cell c) s = .ok (c, d) s := by rw [live_ap, h]
theorem peek_cell {c : Nat} {s : Sto} {d : D} {b : Bool} (h : s[c]? = some ⟨d, b⟩) : peek (.cell c) s = .ok d s := by
  show (match s[c]? with | some ⟨d, _⟩ => Res.ok d s | none => .no) = _
  rw [h]
theorem write_ap (c : Nat) (d : D) (s : Sto) : write c d s = .ok () (s.set c ⟨d, true⟩) := rfl
theorem at_0 (x : D) (xs : List D) : at? (x :: xs) 0 = some x := by
  unfold at? L2.atI L2.ixN
  rw [if_pos (Int.le_refl 0), if_pos (by simp only [List.length_cons]; omega)]
  rfl
theorem at_1 (x y : D) (xs : List D) : at? (x :: y :: xs) 1 = some y := by
  unfold at? L2.atI L2.ixN
  rw [if_pos (by decide), if_pos (by simp only [List.length_cons]; omega)]
  rfl
theorem at_2 (x y z : D) (xs : List D) : at? (x :: y :: z :: xs) 2 = some z := by
  unfold at? L2.atI L2.ixN
  rw [if_pos (by decide), if_pos (by simp only [List.length_cons]; omega)]
  rfl
theorem at_nat {xs : List D} {i : Nat} {d : D} (h : xs[i]? = some d) : at? xs (i : Int) = some d := by
  have hi := (List.getElem?_eq_some_iff.mp h).1
  unfold at? L2.atI L2.ixN
  rw [if_pos (by omega), if_pos (by omega)]
  exact h
theorem set_0 (x y z d : D) : setAt [x, y, z] 0 d = some [d, y, z] := rfl
theorem set_1 (x y z d : D) : setAt [x, y, z] 1 d = some [x, d, z] := rfl
theorem set_2 (x y z d : D) : setAt [x, y, z] 2 d = some [x, y, d] := rfl
theorem get_set {c : Nat} {s : Sto} {d : D} {x : Cel} (h : s[c]? = some ⟨d, true⟩) : (s.set c x)[c]? = some x := List.getElem?_set_self (List.getElem?_eq_some_iff.mp h).1
theorem bl_and (a b : Bool) : (match a with | true => b | false => false) = (a && b) := by cases a <;> rfl
/-- data that a built-in test may meet -/
def isB (d : D) (lo hi : Int) : Bool := match d with
  | .int i => decide (lo ≤ i) && decide (i ≤ hi)
  | _ => false
theorem mulOk_r (i j : Int) (h1 : -18446744073709551616 < j) (h2 : j < 18446744073709551616) : mulOk i j = true := by
  unfold mulOk
  rw [Bool.or_eq_true]
  exact .inr (by rw [Bool.and_eq_true]; exact ⟨decide_eq_true (by omega), decide_eq_true (by omega)⟩)
theorem mulOk_l (i j : Int) (h1 : -18446744073709551616 < i) (h2 : i < 18446744073709551616) : mulOk i j = true := by
  unfold mulOk
  rw [Bool.or_eq_true]
  exact .inl (by rw [Bool.and_eq_true]; exact ⟨decide_eq_true (by omega), decide_eq_true (by omega)⟩)
theorem pow15 : powOk 10 15 = true := by decide
theorem pow60 : powOk 10 60 = true := by decide
theorem abs4000 {a : Int} (h : 0 ≤ a) (h2 : a < 10 ^ 60) : a.natAbs < 2 ^ 4000 := by
  have : a.natAbs < 10 ^ 60 := by omega
  exact Nat.lt_of_lt_of_le this (by
    calc 10 ^ 60 ≤ 16 ^ 60 := Nat.pow_le_pow_left (by decide) 60
      _ = 2 ^ 240 := by rw [show (16 : Nat) = 2 ^ 4 from rfl, ← Nat.pow_mul]
      _ ≤ 2 ^ 4000 := Nat.pow_le_pow_right (by decide) (by decide))
theorem endFn_set (d : D) (s : Sto) (c : Nat) (x : Cel) : endFn s.length (.dat d) (s.set c x) = .ok (.dat d) (s.set c x) := by
  show Res.ok (R.dat d) ((s.set c x).take s.length) = _
  rw [List.take_of_length_le (by rw [List.length_set]; exact Nat.le_refl _)]
theorem endFn_setO (d : D) (s : Sto) (c : Nat) (x : Cel) : endFn s.length (.own d) (s.set c x) = .ok (.own d) (s.set c x) := by
  show Res.ok (R.own d) ((s.set c x).take s.length) = _
  rw [List.take_of_length_le (by rw [List.length_set]; exact Nat.le_refl _)]
theorem mulOk_mod (x k y : Int) (h1 : 0 < k) (h2 : k < 18446744073709551616) : mulOk (x % k) y = true :=
  mulOk_l _ _ (by have := Int.emod_nonneg x (show k ≠ 0 by omega); omega) (by have := Int.emod_lt_of_pos x h1; omega)
theorem store1_dat (m : Bool) (i : Nat) (d : D) (env : Env) : store1 m i (.dat d) env = (pure (env.set i (some (.dat d))) : M Env) := rfl
theorem store1_cell (m : Bool) (i : Nat) (c : Nat) (env : Env) : store1 m i (.cell c) env = (pure (env.set i (some (.cell c))) : M Env) := rfl
theorem store1_own0 (i : Nat) (d : D) (env : Env) : store1 false i (.own d) env = (pure (env.set i (some (.dat d))) : M Env) := rfl
theorem store1_own1 (i : Nat) (d : D) (env : Env) (s : Sto) : store1 true i (.own d) env s = .ok (env.set i (some (.cell s.length))) (s ++ [⟨d, true⟩]) := rfl
def isInt : D → Bool
  | .int _ => true
  | .bl _ => true
  | _ => false
def isBl : D → Bool
  | .bl _ => true
  | _ => false
def isStr : D → Bool
  | .str _ => true
  | _ => false
def isTup : D → Bool
  | .tup _ => true
  | _ => false
def isLst : D → Bool
  | .lst _ => true
  | .scr _ => true
  | _ => false
def isDct : D → Bool
  | .dct _ => true
  | _ => false
theorem ty_obj (d : D) : (tyName d != "object") = !isObj d := by cases d <;> kernel_rfl
theorem ty_int (d : D) : isTy "int" d = isInt d := by cases d <;> kernel_rfl
theorem ty_bool (d : D) : isTy "bool" d = isBl d := by cases d <;> kernel_rfl
theorem ty_str (d : D) : isTy "str" d = isStr d := by cases d <;> kernel_rfl
theorem ty_tuple (d : D) : isTy "tuple" d = isTup d := by cases d <;> kernel_rfl
theorem ty_list (d : D) : isTy "list" d = isLst d := by cases d <;> kernel_rfl
theorem ty_dict (d : D) : isTy "dict" d = isDct d := by cases d <;> kernel_rfl
theorem ite_bool (b : Bool) (s : Sto) : (if b = true then Res.ok true s else Res.ok false s) = Res.ok b s := by cases b <;> rfl
theorem ite_res {α : Type} (c : Prop) [Decidable c] (x y : α) (s : Sto) : (if c then Res.ok x s else Res.ok y s) = Res.ok (if c then x else y) s := by split <;> rfl
theorem ite_tf (b : Bool) : (if b = true then true else false) = b := by cases b <;> rfl
theorem ix_tup (xs : List D) (j : Int) : ixB (.tup xs) (.dat (.int j)) = (M.opt (at? xs j) >>= fun d => (pure (.dat d) : M R)) := rfl
theorem ix_lst (xs : List D) (j : Int) : ixB (.lst xs) (.dat (.int j)) = (M.opt (at? xs j) >>= fun d => (pure (.dat d) : M R)) := rfl
theorem ix_scr (xs : List D) (j : Int) : ixB (.scr xs) (.dat (.int j)) = (M.opt (at? xs j) >>= fun d => (pure (.dat d) : M R)) := rfl
end DB
set_option maxHeartbeats 4000000
namespace DB
open PySem
/-! ### lots: tuples of ints -/
def lotD (l : List Int) : D := .tup (l.map D.int)
def lotP (l : List Int) : PyData := .tuple (l.map PyData.int)
theorem toPs_ints : ∀ l : List Int, D.toPs (l.map D.int) = some (l.map PyData.int)
  | [] => rfl
  | i :: l => by
    show (match D.toP (.int i), D.toPs (l.map D.int) with | some p, some ps => some (p :: ps) | _, _ => none) = _
    rw [toPs_ints l]
    rfl
theorem toP_lot (l : List Int) : (lotD l).toP = some (lotP l) := by
  show (match D.toPs (l.map D.int) with | some ps => some (PyData.tuple ps) | none => none) = _
  rw [toPs_ints]
  rfl
theorem lay_ints : ∀ l : List Int, PyData.canLayAll0 (l.map PyData.int) = true
  | [] => by simp [PyData.canLayAll0]
  | i :: l => by simp [PyData.canLayAll0, PyData.canLay0, lay_ints l]
theorem depth_ints : ∀ l : List Int, PyData.depthAll (l.map PyData.int) = 0
  | [] => by simp [PyData.depthAll]
  | i :: l => by simp [PyData.depthAll, PyData.depth, depth_ints l]
theorem shaped_lot (l : List Int) : SeqAt.shaped (lotP l) = true := by
  unfold SeqAt.shaped lotP
  simp [PyData.canLay0, lay_ints l, PyData.depth, depth_ints l]
theorem eqvAll_ints : ∀ l m : List Int, PyData.eqvAll (l.map PyData.int) (m.map PyData.int) = decide (l = m)
  | [], [] => by simp [PyData.eqvAll]
  | [], _ :: _ => by simp [PyData.eqvAll]
  | _ :: _, [] => by simp [PyData.eqvAll]
  | i :: l, j :: m => by
    simp only [List.map_cons, PyData.eqvAll, PyData.eqv, eqvAll_ints l m, List.cons.injEq]
    by_cases h : i = j <;> by_cases h2 : l = m <;> simp [h, h2]
theorem eqv_lot (l m : List Int) : PyData.eqv (lotP l) (lotP m) = decide (l = m) := by
  unfold lotP
  simp only [PyData.eqv, eqvAll_ints]
theorem deq_lot (l m : List Int) : deq (lotD l) (lotD m) = some (decide (l = m)) := by
  unfold deq
  rw [toP_lot, toP_lot]
  show (if (SeqAt.shaped (lotP l) && SeqAt.shaped (lotP m)) = true then some (PyData.eqv (lotP l) (lotP m)) else none) = _
  rw [shaped_lot, shaped_lot, eqv_lot]
  rfl
theorem toPs_lots : ∀ ls : List (List Int), D.toPs (ls.map lotD) = some (ls.map lotP)
  | [] => rfl
  | l :: ls => by
    show (match D.toP (lotD l), D.toPs (ls.map lotD) with | some p, some ps => some (p :: ps) | _, _ => none) = _
    rw [toP_lot, toPs_lots ls]
    rfl
theorem lay_lots : ∀ ls : List (List Int), PyData.canLayAll0 (ls.map lotP) = true
  | [] => by simp [PyData.canLayAll0]
  | l :: ls => by
    have : PyData.canLay0 (lotP l) = true := by unfold lotP; simp [PyData.canLay0, lay_ints l]
    simp [PyData.canLayAll0, this, lay_lots ls]
theorem depth_lots : ∀ ls : List (List Int), PyData.depthAll (ls.map lotP) ≤ 1
  | [] => by simp [PyData.depthAll]
  | l :: ls => by
    have : PyData.depth (lotP l) = 1 := by unfold lotP; simp [PyData.depth, depth_ints l]
    have ih := depth_lots ls
    simp only [List.map_cons, PyData.depthAll, this]
    omega
theorem shaped_list_lots (ls : List (List Int)) : SeqAt.shaped (.list (ls.map lotP)) = true := by
  unfold SeqAt.shaped
  have := depth_lots ls
  simp [PyData.canLay0, lay_lots ls, PyData.depth]
  omega
theorem din_lot (l : List Int) (ls : List (List Int)) : din (lotD l) (ls.map lotD) = some (decide (l ∈ ls)) := by
  unfold din
  rw [toP_lot, toPs_lots]
  show (if (SeqAt.shaped (lotP l) && SeqAt.shaped (.list (ls.map lotP))) = true then some ((ls.map lotP).any fun q => PyData.eqv q (lotP l)) else none) = _
  rw [shaped_lot, shaped_list_lots]
  rw [Bool.and_self, if_pos rfl]
  congr 1
  rw [List.any_map]
  induction ls with
  | nil => simp
  | cons m ls ih =>
    rw [List.any_cons, ih]
    simp only [Function.comp, eqv_lot]
    by_cases h : m = l
    · subst h; simp
    · have h' : ¬ l = m := fun z => h z.symm
      simp [h, h']
theorem shaped_list_ints (l : List Int) : SeqAt.shaped (.list (l.map PyData.int)) = true := by
  unfold SeqAt.shaped
  simp [PyData.canLay0, lay_ints l, PyData.depth, depth_ints l]
theorem shaped_int (i : Int) : SeqAt.shaped (.int i) = true := by
  unfold SeqAt.shaped
  simp [PyData.canLay0, PyData.depth]
theorem din_int (i : Int) (l : List Int) : din (.int i) (l.map D.int) = some (decide (i ∈ l)) := by
  unfold din
  rw [toPs_ints]
  show (if (SeqAt.shaped (.int i) && SeqAt.shaped (.list (l.map PyData.int))) = true then some ((l.map PyData.int).any fun q => PyData.eqv q (.int i)) else none) = _
  rw [shaped_int, shaped_list_ints]
  rw [Bool.and_self, if_pos rfl]
  congr 1
  rw [List.any_map]
  induction l with
  | nil => simp
  | cons m ls ih =>
    rw [List.any_cons, ih]
    simp only [Function.comp, PyData.eqv]
    by_cases h : m = i
    · subst h; simp
    · have h' : ¬ i = m := fun z => h z.symm
      simp [h, h']
theorem deq_int (i j : Int) : deq (.int i) (.int j) = some (decide (i = j)) := by
  unfold deq
  show (if (SeqAt.shaped (.int i) && SeqAt.shaped (.int j)) = true then some (PyData.eqv (.int i) (.int j)) else none) = _
  rw [shaped_int, shaped_int, Bool.and_self, if_pos rfl]
  congr 1
theorem shaped_bool (b : Bool) : SeqAt.shaped (.bool b) = true := by
  unfold SeqAt.shaped
  simp [PyData.canLay0, PyData.depth]
theorem deq_bl (i j : Bool) : deq (.bl i) (.bl j) = some (i == j) := by
  unfold deq
  show (if (SeqAt.shaped (.bool i) && SeqAt.shaped (.bool j)) = true then some (PyData.eqv (.bool i) (.bool j)) else none) = _
  rw [shaped_bool, shaped_bool]
  simp [PyData.eqv]
/-- a list of ints against the empty list -/
theorem deq_ints_nil (l : List Int) : deq (.lst (l.map D.int)) (.lst []) = some l.isEmpty := by
  unfold deq
  have e : D.toP (.lst (l.map D.int)) = some (.list (l.map PyData.int)) := by
    show (match D.toPs (l.map D.int) with | some ps => some (PyData.list ps) | none => none) = _
    rw [toPs_ints]
  rw [e]
  show (if (SeqAt.shaped (.list (l.map PyData.int)) && SeqAt.shaped (.list [])) = true then some (PyData.eqv (.list (l.map PyData.int)) (.list [])) else none) = _
  rw [shaped_list_ints, show SeqAt.shaped (.list []) = true from shaped_list_ints []]
  rw [Bool.and_self, if_pos rfl]
  congr 1
  cases l <;> simp [PyData.eqv, PyData.eqvAll]
/-- a lot of bars -/
structure Lot (b : Int) (l : List Int) : Prop where
  up : l.Pairwise (· < ·)
  rng : ∀ x ∈ l, 0 ≤ x ∧ x < b
/-- a table -/
structure Tb (mb : Int) (mg : Nat) (b : Int) (ls : List (List Int)) : Prop where
  lo : 1 ≤ b
  hi : b ≤ mb
  two : 2 ≤ ls.length
  most : ls.length ≤ mg
  nd : ls.Nodup
  lot : ∀ l ∈ ls, Lot b l
def tabD (b : Int) (ls : List (List Int)) : D := .tup [.int b, .tup (ls.map lotD)]
theorem rngD_nat : ∀ (n : Nat) (lo : Int), rngD lo n = (List.range n).map fun i : Nat => D.int (lo + (i : Int))
  | 0, _ => rfl
  | n + 1, lo => by
    show D.int lo :: rngD (lo + 1) n = _
    rw [rngD_nat n (lo + 1), List.range_succ_eq_map]
    simp only [List.map_cons, List.map_map]
    congr 1
    · simp
    · apply List.map_congr_left
      intro i _
      simp only [Function.comp]
      congr 1
      omega
theorem set_same {c : Nat} {s : Sto} {x : Cel} (h : s[c]? = some x) : s.set c x = s := by
  apply List.ext_getElem?
  intro i
  by_cases e : c = i
  · subst e
    rw [List.getElem?_set_self (List.getElem?_eq_some_iff.mp h).1, h]
  · rw [List.getElem?_set_ne e]
def PoolOk (p : List D) : Prop := ∃ a b c : Int, p = [.int a, .int b, .int c] ∧ 0 ≤ a ∧ a < 10 ^ 60
theorem compM_nil (f : D → M (Option D)) (s : Sto) : compM f [] s = .ok [] s := rfl
theorem compM_cons (f : D → M (Option D)) (d : D) (ds : List D) : compM f (d :: ds) = (f d >>= fun o => match o with | some x => compM f ds >>= fun xs => (pure (x :: xs) : M (List D)) | none => compM f ds) := rfl
theorem forM_nil (f : D → Env → M Flow) (env : Env) : forM f [] env = (pure (.nx env) : M Flow) := rfl
theorem forM_step (f : D → Env → M Flow) (d : D) (ds : List D) (env : Env) : forM f (d :: ds) env = (f d env >>= fun o => match o with | .nx e => forM f ds e | .ct e => forM f ds e | .bk e => pure (.nx e) | .rt r => (pure (.rt r) : M Flow)) := rfl
/-- a loop's body -/
def forF (t : Tg) (body : Ss) (d : D) (env : Env) : M Flow := evTg t d env >>= fun env' => evSs body env'
theorem forF_ap (t : Tg) (body : Ss) (d : D) (env : Env) : forF t body d env = (evTg t d env >>= fun env' => evSs body env') := rfl
theorem evS_forF {t : Tg} {it : It} {body : Ss} {env : Env} : evS (.for t it body) env = (evIt it env >>= fun ds => forM (forF t body) ds env) := rfl
theorem rngD_succ (lo : Int) (n : Nat) : rngD lo (n + 1) = .int lo :: rngD (lo + 1) n := rfl
theorem rngD_zero (lo : Int) : rngD lo 0 = [] := rfl
theorem million : 1000000 < sizeLine := by decide
theorem len_ok {n : Nat} (h : n ≤ 1000000) : lenOk n = true := decide_eq_true (Nat.le_of_lt (Nat.lt_of_le_of_lt h million))
theorem ixN_nat {n : Nat} {f : Int} (h0 : 0 ≤ f) (h1 : f < n) : L2.ixN n f = some f.toNat := by
  unfold L2.ixN
  rw [if_pos h0, if_pos h1]
theorem erase_perm {α : Type} : ∀ {l : List α} {k : Nat} {y : α}, l[k]? = some y → (y :: l.eraseIdx k).Perm l
  | [], _, _, h => by simp at h
  | a :: l, 0, y, h => by
    have : a = y := by simpa using h
    subst this
    exact List.Perm.refl _
  | a :: l, k + 1, y, h => by
    have h' : l[k]? = some y := by simpa using h
    have ih := erase_perm h'
    exact (List.Perm.swap a y _).trans (List.Perm.cons a ih)
theorem get_ne {s : Sto} {c i : Nat} {x : Cel} (h : c ≠ i) : (s.set c x)[i]? = s[i]? := List.getElem?_set_ne h
theorem perm_map {α β : Type} {f : α → β} : ∀ {l : List α} {ds : List β}, ds.Perm (l.map f) → ∃ l' : List α, ds = l'.map f ∧ l'.Perm l := by
  intro l ds h
  have key : ∀ {a b : List β}, a.Perm b → ∀ l : List α, b = l.map f → ∃ l' : List α, a = l'.map f ∧ l'.Perm l := by
    intro a b h
    induction h with
    | nil => intro l e; exact ⟨[], rfl, by
        have : l = [] := List.map_eq_nil_iff.mp e.symm
        rw [this]⟩
    | cons x _ ih =>
      intro l e
      cases l with
      | nil => cases e
      | cons y l =>
        have e' := List.cons.inj e
        obtain ⟨l', e1, e2⟩ := ih l e'.2
        exact ⟨y :: l', by rw [e1, e'.1]; rfl, e2.cons y⟩
    | swap x y l0 =>
      intro l e
      match l, e with
      | [], e => cases e
      | [_], e => cases e
      | a :: b :: l, e =>
        have e1 := List.cons.inj e
        have e2 := List.cons.inj e1.2
        exact ⟨b :: a :: l, by rw [e1.1, e2.1, e2.2]; rfl, List.Perm.swap a b l⟩
    | trans _ _ ih1 ih2 =>
      intro l e
      obtain ⟨l1, q1, q2⟩ := ih2 l e
      obtain ⟨l2, q3, q4⟩ := ih1 l1 q1
      exact ⟨l2, q3, q4.trans q2⟩
  exact key h l rfl
theorem cut_from1 (xs : List D) : cut xs (some 1) none = xs.drop 1 := by
  unfold cut
  rw [show (some (1 : Int)) = some ((1 : Nat) : Int) from rfl, HT.sIx_nat, HT.sIx_none]
  by_cases h : 1 ≤ xs.length
  · rw [Nat.min_eq_left h, List.take_of_length_le (by rw [List.length_drop]; exact Nat.le_refl _)]
  · have : xs = [] := List.eq_nil_of_length_eq_zero (by omega)
    subst this
    rfl
theorem cut_to (xs : List D) (k : Nat) : cut xs none (some (k : Int)) = xs.take k := by
  unfold cut
  rw [HT.sIx_nat, HT.sIx_none, Nat.sub_zero, List.drop_zero]
  by_cases h : k ≤ xs.length
  · rw [Nat.min_eq_left h]
  · rw [Nat.min_eq_right (by omega), List.take_of_length_le (Nat.le_refl _), List.take_of_length_le (by omega)]
/-- how many can be -/
theorem lot_len {b : Int} : ∀ {l : List Int} {lo : Int}, l.Pairwise (· < ·) → (∀ x ∈ l, lo ≤ x ∧ x < b) → lo ≤ b → (l.length : Int) ≤ b - lo
  | [], lo, _, _, h => by simp only [List.length_nil]; omega
  | x :: l, lo, hp, hr, h => by
    have hx := hr x (List.mem_cons_self ..)
    have hp' := List.pairwise_cons.mp hp
    have ih := lot_len (l := l) (lo := x + 1) hp'.2 (fun y hy => ⟨by have := hp'.1 y hy; omega, (hr y (List.mem_cons_of_mem _ hy)).2⟩) (by omega)
    simp only [List.length_cons]
    omega
theorem Lot.len {b : Int} {l : List Int} (h : Lot b l) (hb : 0 ≤ b) : (l.length : Int) ≤ b := by
  have := lot_len h.up (lo := 0) h.rng hb
  omega
def enumL {α : Type} : Int → List α → List (Int × α)
  | _, [] => []
  | i, a :: as => (i, a) :: enumL (i + 1) as
theorem enumD_map {α : Type} (f : α → D) : ∀ (l : List α) (i : Int), enumD i (l.map f) = (enumL i l).map fun p => .tup [.int p.1, f p.2]
  | [], _ => rfl
  | a :: l, i => by
    show D.tup [.int i, f a] :: enumD (i + 1) (l.map f) = _
    rw [enumD_map f l (i + 1)]
    rfl
theorem zipD_map {α β : Type} (f : α → D) (g : β → D) : ∀ (l : List α) (m : List β), zipD (l.map f) (m.map g) = (l.zip m).map fun p => .tup [f p.1, g p.2]
  | [], _ => by cases ‹List β› <;> rfl
  | _ :: _, [] => rfl
  | a :: l, b :: m => by
    show D.tup [f a, g b] :: zipD (l.map f) (m.map g) = _
    rw [zipD_map f g l m]
    rfl
theorem compM_map {α : Type} {f : D → M (Option D)} {h : α → D} {g : α → D} {s : Sto} {l : List α} (hh : ∀ a ∈ l, f (h a) s = .ok (some (g a)) s) : compM f (l.map h) s = .ok (l.map g) s := by
  induction l with
  | nil => rfl
  | cons a l ih =>
    rw [List.map_cons, compM_cons]
    simp only [bind_ap, hh a (List.mem_cons_self ..), ih fun x hx => hh x (List.mem_cons_of_mem _ hx), pure_ap, List.map_cons]
theorem compM_filt {α : Type} {f : D → M (Option D)} {h : α → D} {g : α → D} {p : α → Bool} {s : Sto} {l : List α} (hh : ∀ a ∈ l, f (h a) s = .ok (if p a then some (g a) else none) s) : compM f (l.map h) s = .ok ((l.filter p).map g) s := by
  induction l with
  | nil => rfl
  | cons a l ih =>
    have ih' := ih fun x hx => hh x (List.mem_cons_of_mem _ hx)
    rw [List.map_cons, compM_cons]
    cases q : p a with
    | true => simp only [bind_ap, hh a (List.mem_cons_self ..), q, if_true, ih', pure_ap, List.filter_cons, List.map_cons]
    | false => simp only [bind_ap, hh a (List.mem_cons_self ..), q, Bool.false_eq_true, if_false, ih', List.filter_cons]
theorem all_zip_rise : ∀ {l : List Int}, l.Pairwise (· < ·) → (l.zip (l.drop 1)).all (fun p => decide (p.1 < p.2)) = true
  | [], _ => rfl
  | [_], _ => rfl
  | a :: b :: l, h => by
    have h1 := List.pairwise_cons.mp h
    have ih := all_zip_rise h1.2
    show (decide (a < b) && ((b :: l).zip ((b :: l).drop 1)).all (fun p => decide (p.1 < p.2))) = true
    rw [ih, Bool.and_true]
    exact decide_eq_true (h1.1 b (List.mem_cons_self ..))
theorem enum_unlike : ∀ (l pre : List (List Int)), (pre ++ l).Nodup → (enumL (pre.length : Int) l).all (fun p => decide (p.2 ∉ (pre ++ l).take p.1.toNat)) = true
  | [], _, _ => rfl
  | a :: l, pre, h => by
    have ih := enum_unlike l (pre ++ [a]) (by rw [List.append_assoc]; exact h)
    have e : ((pre ++ [a]).length : Int) = (pre.length : Int) + 1 := by rw [List.length_append]; simp
    rw [e, List.append_assoc] at ih
    show (decide (a ∉ (pre ++ a :: l).take (pre.length : Int).toNat) && (enumL ((pre.length : Int) + 1) l).all _) = true
    have ih' : (enumL ((pre.length : Int) + 1) l).all (fun p => decide (p.2 ∉ (pre ++ a :: l).take p.1.toNat)) = true := ih
    rw [ih', Bool.and_true, Int.toNat_natCast, List.take_left']
    · refine decide_eq_true fun z => ?_
      have := (List.nodup_append.mp h).2.2 a z a (List.mem_cons_self ..)
      exact this rfl
    · rfl
/-- what two may be compared by the law's own _law_same -/
def nice : Nat → D → Bool
  | 0, _ => false
  | _ + 1, .non => true
  | _ + 1, .bl _ => true
  | _ + 1, .int _ => true
  | _ + 1, .str _ => false
  | n + 1, .tup xs => decide (xs.length ≤ 1000000) && xs.all (nice n)
  | _, _ => false
def seqI (n : Nat) : List Int := (List.range n).map fun i : Nat => (i : Int)
theorem rng_upTo (n : Nat) : rngD 0 n = (seqI n).map D.int := by
  rw [rngD_nat]
  unfold seqI
  rw [List.map_map]
  apply List.map_congr_left
  intro i _
  simp only [Function.comp, Int.zero_add]
theorem mem_upTo {n : Nat} {i : Int} : i ∈ seqI n ↔ 0 ≤ i ∧ i < n := by
  unfold seqI
  rw [List.mem_map]
  constructor
  · rintro ⟨k, hk, rfl⟩
    have := List.mem_range.mp hk
    omega
  · rintro ⟨h1, h2⟩
    exact ⟨i.toNat, List.mem_range.mpr (by omega), by omega⟩
theorem enumL_eq (d0 : List Int) : ∀ (ls : List (List Int)) (k : Int), enumL k ls = (List.range ls.length).map fun i : Nat => (k + (i : Int), ls.getD i d0)
  | [], _ => rfl
  | a :: ls, k => by
    show (k, a) :: enumL (k + 1) ls = _
    rw [enumL_eq d0 ls (k + 1), List.length_cons, List.range_succ_eq_map, List.map_cons, List.map_map]
    congr 1
    · simp
    · apply List.map_congr_left
      intro i _
      simp only [Function.comp, List.getD_cons_succ]
      congr 1
      omega
/-- where it stands -/
def occ (ls : List (List Int)) (l : List Int) : List Int := (seqI ls.length).filter fun i => decide (ls.getD i.toNat [] = l)
theorem occ_enum (ls : List (List Int)) (l : List Int) : ((enumL 0 ls).filter fun p => decide (p.2 = l)).map (fun p => D.int p.1) = (occ ls l).map D.int := by
  rw [enumL_eq []]
  unfold occ seqI
  rw [List.filter_map, List.filter_map, List.map_map, List.map_map]
  have : ((fun p : Int × List Int => decide (p.2 = l)) ∘ fun i : Nat => ((0 : Int) + (i : Int), ls.getD i [])) = ((fun i : Int => decide (ls.getD i.toNat [] = l)) ∘ fun i : Nat => (i : Int)) := by
    funext i
    simp only [Function.comp, Int.toNat_natCast]
  rw [this]
  apply List.map_congr_left
  intro i _
  simp only [Function.comp, Int.zero_add]
def firstD : List Int → D
  | [] => .non
  | i :: _ => .int i
def litL (b : Int) (ls : List (List Int)) : List Int := (seqI b.toNat).filter fun i => (ls.map fun l => decide (i ∈ l)).all id
def darkL (b : Int) (ls : List (List Int)) : List Int := (seqI b.toNat).filter fun i => !(ls.map fun l => decide (i ∈ l)).any id
theorem zip_self : ∀ l : List D, zipD l l = l.map fun x => .tup [x, x]
  | [] => rfl
  | a :: l => congrArg (D.tup [a, a] :: ·) (zip_self l)
theorem ix_tab0 (b : Int) (ls : List (List Int)) : ixB (tabD b ls) (.dat (.int 0)) = (pure (.dat (.int b)) : M R) := rfl
theorem ix_tab1 (b : Int) (ls : List (List Int)) : ixB (tabD b ls) (.dat (.int 1)) = (pure (.dat (.tup (ls.map lotD))) : M R) := rfl
theorem tab_fold (b : Int) (ls : List (List Int)) : D.tup [.int b, .tup (ls.map lotD)] = tabD b ls := rfl
theorem lot_fold (l : List Int) : D.tup (l.map D.int) = lotD l := rfl
theorem nice_lot (n : Nat) (l : List Int) (h : l.length ≤ 1000000) : nice (n + 2) (lotD l) = true := by
  show (decide ((l.map D.int).length ≤ 1000000) && (l.map D.int).all (nice (n + 1))) = true
  rw [List.length_map, Bool.and_eq_true]
  refine ⟨decide_eq_true h, ?_⟩
  rw [List.all_map, List.all_eq_true]
  intro x _
  rfl
theorem nice_lots (n : Nat) (ls : List (List Int)) (h : ls.length ≤ 1000000) (h2 : ∀ l ∈ ls, l.length ≤ 1000000) : nice (n + 3) (.tup (ls.map lotD)) = true := by
  show (decide ((ls.map lotD).length ≤ 1000000) && (ls.map lotD).all (nice (n + 2))) = true
  rw [List.length_map, Bool.and_eq_true]
  refine ⟨decide_eq_true h, ?_⟩
  rw [List.all_map, List.all_eq_true]
  intro l hl
  exact nice_lot n l (h2 l hl)
theorem len_seqI (n : Nat) : (seqI n).length = n := by unfold seqI; rw [List.length_map, List.length_range]
end DB
set_option maxHeartbeats 4000000
namespace K04
open PySem DB
def G_MOST_BARS : D := (.int 12)
def G_LEAST_GLYPHS : D := (.int 2)
def G_MOST_GLYPHS : D := (.int 16)
def tg__law_same_0 (self : Fn) : Tg :=
  (.n 2)
def cd__law_same_0 (self : Fn) : Ts :=
  .nil
def el__law_same_0 (self : Fn) : E :=
  (.and (.cons (.cmp .mem (.v 2) (.v 0)) (.cons (.call self 0 (.cons (.ix (.v 0) (.v 2)) (.cons (.ix (.v 1) (.v 2)) .nil))) .nil)))
def tg__law_same_1 (self : Fn) : Tg :=
  (.t (.cons (.n 3) (.cons (.n 4) .nil)))
def cd__law_same_1 (self : Fn) : Ts :=
  .nil
def el__law_same_1 (self : Fn) : E :=
  (.call self 0 (.cons (.v 3) (.cons (.v 4) .nil)))
def B__law_same (self : Fn) : Ss :=
  (.cons (.iff (.isN false (.v 1)) (.cons (.ret (.isN false (.v 0)))
  .nil) .nil)
  (.cons (.iff (.val (.isI "bool" (.v 1))) (.cons (.ret (.and (.cons (.isI "bool" (.v 0)) (.cons (.cmp .eq (.v 0) (.v 1)) .nil))))
  .nil) .nil)
  (.cons (.iff (.val (.isI "int" (.v 1))) (.cons (.ret (.and (.cons (.isI "int" (.v 0)) (.cons (.not (.isI "bool" (.v 0))) (.cons (.cmp .eq (.v 0) (.v 1)) .nil)))))
  .nil) .nil)
  (.cons (.iff (.val (.isI "str" (.v 1))) (.cons (.ret (.and (.cons (.isI "str" (.v 0)) (.cons (.cmp .eq (.v 0) (.v 1)) .nil))))
  .nil) .nil)
  (.cons (.iff (.val (.isI "dict" (.v 1))) (.cons (.iff (.or (.cons (.not (.val (.isI "dict" (.v 0)))) (.cons (.cmp .ne (.bi .len (.cons (.v 0) .nil)) (.bi .len (.cons (.v 1) .nil))) .nil))) (.cons (.ret (.k (.bl false)))
  .nil) .nil)
  (.cons (.ret (.bi .all (.cons (.comp (tg__law_same_0 self) (.seq (.v 1)) (cd__law_same_0 self) (el__law_same_0 self)) .nil)))
  .nil)) .nil)
  (.cons (.iff (.or (.cons (.cmp .ne (.isI "tuple" (.v 1)) (.isI "tuple" (.v 0))) (.cons (.cmp .ne (.isI "list" (.v 1)) (.isI "list" (.v 0))) .nil))) (.cons (.ret (.k (.bl false)))
  .nil) .nil)
  (.cons (.ret (.and (.cons (.cmp .eq (.bi .len (.cons (.v 0) .nil)) (.bi .len (.cons (.v 1) .nil))) (.cons (.bi .all (.cons (.comp (tg__law_same_1 self) (.zip (.v 0) (.v 1)) (cd__law_same_1 self) (el__law_same_1 self)) .nil)) .nil))))
  .nil)))))))
def F__law_same : Nat → Fn
  | 0 => .no
  | n + 1 => .mk 5 [false, false] (B__law_same (F__law_same n))
def B__law_below : Ss :=
  (.cons (.iff (.cmp .gt (.ix (.v 0) (.k (.int 0))) (.k (.int 0))) (.cons (.asgT (.t (.cons (.ix (.v 0) (.k (.int 0))) (.cons (.n 2) .nil))) (.bi .divmod (.cons (.ix (.v 0) (.k (.int 0))) (.cons (.v 1) .nil))))
  (.cons (.ret (.v 2))
  .nil)) .nil)
  (.cons (.asgT (.ix (.v 0) (.k (.int 2))) (.bin .add (.ix (.v 0) (.k (.int 2))) (.k (.int 1))))
  (.cons (.asg false 3 (.bin .mod (.bi .int (.cons (.bin .add (.bin .add (.bin .mul (.ix (.v 0) (.k (.int 1))) (.k (.int 46605))) (.bin .mul (.k (.int 6623)) (.ix (.v 0) (.k (.int 2))))) (.k (.int 71))) .nil)) (.k (.int 2147483563))))
  (.cons (.asgT (.ix (.v 0) (.k (.int 1))) (.bin .mod (.bi .int (.cons (.bin .add (.bin .mul (.v 3) (.bin .add (.bin .mod (.bi .int (.cons (.v 3) .nil)) (.k (.int 3989))) (.k (.int 18131)))) (.ix (.v 0) (.k (.int 2)))) .nil)) (.k (.int 2147483563))))
  (.cons (.ret (.bin .mod (.bi .int (.cons (.bin .fdiv (.ix (.v 0) (.k (.int 1))) (.k (.int 359))) .nil)) (.v 1)))
  .nil)))))
def F__law_below : Fn := .mk 4 [true, false] B__law_below
def tg__law_lot_0 : Tg :=
  (.n 2)
def cd__law_lot_0 : Ts :=
  (.cons (.cmp .eq (.call F__law_below 1 (.cons (.v 0) (.cons (.k (.int 2)) .nil))) (.k (.int 0))) .nil)
def el__law_lot_0 : E :=
  (.v 2)
def B__law_lot : Ss :=
  (.cons (.ret (.bi .tuple (.cons (.comp (tg__law_lot_0) (.rng (.cons (.v 1) .nil)) (cd__law_lot_0) (el__law_lot_0)) .nil)))
  .nil)
def F__law_lot : Fn := .mk 3 [true, false] B__law_lot
def ft__law_order_0 : Tg :=
  (.n 4)
def fb__law_order_0 : Ss :=
  (.cons (.ex (.mth .append (.v 3) (.cons (.mth .popi (.v 2) (.cons (.call F__law_below 1 (.cons (.v 0) (.cons (.bi .len (.cons (.v 2) .nil)) .nil))) .nil)) .nil)))
  .nil)
def B__law_order : Ss :=
  (.cons (.par [(2, true), (3, true)] (.cons (.bi .list (.cons (.v 1) .nil)) (.cons (.lst .nil) .nil)))
  (.cons (.for (ft__law_order_0) (.rng (.cons (.bi .len (.cons (.v 2) .nil)) .nil)) (fb__law_order_0))
  (.cons (.ret (.bi .tuple (.cons (.v 3) .nil)))
  .nil)))
def F__law_order : Fn := .mk 5 [true, false] B__law_order
def ft__law_table_0 : Tg :=
  (.n 5)
def fb__law_table_0 : Ss :=
  (.cons (.asg false 6 (.call F__law_lot 2 (.cons (.v 0) (.cons (.v 3) .nil))))
  (.cons (.asg false 4 (.bin .add (.v 4) (.ite (.cmp .nmem (.v 6) (.v 4)) (.lst (.cons (.v 6) .nil)) (.lst .nil))))
  .nil))
def ft__law_table_1 : Tg :=
  (.n 6)
def fb__law_table_1 : Ss :=
  (.cons (.asg false 4 (.bin .add (.v 4) (.ite (.and (.cons (.cmp .nmem (.v 6) (.v 4)) (.cons (.cmp .lt (.bi .len (.cons (.v 4) .nil)) (.k (.int 2))) .nil))) (.lst (.cons (.v 6) .nil)) (.lst .nil))))
  .nil)
def B__law_table : Ss :=
  (.cons (.par [(3, false), (4, false)] (.cons (.bin .add (.k (.int 1)) (.call F__law_below 1 (.cons (.v 0) (.cons (.v 1) .nil)))) (.cons (.lst .nil) .nil)))
  (.cons (.for (ft__law_table_0) (.rng (.cons (.bin .add (.k (.int 2)) (.call F__law_below 1 (.cons (.v 0) (.cons (.bin .sub (.v 2) (.k (.int 1))) .nil)))) .nil)) (fb__law_table_0))
  (.cons (.for (ft__law_table_1) (.seq (.tup (.cons (.tup (.cons (.k (.int 0)) .nil)) (.cons (.tup .nil) .nil)))) (fb__law_table_1))
  (.cons (.ret (.tup (.cons (.v 3) (.cons (.call F__law_order 3 (.cons (.v 0) (.cons (.v 4) .nil))) .nil))))
  .nil))))
def F__law_table : Fn := .mk 7 [true, false, false] B__law_table
def B_is_tuple_up_to : Ss :=
  (.cons (.ret (.and (.cons (.isI "tuple" (.v 0)) (.cons (.chain .le .le (.v 1) (.bi .len (.cons (.v 0) .nil)) (.v 2)) .nil))))
  .nil)
def F_is_tuple_up_to : Fn := .mk 3 [false, false, false] B_is_tuple_up_to
def tg_are_unlike_0 : Tg :=
  (.t (.cons (.n 1) (.cons (.n 2) .nil)))
def cd_are_unlike_0 : Ts :=
  .nil
def el_are_unlike_0 : E :=
  (.cmp .nmem (.v 2) (.sl (.v 0) .nil (.cons (.v 1) .nil)))
def B_are_unlike : Ss :=
  (.cons (.ret (.bi .all (.cons (.comp (tg_are_unlike_0) (.enum (.v 0)) (cd_are_unlike_0) (el_are_unlike_0)) .nil)))
  .nil)
def F_are_unlike : Fn := .mk 3 [false] B_are_unlike
def B_is_tuple_of : Ss :=
  (.cons (.ret (.call F_is_tuple_up_to 5 (.cons (.v 0) (.cons (.v 1) (.cons (.v 1) .nil)))))
  .nil)
def F_is_tuple_of : Fn := .mk 2 [false, false] B_is_tuple_of
def B_is_pair : Ss :=
  (.cons (.ret (.call F_is_tuple_of 7 (.cons (.v 0) (.cons (.k (.int 2)) .nil))))
  .nil)
def F_is_pair : Fn := .mk 1 [false] B_is_pair
def B_is_whole : Ss :=
  (.cons (.ret (.and (.cons (.isI "int" (.v 0)) (.cons (.not (.isI "bool" (.v 0))) .nil))))
  .nil)
def F_is_whole : Fn := .mk 1 [false] B_is_whole
def B_is_between : Ss :=
  (.cons (.ret (.and (.cons (.call F_is_whole 9 (.cons (.v 0) .nil)) (.cons (.chain .le .le (.v 1) (.v 0) (.v 2)) .nil))))
  .nil)
def F_is_between : Fn := .mk 3 [false, false, false] B_is_between
def tg_are_rising_0 : Tg :=
  (.t (.cons (.n 1) (.cons (.n 2) .nil)))
def cd_are_rising_0 : Ts :=
  .nil
def el_are_rising_0 : E :=
  (.cmp .lt (.v 1) (.v 2))
def B_are_rising : Ss :=
  (.cons (.ret (.bi .all (.cons (.comp (tg_are_rising_0) (.zip (.v 0) (.sl (.v 0) (.cons (.k (.int 1)) .nil) .nil)) (cd_are_rising_0) (el_are_rising_0)) .nil)))
  .nil)
def F_are_rising : Fn := .mk 3 [false] B_are_rising
def B_is_up_to : Ss :=
  (.cons (.ret (.call F_is_between 10 (.cons (.v 0) (.cons (.k (.int 0)) (.cons (.v 1) .nil)))))
  .nil)
def F_is_up_to : Fn := .mk 2 [false, false] B_is_up_to
def tg_is_lot_of_0 : Tg :=
  (.n 2)
def cd_is_lot_of_0 : Ts :=
  .nil
def el_is_lot_of_0 : E :=
  (.call F_is_up_to 12 (.cons (.v 2) (.cons (.bin .sub (.v 0) (.k (.int 1))) .nil)))
def B_is_lot_of : Ss :=
  (.cons (.iff (.or (.cons (.not (.val (.call F_is_tuple_up_to 5 (.cons (.v 1) (.cons (.k (.int 0)) (.cons (.v 0) .nil)))))) (.cons (.not (.val (.bi .all (.cons (.comp (tg_is_lot_of_0) (.seq (.v 1)) (cd_is_lot_of_0) (el_is_lot_of_0)) .nil)))) .nil))) (.cons (.ret (.k (.bl false)))
  .nil) .nil)
  (.cons (.ret (.call F_are_rising 11 (.cons (.v 1) .nil)))
  .nil))
def F_is_lot_of : Fn := .mk 3 [false, false] B_is_lot_of
def tg_is_table_of_0 : Tg :=
  (.n 1)
def cd_is_table_of_0 : Ts :=
  .nil
def el_is_table_of_0 : E :=
  (.call F_is_lot_of 13 (.cons (.ix (.v 0) (.k (.int 0))) (.cons (.v 1) .nil)))
def B_is_table_of : Ss :=
  (.cons (.iff (.or (.cons (.not (.val (.call F_is_pair 8 (.cons (.v 0) .nil)))) (.cons (.not (.val (.call F_is_between 10 (.cons (.ix (.v 0) (.k (.int 0))) (.cons (.k (.int 1)) (.cons (.glob "MOST_BARS" G_MOST_BARS) .nil)))))) .nil))) (.cons (.ret (.k (.bl false)))
  .nil) .nil)
  (.cons (.iff (.not (.val (.call F_is_tuple_up_to 5 (.cons (.ix (.v 0) (.k (.int 1))) (.cons (.glob "LEAST_GLYPHS" G_LEAST_GLYPHS) (.cons (.glob "MOST_GLYPHS" G_MOST_GLYPHS) .nil)))))) (.cons (.ret (.k (.bl false)))
  .nil) .nil)
  (.cons (.ret (.and (.cons (.bi .all (.cons (.comp (tg_is_table_of_0) (.seq (.ix (.v 0) (.k (.int 1)))) (cd_is_table_of_0) (el_is_table_of_0)) .nil)) (.cons (.call F_are_unlike 6 (.cons (.ix (.v 0) (.k (.int 1))) .nil)) .nil))))
  .nil)))
def F_is_table_of : Fn := .mk 2 [false] B_is_table_of
def B_check_table : Ss :=
  (.cons (.iff (.not (.val (.call F_is_table_of 14 (.cons (.v 0) .nil)))) (.cons .rai
  .nil) .nil)
  .nil)
def F_check_table : Fn := .mk 1 [false] B_check_table
def B_glyphs_of : Ss :=
  (.cons (.ret (.ix (.v 0) (.k (.int 1))))
  .nil)
def F_glyphs_of : Fn := .mk 1 [false] B_glyphs_of
def tg_digit_by_0 : Tg :=
  (.t (.cons (.n 3) (.cons (.n 4) .nil)))
def cd_digit_by_0 : Ts :=
  (.cons (.cmp .eq (.v 4) (.v 1)) .nil)
def el_digit_by_0 : E :=
  (.v 3)
def B_digit_by : Ss :=
  (.cons (.asg false 2 (.comp (tg_digit_by_0) (.enum (.call F_glyphs_of 16 (.cons (.v 0) .nil))) (cd_digit_by_0) (el_digit_by_0)))
  (.cons (.ret (.ite (.cmp .ne (.v 2) (.lst .nil)) (.ix (.v 2) (.k (.int 0))) (.k .non)))
  .nil))
def F_digit_by : Fn := .mk 5 [false, false] B_digit_by
def B_digit_of : Ss :=
  (.cons (.ex (.call F_check_table 15 (.cons (.v 0) .nil)))
  (.cons (.iff (.not (.val (.call F_is_lot_of 13 (.cons (.ix (.v 0) (.k (.int 0))) (.cons (.v 1) .nil))))) (.cons .rai
  .nil) .nil)
  (.cons (.ret (.call F_digit_by 17 (.cons (.v 0) (.cons (.v 1) .nil))))
  .nil)))
def F_digit_of : Fn := .mk 2 [false, false] B_digit_of
def B_bars_of : Ss :=
  (.cons (.ret (.ix (.v 0) (.k (.int 0))))
  .nil)
def F_bars_of : Fn := .mk 1 [false] B_bars_of
def tg_missing_bars_0 : Tg :=
  (.n 2)
def cd_missing_bars_0 : Ts :=
  .nil
def el_missing_bars_0 : E :=
  (.cmp .mem (.v 1) (.v 2))
def tg_missing_bars_1 : Tg :=
  (.n 1)
def cd_missing_bars_1 : Ts :=
  (.cons (.not (.val (.bi .any (.cons (.comp (tg_missing_bars_0) (.seq (.call F_glyphs_of 16 (.cons (.v 0) .nil))) (cd_missing_bars_0) (el_missing_bars_0)) .nil)))) .nil)
def el_missing_bars_1 : E :=
  (.v 1)
def B_missing_bars : Ss :=
  (.cons (.ret (.bi .tuple (.cons (.comp (tg_missing_bars_1) (.rng (.cons (.call F_bars_of 19 (.cons (.v 0) .nil)) .nil)) (cd_missing_bars_1) (el_missing_bars_1)) .nil)))
  .nil)
def F_missing_bars : Fn := .mk 3 [false] B_missing_bars
def B_always_dark : Ss :=
  (.cons (.ex (.call F_check_table 15 (.cons (.v 0) .nil)))
  (.cons (.ret (.call F_missing_bars 20 (.cons (.v 0) .nil)))
  .nil))
def F_always_dark : Fn := .mk 1 [false] B_always_dark
def tg_common_bars_0 : Tg :=
  (.n 2)
def cd_common_bars_0 : Ts :=
  .nil
def el_common_bars_0 : E :=
  (.cmp .mem (.v 1) (.v 2))
def tg_common_bars_1 : Tg :=
  (.n 1)
def cd_common_bars_1 : Ts :=
  (.cons (.val (.bi .all (.cons (.comp (tg_common_bars_0) (.seq (.call F_glyphs_of 16 (.cons (.v 0) .nil))) (cd_common_bars_0) (el_common_bars_0)) .nil))) .nil)
def el_common_bars_1 : E :=
  (.v 1)
def B_common_bars : Ss :=
  (.cons (.ret (.bi .tuple (.cons (.comp (tg_common_bars_1) (.rng (.cons (.call F_bars_of 19 (.cons (.v 0) .nil)) .nil)) (cd_common_bars_1) (el_common_bars_1)) .nil)))
  .nil)
def F_common_bars : Fn := .mk 3 [false] B_common_bars
def B_always_lit : Ss :=
  (.cons (.ex (.call F_check_table 15 (.cons (.v 0) .nil)))
  (.cons (.ret (.call F_common_bars 22 (.cons (.v 0) .nil)))
  .nil))
def F_always_lit : Fn := .mk 1 [false] B_always_lit
def tg__law_right_0 : Tg :=
  (.n 5)
def cd__law_right_0 : Ts :=
  .nil
def el__law_right_0 : E :=
  (.bin .add (.v 5) (.k (.int 1)))
def tg__law_right_1 : Tg :=
  (.n 4)
def cd__law_right_1 : Ts :=
  .nil
def el__law_right_1 : E :=
  (.bin .add (.tup (.cons (.k (.int 0)) .nil)) (.bi .tuple (.cons (.comp (tg__law_right_0) (.seq (.v 4)) (cd__law_right_0) (el__law_right_0)) .nil)))
def tg__law_right_2 : Tg :=
  (.n 6)
def cd__law_right_2 : Ts :=
  .nil
def el__law_right_2 : E :=
  (.call F__law_lot 2 (.cons (.v 0) (.cons (.ix (.v 2) (.k (.int 0))) .nil)))
def tg__law_right_3 : Tg :=
  (.n 8)
def cd__law_right_3 : Ts :=
  (.cons (.cmp .eq (.ix (.ix (.v 2) (.k (.int 1))) (.v 8)) (.v 4)) .nil)
def el__law_right_3 : E :=
  (.v 8)
def ft__law_right_4 : Tg :=
  (.n 4)
def fb__law_right_4 : Ss :=
  (.cons (.asg false 7 (.comp (tg__law_right_3) (.rng (.cons (.bi .len (.cons (.ix (.v 2) (.k (.int 1))) .nil)) .nil)) (cd__law_right_3) (el__law_right_3)))
  (.cons (.iff (.not (.val (.call (F__law_same 12) 0 (.cons (.ite (.cmp .eq (.v 1) (.k (.int 1))) (.callK F_digit_of 18 0 ["glyph", "table"] [] [1, 0] .nil (.cons (.v 4) (.cons (.v 2) .nil))) (.call F_digit_of 18 (.cons (.v 2) (.cons (.v 4) .nil)))) (.cons (.ite (.cmp .ne (.v 7) (.lst .nil)) (.ix (.v 7) (.k (.int 0))) (.k .non)) .nil))))) (.cons (.ret (.k (.bl false)))
  .nil) .nil)
  .nil))
def tg__law_right_5 : Tg :=
  (.n 4)
def cd__law_right_5 : Ts :=
  .nil
def el__law_right_5 : E :=
  (.cmp .mem (.v 5) (.v 4))
def tg__law_right_6 : Tg :=
  (.n 5)
def cd__law_right_6 : Ts :=
  (.cons (.val (.bi .all (.cons (.comp (tg__law_right_5) (.seq (.ix (.v 2) (.k (.int 1)))) (cd__law_right_5) (el__law_right_5)) .nil))) .nil)
def el__law_right_6 : E :=
  (.v 5)
def tg__law_right_7 : Tg :=
  (.n 4)
def cd__law_right_7 : Ts :=
  .nil
def el__law_right_7 : E :=
  (.cmp .mem (.v 5) (.v 4))
def tg__law_right_8 : Tg :=
  (.n 5)
def cd__law_right_8 : Ts :=
  (.cons (.not (.val (.bi .any (.cons (.comp (tg__law_right_7) (.seq (.ix (.v 2) (.k (.int 1)))) (cd__law_right_7) (el__law_right_7)) .nil)))) .nil)
def el__law_right_8 : E :=
  (.v 5)
def ft__law_right_9 : Tg :=
  (.n 1)
def fb__law_right_9 : Ss :=
  (.cons (.asg false 2 (.call F__law_table 4 (.cons (.v 0) (.cons (.k (.int 12)) (.cons (.k (.int 16)) .nil)))))
  (.cons (.iff (.cmp .eq (.bin .mod (.bi .int (.cons (.v 1) .nil)) (.k (.int 4))) (.k (.int 3))) (.cons (.asg false 3 (.bi .tuple (.cons (.comp (tg__law_right_1) (.seq (.ix (.v 2) (.k (.int 1)))) (cd__law_right_1) (el__law_right_1)) .nil)))
  (.cons (.asg false 2 (.ite (.cmp .lt (.ix (.v 2) (.k (.int 0))) (.k (.int 11))) (.tup (.cons (.bi .min (.cons (.k (.int 12)) (.cons (.bin .add (.ix (.v 2) (.k (.int 0))) (.k (.int 2))) .nil))) (.cons (.v 3) .nil))) (.v 2)))
  .nil)) .nil)
  (.cons (.for (ft__law_right_4) (.seq (.bin .add (.ix (.v 2) (.k (.int 1))) (.bi .tuple (.cons (.comp (tg__law_right_2) (.rng (.cons (.k (.int 6)) .nil)) (cd__law_right_2) (el__law_right_2)) .nil)))) (fb__law_right_4))
  (.cons (.asg false 9 (.bi .tuple (.cons (.comp (tg__law_right_6) (.rng (.cons (.ix (.v 2) (.k (.int 0))) .nil)) (cd__law_right_6) (el__law_right_6)) .nil)))
  (.cons (.asg false 10 (.bi .tuple (.cons (.comp (tg__law_right_8) (.rng (.cons (.ix (.v 2) (.k (.int 0))) .nil)) (cd__law_right_8) (el__law_right_8)) .nil)))
  (.cons (.asg false 11 (.ite (.cmp .eq (.v 1) (.k (.int 1))) (.tup (.cons (.callK F_always_lit 23 0 ["table"] [] [0] .nil (.cons (.v 2) .nil)) (.cons (.callK F_always_dark 21 0 ["table"] [] [0] .nil (.cons (.v 2) .nil)) .nil))) (.tup (.cons (.call F_always_lit 23 (.cons (.v 2) .nil)) (.cons (.call F_always_dark 21 (.cons (.v 2) .nil)) .nil)))))
  (.cons (.iff (.not (.val (.call (F__law_same 12) 0 (.cons (.v 11) (.cons (.tup (.cons (.v 9) (.cons (.v 10) .nil))) .nil))))) (.cons (.ret (.k (.bl false)))
  .nil) .nil)
  .nil)))))))
def B__law_right : Ss :=
  (.cons (.for (ft__law_right_9) (.rng (.cons (.k (.int 20)) .nil)) (fb__law_right_9))
  (.cons (.ret (.call (F__law_same 12) 0 (.cons (.tup (.cons (.call F_digit_of 18 (.cons (.tup (.cons (.k (.int 3)) (.cons (.tup (.cons (.tup .nil) (.cons (.tup (.cons (.k (.int 0)) (.cons (.k (.int 1)) .nil))) (.cons (.tup (.cons (.k (.int 1)) (.cons (.k (.int 2)) .nil))) .nil)))) .nil))) (.cons (.tup (.cons (.k (.int 0)) .nil)) .nil))) (.cons (.call F_always_dark 21 (.cons (.tup (.cons (.k (.int 2)) (.cons (.tup (.cons (.tup .nil) (.cons (.tup (.cons (.k (.int 1)) .nil)) .nil))) .nil))) .nil)) .nil))) (.cons (.tup (.cons (.k .non) (.cons (.tup (.cons (.k (.int 0)) .nil)) .nil))) .nil))))
  .nil))
def F__law_right : Fn := .mk 12 [true] B__law_right
def ft__law_pool_0 : Tg :=
  (.n 4)
def fb__law_pool_0 : Ss :=
  (.cons (.asg false 3 (.bin .mod (.bi .int (.cons (.bin .add (.bin .add (.bin .mul (.v 3) (.k (.int 51465))) (.bin .mod (.bi .int (.cons (.v 4) .nil)) (.k (.int 2147483587)))) (.k (.int 83))) .nil)) (.k (.int 2147483647))))
  .nil)
def B__law_pool : Ss :=
  (.cons (.asg false 2 (.ite (.cmp .lt (.v 1) (.bi .len (.cons (.v 0) .nil))) (.bi .int (.cons (.ix (.v 0) (.v 1)) .nil)) (.bin .add (.bin .mul (.k (.int 4491)) (.v 1)) (.k (.int 859)))))
  (.cons (.asg false 3 (.bin .add (.k (.int 89939)) (.bin .mul (.k (.int 6823)) (.v 1))))
  (.cons (.for (ft__law_pool_0) (.seq (.sl (.v 0) .nil (.cons (.k (.int 12)) .nil))) (fb__law_pool_0))
  (.cons (.asg false 3 (.bin .mod (.bi .int (.cons (.bin .add (.bin .add (.bin .mul (.v 3) (.k (.int 69))) (.bin .mul (.bin .mod (.bi .int (.cons (.v 2) .nil)) (.k (.int 2147483587))) (.k (.int 19353)))) (.k (.int 11))) .nil)) (.k (.int 2147483647))))
  (.cons (.ret (.lst (.cons (.ite (.or (.cons (.cmp .lt (.v 2) (.k (.int 0))) (.cons (.cmp .ge (.v 2) (.bin .pow (.k (.int 10)) (.k (.int 15)))) .nil))) (.bin .mod (.bi .int (.cons (.bi .abs (.cons (.v 2) .nil)) .nil)) (.bin .pow (.k (.int 10)) (.k (.int 60)))) (.k (.int 0))) (.cons (.v 3) (.cons (.k (.int 0)) .nil)))))
  .nil)))))
def F__law_pool : Fn := .mk 5 [false, false] B__law_pool
def tg_law_0 : Tg :=
  (.n 1)
def cd_law_0 : Ts :=
  .nil
def el_law_0 : E :=
  (.call F__law_right 24 (.cons (.call F__law_pool 25 (.cons (.v 0) (.cons (.v 1) .nil))) .nil))
def B_law : Ss :=
  (.cons (.ret (.bi .all (.cons (.comp (tg_law_0) (.rng (.cons (.bi .max (.cons (.k (.int 1)) (.cons (.bi .min (.cons (.bi .len (.cons (.v 0) .nil)) (.cons (.k (.int 2)) .nil))) .nil))) .nil)) (cd_law_0) (el_law_0)) .nil)))
  .nil)
def F_law : Fn := .mk 2 [false] B_law
end K04
set_option maxHeartbeats 4000000
namespace K04
open PySem DB
theorem is_whole (d : D) (h : isObj d = false) (st : Sto) : runFn F_is_whole [.dat d] st = .ok (.dat (.bl (isW d))) st := by
  have : endFn st.length (.dat (.bl (isW d))) st = .ok (.dat (.bl (isW d))) st := endFn_dat _ _
  rw [← this]
  cases d with
  | obj _ _ => cases h
  | _ => kernel_rfl
theorem is_between (d : D) (lo hi : Int) (h : isObj d = false) (st : Sto) : runFn F_is_between [.dat d, .dat (.int lo), .dat (.int hi)] st = .ok (.dat (.bl (isB d lo hi))) st := by
  simp only [run_ap, bindA_dat, bindA_own0, bindA_cell, bindA_own, bindA_nil, bind_ap, pure_ap, opt_some, guard_true, use_dat, use_own, peek_dat, peek_own, peeks_nil, peeks_cons, flowR_rt, flowR_nx, endFn_dat, endFn_own, evE_k, evE_v, evE_glob, evE_bin, evE_neg, evE_cmp, evE_chain, evE_isN, evE_and, evE_or, evE_not, evE_ite, evE_tup, evE_lst, evE_ix, evE_sl, evE_isI, evE_call, evE_callK, evE_bi, evE_mth, evEs_nil, evEs_cons, evDs_nil, evDs_cons, evPart_nil, evPart_cons, evAnd_nil, evAnd_cons, evOr_nil, evOr_cons, evT_val, evT_and, evT_or, evT_not, evT_cmp, evT_chain, evT_isN, evTAnd_nil, evTAnd_cons, evTOr_nil, evTOr_cons, evIt_seq, evIt_rng, evIt_enum, evIt_zip, evTg_n, evTg_t, evTg_ix, evTgs_nil, evTgs_cons, evS_asg, evS_asgT, evS_par, evS_ex, evS_ret, evS_retN, evS_iff, evS_forF, evS_whl, evS_rai, evS_pass, evS_brk, evS_cont, evSs_nil, evSs_cons, evE_compF, ite_ap, join_some, bltn, arg1, arg2, lenB, allB, anyB, intB, absB, minB, maxB, tupB, lstB, dmB, binop, cmpop, ix_tup, ix_lst, ix_scr, slB, truth, itemsOf, rngB, store1_dat, store1_cell, store1_own0, store1_own1, parM, ixSet, mthB, ty_obj, ty_int, ty_bool, ty_str, ty_tuple, ty_list, ty_dict, isObj, isInt, isBl, isStr, isTup, isLst, isDct, write_ap, at_0, at_1, at_2, set_0, set_1, set_2, List.length_cons, List.length_nil, List.replicate, List.append_nil, List.cons_append, List.nil_append, List.getElem?_cons_zero, List.getElem?_cons_succ, List.set_cons_zero, List.set_cons_succ, Nat.sub_self, Nat.reduceAdd, Nat.reduceSub, if_true, if_false, Bool.false_eq_true, Bool.not_true, Bool.not_false, Tg.slots, Tgs.slots, wipe, decide_true, decide_false, Bool.and_true, Bool.true_and, Bool.and_false, Bool.false_and, mulOk_r, mulOk_l, pow15, pow60, Int.reduceLT, Int.reduceNeg, endFn_set, endFn_setO, mulOk_mod, deq_int, din_int, din_lot, deq_lot, deq_bl, permL, List.filterMap_cons, List.filterMap_nil, List.map_cons, List.map_nil, beq_self_eq_true, isTupD, ite_bool, ite_tf, ix_tab0, ix_tab1, F_is_between, B_is_between, is_whole d h]
  cases d with
  | obj _ _ => cases h
  | int i =>
    simp only [run_ap, bindA_dat, bindA_own0, bindA_cell, bindA_own, bindA_nil, bind_ap, pure_ap, opt_some, guard_true, use_dat, use_own, peek_dat, peek_own, peeks_nil, peeks_cons, flowR_rt, flowR_nx, endFn_dat, endFn_own, evE_k, evE_v, evE_glob, evE_bin, evE_neg, evE_cmp, evE_chain, evE_isN, evE_and, evE_or, evE_not, evE_ite, evE_tup, evE_lst, evE_ix, evE_sl, evE_isI, evE_call, evE_callK, evE_bi, evE_mth, evEs_nil, evEs_cons, evDs_nil, evDs_cons, evPart_nil, evPart_cons, evAnd_nil, evAnd_cons, evOr_nil, evOr_cons, evT_val, evT_and, evT_or, evT_not, evT_cmp, evT_chain, evT_isN, evTAnd_nil, evTAnd_cons, evTOr_nil, evTOr_cons, evIt_seq, evIt_rng, evIt_enum, evIt_zip, evTg_n, evTg_t, evTg_ix, evTgs_nil, evTgs_cons, evS_asg, evS_asgT, evS_par, evS_ex, evS_ret, evS_retN, evS_iff, evS_forF, evS_whl, evS_rai, evS_pass, evS_brk, evS_cont, evSs_nil, evSs_cons, evE_compF, ite_ap, join_some, bltn, arg1, arg2, lenB, allB, anyB, intB, absB, minB, maxB, tupB, lstB, dmB, binop, cmpop, ix_tup, ix_lst, ix_scr, slB, truth, itemsOf, rngB, store1_dat, store1_cell, store1_own0, store1_own1, parM, ixSet, mthB, ty_obj, ty_int, ty_bool, ty_str, ty_tuple, ty_list, ty_dict, isObj, isInt, isBl, isStr, isTup, isLst, isDct, write_ap, at_0, at_1, at_2, set_0, set_1, set_2, List.length_cons, List.length_nil, List.replicate, List.append_nil, List.cons_append, List.nil_append, List.getElem?_cons_zero, List.getElem?_cons_succ, List.set_cons_zero, List.set_cons_succ, Nat.sub_self, Nat.reduceAdd, Nat.reduceSub, if_true, if_false, Bool.false_eq_true, Bool.not_true, Bool.not_false, Tg.slots, Tgs.slots, wipe, decide_true, decide_false, Bool.and_true, Bool.true_and, Bool.and_false, Bool.false_and, mulOk_r, mulOk_l, pow15, pow60, Int.reduceLT, Int.reduceNeg, endFn_set, endFn_setO, mulOk_mod, deq_int, din_int, din_lot, deq_lot, deq_bl, permL, List.filterMap_cons, List.filterMap_nil, List.map_cons, List.map_nil, beq_self_eq_true, isTupD, ite_bool, ite_tf, ix_tab0, ix_tab1, isW, isB]
    by_cases h1 : lo ≤ i <;> by_cases h2 : i ≤ hi <;> simp only [run_ap, bindA_dat, bindA_own0, bindA_cell, bindA_own, bindA_nil, bind_ap, pure_ap, opt_some, guard_true, use_dat, use_own, peek_dat, peek_own, peeks_nil, peeks_cons, flowR_rt, flowR_nx, endFn_dat, endFn_own, evE_k, evE_v, evE_glob, evE_bin, evE_neg, evE_cmp, evE_chain, evE_isN, evE_and, evE_or, evE_not, evE_ite, evE_tup, evE_lst, evE_ix, evE_sl, evE_isI, evE_call, evE_callK, evE_bi, evE_mth, evEs_nil, evEs_cons, evDs_nil, evDs_cons, evPart_nil, evPart_cons, evAnd_nil, evAnd_cons, evOr_nil, evOr_cons, evT_val, evT_and, evT_or, evT_not, evT_cmp, evT_chain, evT_isN, evTAnd_nil, evTAnd_cons, evTOr_nil, evTOr_cons, evIt_seq, evIt_rng, evIt_enum, evIt_zip, evTg_n, evTg_t, evTg_ix, evTgs_nil, evTgs_cons, evS_asg, evS_asgT, evS_par, evS_ex, evS_ret, evS_retN, evS_iff, evS_forF, evS_whl, evS_rai, evS_pass, evS_brk, evS_cont, evSs_nil, evSs_cons, evE_compF, ite_ap, join_some, bltn, arg1, arg2, lenB, allB, anyB, intB, absB, minB, maxB, tupB, lstB, dmB, binop, cmpop, ix_tup, ix_lst, ix_scr, slB, truth, itemsOf, rngB, store1_dat, store1_cell, store1_own0, store1_own1, parM, ixSet, mthB, ty_obj, ty_int, ty_bool, ty_str, ty_tuple, ty_list, ty_dict, isObj, isInt, isBl, isStr, isTup, isLst, isDct, write_ap, at_0, at_1, at_2, set_0, set_1, set_2, List.length_cons, List.length_nil, List.replicate, List.append_nil, List.cons_append, List.nil_append, List.getElem?_cons_zero, List.getElem?_cons_succ, List.set_cons_zero, List.set_cons_succ, Nat.sub_self, Nat.reduceAdd, Nat.reduceSub, if_true, if_false, Bool.false_eq_true, Bool.not_true, Bool.not_false, Tg.slots, Tgs.slots, wipe, decide_true, decide_false, Bool.and_true, Bool.true_and, Bool.and_false, Bool.false_and, mulOk_r, mulOk_l, pow15, pow60, Int.reduceLT, Int.reduceNeg, endFn_set, endFn_setO, mulOk_mod, deq_int, din_int, din_lot, deq_lot, deq_bl, permL, List.filterMap_cons, List.filterMap_nil, List.map_cons, List.map_nil, beq_self_eq_true, isTupD, ite_bool, ite_tf, ix_tab0, ix_tab1, h1, h2, decide_true, decide_false, Bool.and_true, Bool.and_false, Bool.true_and, Bool.false_and]
  | _ => simp only [run_ap, bindA_dat, bindA_own0, bindA_cell, bindA_own, bindA_nil, bind_ap, pure_ap, opt_some, guard_true, use_dat, use_own, peek_dat, peek_own, peeks_nil, peeks_cons, flowR_rt, flowR_nx, endFn_dat, endFn_own, evE_k, evE_v, evE_glob, evE_bin, evE_neg, evE_cmp, evE_chain, evE_isN, evE_and, evE_or, evE_not, evE_ite, evE_tup, evE_lst, evE_ix, evE_sl, evE_isI, evE_call, evE_callK, evE_bi, evE_mth, evEs_nil, evEs_cons, evDs_nil, evDs_cons, evPart_nil, evPart_cons, evAnd_nil, evAnd_cons, evOr_nil, evOr_cons, evT_val, evT_and, evT_or, evT_not, evT_cmp, evT_chain, evT_isN, evTAnd_nil, evTAnd_cons, evTOr_nil, evTOr_cons, evIt_seq, evIt_rng, evIt_enum, evIt_zip, evTg_n, evTg_t, evTg_ix, evTgs_nil, evTgs_cons, evS_asg, evS_asgT, evS_par, evS_ex, evS_ret, evS_retN, evS_iff, evS_forF, evS_whl, evS_rai, evS_pass, evS_brk, evS_cont, evSs_nil, evSs_cons, evE_compF, ite_ap, join_some, bltn, arg1, arg2, lenB, allB, anyB, intB, absB, minB, maxB, tupB, lstB, dmB, binop, cmpop, ix_tup, ix_lst, ix_scr, slB, truth, itemsOf, rngB, store1_dat, store1_cell, store1_own0, store1_own1, parM, ixSet, mthB, ty_obj, ty_int, ty_bool, ty_str, ty_tuple, ty_list, ty_dict, isObj, isInt, isBl, isStr, isTup, isLst, isDct, write_ap, at_0, at_1, at_2, set_0, set_1, set_2, List.length_cons, List.length_nil, List.replicate, List.append_nil, List.cons_append, List.nil_append, List.getElem?_cons_zero, List.getElem?_cons_succ, List.set_cons_zero, List.set_cons_succ, Nat.sub_self, Nat.reduceAdd, Nat.reduceSub, if_true, if_false, Bool.false_eq_true, Bool.not_true, Bool.not_false, Tg.slots, Tgs.slots, wipe, decide_true, decide_false, Bool.and_true, Bool.true_and, Bool.and_false, Bool.false_and, mulOk_r, mulOk_l, pow15, pow60, Int.reduceLT, Int.reduceNeg, endFn_set, endFn_setO, mulOk_mod, deq_int, din_int, din_lot, deq_lot, deq_bl, permL, List.filterMap_cons, List.filterMap_nil, List.map_cons, List.map_nil, beq_self_eq_true, isTupD, ite_bool, ite_tf, ix_tab0, ix_tab1, isW, isB]
theorem below (c : Nat) (p : List D) (m : Int) (st : Sto) (hp : PoolOk p) (hm : 0 < m) (hc : st[c]? = some ⟨.lst p, true⟩) : ∃ f p', 0 ≤ f ∧ f < m ∧ PoolOk p' ∧ runFn F__law_below [.cell c, .dat (.int m)] st = .ok (.dat (.int f)) (st.set c ⟨.lst p', true⟩) := by
  obtain ⟨a, b, e, rfl, h0, h1⟩ := hp
  have hcl : ∀ x, (st.set c x)[c]? = some x := fun x => get_set hc
  have hpk : ∀ d, peek (.cell c) (st.set c ⟨d, true⟩) = .ok d (st.set c ⟨d, true⟩) := fun d => peek_cell (hcl _)
  have hlv : ∀ d, live (.cell c) (st.set c ⟨d, true⟩) = .ok (c, d) (st.set c ⟨d, true⟩) := fun d => live_ok (hcl _)
  have hln : ∀ x : Cel, (st.set c x).length = st.length := fun x => List.length_set
  by_cases ha : 0 < a
  · have h4 := abs4000 h0 h1
    simp only [run_ap, bindA_dat, bindA_own0, bindA_cell, bindA_own, bindA_nil, bind_ap, pure_ap, opt_some, guard_true, use_dat, use_own, peek_dat, peek_own, peeks_nil, peeks_cons, flowR_rt, flowR_nx, endFn_dat, endFn_own, evE_k, evE_v, evE_glob, evE_bin, evE_neg, evE_cmp, evE_chain, evE_isN, evE_and, evE_or, evE_not, evE_ite, evE_tup, evE_lst, evE_ix, evE_sl, evE_isI, evE_call, evE_callK, evE_bi, evE_mth, evEs_nil, evEs_cons, evDs_nil, evDs_cons, evPart_nil, evPart_cons, evAnd_nil, evAnd_cons, evOr_nil, evOr_cons, evT_val, evT_and, evT_or, evT_not, evT_cmp, evT_chain, evT_isN, evTAnd_nil, evTAnd_cons, evTOr_nil, evTOr_cons, evIt_seq, evIt_rng, evIt_enum, evIt_zip, evTg_n, evTg_t, evTg_ix, evTgs_nil, evTgs_cons, evS_asg, evS_asgT, evS_par, evS_ex, evS_ret, evS_retN, evS_iff, evS_forF, evS_whl, evS_rai, evS_pass, evS_brk, evS_cont, evSs_nil, evSs_cons, evE_compF, ite_ap, join_some, bltn, arg1, arg2, lenB, allB, anyB, intB, absB, minB, maxB, tupB, lstB, dmB, binop, cmpop, ix_tup, ix_lst, ix_scr, slB, truth, itemsOf, rngB, store1_dat, store1_cell, store1_own0, store1_own1, parM, ixSet, mthB, ty_obj, ty_int, ty_bool, ty_str, ty_tuple, ty_list, ty_dict, isObj, isInt, isBl, isStr, isTup, isLst, isDct, write_ap, at_0, at_1, at_2, set_0, set_1, set_2, List.length_cons, List.length_nil, List.replicate, List.append_nil, List.cons_append, List.nil_append, List.getElem?_cons_zero, List.getElem?_cons_succ, List.set_cons_zero, List.set_cons_succ, Nat.sub_self, Nat.reduceAdd, Nat.reduceSub, if_true, if_false, Bool.false_eq_true, Bool.not_true, Bool.not_false, Tg.slots, Tgs.slots, wipe, decide_true, decide_false, Bool.and_true, Bool.true_and, Bool.and_false, Bool.false_and, mulOk_r, mulOk_l, pow15, pow60, Int.reduceLT, Int.reduceNeg, endFn_set, endFn_setO, mulOk_mod, deq_int, din_int, din_lot, deq_lot, deq_bl, permL, List.filterMap_cons, List.filterMap_nil, List.map_cons, List.map_nil, beq_self_eq_true, isTupD, ite_bool, ite_tf, ix_tab0, ix_tab1, F__law_below, B__law_below, peek_cell hc, live_ok hc, ha, hm, h4]
    refine ⟨a % m, [.int (a / m), .int b, .int e], Int.emod_nonneg _ (by omega), Int.emod_lt_of_pos _ hm, ⟨_, _, _, rfl, Int.ediv_nonneg h0 (by omega), ?_⟩, ?_⟩
    · exact Int.lt_of_le_of_lt (Int.ediv_le_self _ h0) h1
    · rfl
  · simp only [run_ap, bindA_dat, bindA_own0, bindA_cell, bindA_own, bindA_nil, bind_ap, pure_ap, opt_some, guard_true, use_dat, use_own, peek_dat, peek_own, peeks_nil, peeks_cons, flowR_rt, flowR_nx, endFn_dat, endFn_own, evE_k, evE_v, evE_glob, evE_bin, evE_neg, evE_cmp, evE_chain, evE_isN, evE_and, evE_or, evE_not, evE_ite, evE_tup, evE_lst, evE_ix, evE_sl, evE_isI, evE_call, evE_callK, evE_bi, evE_mth, evEs_nil, evEs_cons, evDs_nil, evDs_cons, evPart_nil, evPart_cons, evAnd_nil, evAnd_cons, evOr_nil, evOr_cons, evT_val, evT_and, evT_or, evT_not, evT_cmp, evT_chain, evT_isN, evTAnd_nil, evTAnd_cons, evTOr_nil, evTOr_cons, evIt_seq, evIt_rng, evIt_enum, evIt_zip, evTg_n, evTg_t, evTg_ix, evTgs_nil, evTgs_cons, evS_asg, evS_asgT, evS_par, evS_ex, evS_ret, evS_retN, evS_iff, evS_forF, evS_whl, evS_rai, evS_pass, evS_brk, evS_cont, evSs_nil, evSs_cons, evE_compF, ite_ap, join_some, bltn, arg1, arg2, lenB, allB, anyB, intB, absB, minB, maxB, tupB, lstB, dmB, binop, cmpop, ix_tup, ix_lst, ix_scr, slB, truth, itemsOf, rngB, store1_dat, store1_cell, store1_own0, store1_own1, parM, ixSet, mthB, ty_obj, ty_int, ty_bool, ty_str, ty_tuple, ty_list, ty_dict, isObj, isInt, isBl, isStr, isTup, isLst, isDct, write_ap, at_0, at_1, at_2, set_0, set_1, set_2, List.length_cons, List.length_nil, List.replicate, List.append_nil, List.cons_append, List.nil_append, List.getElem?_cons_zero, List.getElem?_cons_succ, List.set_cons_zero, List.set_cons_succ, Nat.sub_self, Nat.reduceAdd, Nat.reduceSub, if_true, if_false, Bool.false_eq_true, Bool.not_true, Bool.not_false, Tg.slots, Tgs.slots, wipe, decide_true, decide_false, Bool.and_true, Bool.true_and, Bool.and_false, Bool.false_and, mulOk_r, mulOk_l, pow15, pow60, Int.reduceLT, Int.reduceNeg, endFn_set, endFn_setO, mulOk_mod, deq_int, din_int, din_lot, deq_lot, deq_bl, permL, List.filterMap_cons, List.filterMap_nil, List.map_cons, List.map_nil, beq_self_eq_true, isTupD, ite_bool, ite_tf, ix_tab0, ix_tab1, F__law_below, B__law_below, peek_cell hc, live_ok hc, ha, hm, hpk, hlv, List.set_set]
    exact ⟨_, _, Int.emod_nonneg _ (by omega), Int.emod_lt_of_pos _ hm, ⟨_, _, _, rfl, h0, h1⟩, rfl⟩
theorem lot_run (c : Nat) (bars : Int) (n : Nat) : ∀ (lo : Int) (p : List D) (st : Sto), PoolOk p → st[c]? = some ⟨.lst p, true⟩ → ∃ (l : List Int) (p' : List D), l.Pairwise (· < ·) ∧ (∀ x ∈ l, lo ≤ x ∧ x < lo + n) ∧ PoolOk p' ∧
    compM (compF tg__law_lot_0 cd__law_lot_0 el__law_lot_0 [some (.cell c), some (.dat (.int bars)), none]) (rngD lo n) st = .ok (l.map D.int) (st.set c ⟨.lst p', true⟩) := by
  induction n with
  | zero =>
    intro lo p st hp hc
    exact ⟨[], p, .nil, by simp, hp, by rw [set_same hc]; rfl⟩
  | succ n ih =>
    intro lo p st hp hc
    obtain ⟨f, p1, f0, f1, hp1, e1⟩ := below c p 2 st hp (by decide) hc
    obtain ⟨l, p2, l1, l2, hp2, e2⟩ := ih (lo + 1) p1 (st.set c ⟨.lst p1, true⟩) hp1 (get_set hc)
    rw [List.set_set] at e2
    by_cases hf : f = 0
    · refine ⟨lo :: l, p2, List.pairwise_cons.mpr ⟨fun x hx => by have := l2 x hx; omega, l1⟩, fun x hx => ?_, hp2, ?_⟩
      · rcases List.mem_cons.mp hx with rfl | hx
        · omega
        · have := l2 x hx; omega
      · have e3 : compF tg__law_lot_0 cd__law_lot_0 el__law_lot_0 [some (.cell c), some (.dat (.int bars)), none] (.int lo) st = .ok (some (.int lo)) (st.set c ⟨.lst p1, true⟩) := by
          simp only [run_ap, bindA_dat, bindA_own0, bindA_cell, bindA_own, bindA_nil, bind_ap, pure_ap, opt_some, guard_true, use_dat, use_own, peek_dat, peek_own, peeks_nil, peeks_cons, flowR_rt, flowR_nx, endFn_dat, endFn_own, evE_k, evE_v, evE_glob, evE_bin, evE_neg, evE_cmp, evE_chain, evE_isN, evE_and, evE_or, evE_not, evE_ite, evE_tup, evE_lst, evE_ix, evE_sl, evE_isI, evE_call, evE_callK, evE_bi, evE_mth, evEs_nil, evEs_cons, evDs_nil, evDs_cons, evPart_nil, evPart_cons, evAnd_nil, evAnd_cons, evOr_nil, evOr_cons, evT_val, evT_and, evT_or, evT_not, evT_cmp, evT_chain, evT_isN, evTAnd_nil, evTAnd_cons, evTOr_nil, evTOr_cons, evIt_seq, evIt_rng, evIt_enum, evIt_zip, evTg_n, evTg_t, evTg_ix, evTgs_nil, evTgs_cons, evS_asg, evS_asgT, evS_par, evS_ex, evS_ret, evS_retN, evS_iff, evS_forF, evS_whl, evS_rai, evS_pass, evS_brk, evS_cont, evSs_nil, evSs_cons, evE_compF, ite_ap, join_some, bltn, arg1, arg2, lenB, allB, anyB, intB, absB, minB, maxB, tupB, lstB, dmB, binop, cmpop, ix_tup, ix_lst, ix_scr, slB, truth, itemsOf, rngB, store1_dat, store1_cell, store1_own0, store1_own1, parM, ixSet, mthB, ty_obj, ty_int, ty_bool, ty_str, ty_tuple, ty_list, ty_dict, isObj, isInt, isBl, isStr, isTup, isLst, isDct, write_ap, at_0, at_1, at_2, set_0, set_1, set_2, List.length_cons, List.length_nil, List.replicate, List.append_nil, List.cons_append, List.nil_append, List.getElem?_cons_zero, List.getElem?_cons_succ, List.set_cons_zero, List.set_cons_succ, Nat.sub_self, Nat.reduceAdd, Nat.reduceSub, if_true, if_false, Bool.false_eq_true, Bool.not_true, Bool.not_false, Tg.slots, Tgs.slots, wipe, decide_true, decide_false, Bool.and_true, Bool.true_and, Bool.and_false, Bool.false_and, mulOk_r, mulOk_l, pow15, pow60, Int.reduceLT, Int.reduceNeg, endFn_set, endFn_setO, mulOk_mod, deq_int, din_int, din_lot, deq_lot, deq_bl, permL, List.filterMap_cons, List.filterMap_nil, List.map_cons, List.map_nil, beq_self_eq_true, isTupD, ite_bool, ite_tf, ix_tab0, ix_tab1, compF_ap, tg__law_lot_0, cd__law_lot_0, el__law_lot_0, e1, hf]
        simp only [rngD_succ, compM_cons, bind_ap, e3, e2, pure_ap, List.map_cons]
    · refine ⟨l, p2, l1, fun x hx => by have := l2 x hx; omega, hp2, ?_⟩
      have e3 : compF tg__law_lot_0 cd__law_lot_0 el__law_lot_0 [some (.cell c), some (.dat (.int bars)), none] (.int lo) st = .ok none (st.set c ⟨.lst p1, true⟩) := by
        simp only [run_ap, bindA_dat, bindA_own0, bindA_cell, bindA_own, bindA_nil, bind_ap, pure_ap, opt_some, guard_true, use_dat, use_own, peek_dat, peek_own, peeks_nil, peeks_cons, flowR_rt, flowR_nx, endFn_dat, endFn_own, evE_k, evE_v, evE_glob, evE_bin, evE_neg, evE_cmp, evE_chain, evE_isN, evE_and, evE_or, evE_not, evE_ite, evE_tup, evE_lst, evE_ix, evE_sl, evE_isI, evE_call, evE_callK, evE_bi, evE_mth, evEs_nil, evEs_cons, evDs_nil, evDs_cons, evPart_nil, evPart_cons, evAnd_nil, evAnd_cons, evOr_nil, evOr_cons, evT_val, evT_and, evT_or, evT_not, evT_cmp, evT_chain, evT_isN, evTAnd_nil, evTAnd_cons, evTOr_nil, evTOr_cons, evIt_seq, evIt_rng, evIt_enum, evIt_zip, evTg_n, evTg_t, evTg_ix, evTgs_nil, evTgs_cons, evS_asg, evS_asgT, evS_par, evS_ex, evS_ret, evS_retN, evS_iff, evS_forF, evS_whl, evS_rai, evS_pass, evS_brk, evS_cont, evSs_nil, evSs_cons, evE_compF, ite_ap, join_some, bltn, arg1, arg2, lenB, allB, anyB, intB, absB, minB, maxB, tupB, lstB, dmB, binop, cmpop, ix_tup, ix_lst, ix_scr, slB, truth, itemsOf, rngB, store1_dat, store1_cell, store1_own0, store1_own1, parM, ixSet, mthB, ty_obj, ty_int, ty_bool, ty_str, ty_tuple, ty_list, ty_dict, isObj, isInt, isBl, isStr, isTup, isLst, isDct, write_ap, at_0, at_1, at_2, set_0, set_1, set_2, List.length_cons, List.length_nil, List.replicate, List.append_nil, List.cons_append, List.nil_append, List.getElem?_cons_zero, List.getElem?_cons_succ, List.set_cons_zero, List.set_cons_succ, Nat.sub_self, Nat.reduceAdd, Nat.reduceSub, if_true, if_false, Bool.false_eq_true, Bool.not_true, Bool.not_false, Tg.slots, Tgs.slots, wipe, decide_true, decide_false, Bool.and_true, Bool.true_and, Bool.and_false, Bool.false_and, mulOk_r, mulOk_l, pow15, pow60, Int.reduceLT, Int.reduceNeg, endFn_set, endFn_setO, mulOk_mod, deq_int, din_int, din_lot, deq_lot, deq_bl, permL, List.filterMap_cons, List.filterMap_nil, List.map_cons, List.map_nil, beq_self_eq_true, isTupD, ite_bool, ite_tf, ix_tab0, ix_tab1, compF_ap, tg__law_lot_0, cd__law_lot_0, el__law_lot_0, e1, hf]
      simp only [rngD_succ, compM_cons, bind_ap, e3, e2]
theorem lot (c : Nat) (p : List D) (bars : Int) (st : Sto) (hp : PoolOk p) (h0 : 0 ≤ bars) (h1 : bars ≤ 1000000) (hc : st[c]? = some ⟨.lst p, true⟩) : ∃ l p', Lot bars l ∧ PoolOk p' ∧ runFn F__law_lot [.cell c, .dat (.int bars)] st = .ok (.dat (lotD l)) (st.set c ⟨.lst p', true⟩) := by
  obtain ⟨l, p2, l1, l2, hp2, e2⟩ := lot_run c bars bars.toNat 0 p st hp hc
  have hb : -(2 ^ 62) ≤ bars := by omega
  refine ⟨l, p2, ⟨l1, fun x hx => by have := l2 x hx; omega⟩, hp2, ?_⟩
  simp only [run_ap, bindA_dat, bindA_own0, bindA_cell, bindA_own, bindA_nil, bind_ap, pure_ap, opt_some, guard_true, use_dat, use_own, peek_dat, peek_own, peeks_nil, peeks_cons, flowR_rt, flowR_nx, endFn_dat, endFn_own, evE_k, evE_v, evE_glob, evE_bin, evE_neg, evE_cmp, evE_chain, evE_isN, evE_and, evE_or, evE_not, evE_ite, evE_tup, evE_lst, evE_ix, evE_sl, evE_isI, evE_call, evE_callK, evE_bi, evE_mth, evEs_nil, evEs_cons, evDs_nil, evDs_cons, evPart_nil, evPart_cons, evAnd_nil, evAnd_cons, evOr_nil, evOr_cons, evT_val, evT_and, evT_or, evT_not, evT_cmp, evT_chain, evT_isN, evTAnd_nil, evTAnd_cons, evTOr_nil, evTOr_cons, evIt_seq, evIt_rng, evIt_enum, evIt_zip, evTg_n, evTg_t, evTg_ix, evTgs_nil, evTgs_cons, evS_asg, evS_asgT, evS_par, evS_ex, evS_ret, evS_retN, evS_iff, evS_forF, evS_whl, evS_rai, evS_pass, evS_brk, evS_cont, evSs_nil, evSs_cons, evE_compF, ite_ap, join_some, bltn, arg1, arg2, lenB, allB, anyB, intB, absB, minB, maxB, tupB, lstB, dmB, binop, cmpop, ix_tup, ix_lst, ix_scr, slB, truth, itemsOf, rngB, store1_dat, store1_cell, store1_own0, store1_own1, parM, ixSet, mthB, ty_obj, ty_int, ty_bool, ty_str, ty_tuple, ty_list, ty_dict, isObj, isInt, isBl, isStr, isTup, isLst, isDct, write_ap, at_0, at_1, at_2, set_0, set_1, set_2, List.length_cons, List.length_nil, List.replicate, List.append_nil, List.cons_append, List.nil_append, List.getElem?_cons_zero, List.getElem?_cons_succ, List.set_cons_zero, List.set_cons_succ, Nat.sub_self, Nat.reduceAdd, Nat.reduceSub, if_true, if_false, Bool.false_eq_true, Bool.not_true, Bool.not_false, Tg.slots, Tgs.slots, wipe, decide_true, decide_false, Bool.and_true, Bool.true_and, Bool.and_false, Bool.false_and, mulOk_r, mulOk_l, pow15, pow60, Int.reduceLT, Int.reduceNeg, endFn_set, endFn_setO, mulOk_mod, deq_int, din_int, din_lot, deq_lot, deq_bl, permL, List.filterMap_cons, List.filterMap_nil, List.map_cons, List.map_nil, beq_self_eq_true, isTupD, ite_bool, ite_tf, ix_tab0, ix_tab1, F__law_lot, B__law_lot, hb, h1, e2, lotD]
theorem order_turn (c i j : Nat) (p left found : List D) (e1 e4 : Option R) (lo : Int) (s : Sto) (hp : PoolOk p) (hc : s[c]? = some ⟨.lst p, true⟩) (hi : s[i]? = some ⟨.lst left, true⟩) (hj : s[j]? = some ⟨.lst found, true⟩) (ci : c ≠ i) (cj : c ≠ j) (ij : i ≠ j)
    (hl : 0 < left.length) (hz : left.length + found.length ≤ 1000000) : ∃ p' y left', PoolOk p' ∧ (y :: left').Perm left ∧
    forF ft__law_order_0 fb__law_order_0 (.int lo) [some (.cell c), e1, some (.cell i), some (.cell j), e4] s = .ok (.nx [some (.cell c), e1, some (.cell i), some (.cell j), some (.dat (.int lo))]) (((s.set c ⟨.lst p', true⟩).set i ⟨.lst left', true⟩).set j ⟨.lst (found ++ [y]), true⟩) := by
  obtain ⟨f, p1, f0, f1, hp1, e1⟩ := below c p (left.length : Int) s hp (by omega) hc
  have hy : f.toNat < left.length := by omega
  have hi1 : (s.set c ⟨.lst p1, true⟩)[i]? = some ⟨.lst left, true⟩ := by rw [get_ne ci]; exact hi
  have hj1 : (s.set c ⟨.lst p1, true⟩)[j]? = some ⟨.lst found, true⟩ := by rw [get_ne cj]; exact hj
  have hj2 : ((s.set c ⟨.lst p1, true⟩).set i ⟨.lst (left.eraseIdx f.toNat), true⟩)[j]? = some ⟨.lst found, true⟩ := by rw [get_ne ij]; exact hj1
  have g1 : -(2 ^ 63) ≤ f := by omega
  have g2 : f < 2 ^ 63 := by omega
  have g3 : found.length < sizeLine := Nat.lt_of_le_of_lt (by omega) million
  have hq : left[f.toNat]? = some left[f.toNat] := List.getElem?_eq_getElem hy
  refine ⟨p1, left[f.toNat], left.eraseIdx f.toNat, hp1, erase_perm hq, ?_⟩
  simp only [run_ap, bindA_dat, bindA_own0, bindA_cell, bindA_own, bindA_nil, bind_ap, pure_ap, opt_some, guard_true, use_dat, use_own, peek_dat, peek_own, peeks_nil, peeks_cons, flowR_rt, flowR_nx, endFn_dat, endFn_own, evE_k, evE_v, evE_glob, evE_bin, evE_neg, evE_cmp, evE_chain, evE_isN, evE_and, evE_or, evE_not, evE_ite, evE_tup, evE_lst, evE_ix, evE_sl, evE_isI, evE_call, evE_callK, evE_bi, evE_mth, evEs_nil, evEs_cons, evDs_nil, evDs_cons, evPart_nil, evPart_cons, evAnd_nil, evAnd_cons, evOr_nil, evOr_cons, evT_val, evT_and, evT_or, evT_not, evT_cmp, evT_chain, evT_isN, evTAnd_nil, evTAnd_cons, evTOr_nil, evTOr_cons, evIt_seq, evIt_rng, evIt_enum, evIt_zip, evTg_n, evTg_t, evTg_ix, evTgs_nil, evTgs_cons, evS_asg, evS_asgT, evS_par, evS_ex, evS_ret, evS_retN, evS_iff, evS_forF, evS_whl, evS_rai, evS_pass, evS_brk, evS_cont, evSs_nil, evSs_cons, evE_compF, ite_ap, join_some, bltn, arg1, arg2, lenB, allB, anyB, intB, absB, minB, maxB, tupB, lstB, dmB, binop, cmpop, ix_tup, ix_lst, ix_scr, slB, truth, itemsOf, rngB, store1_dat, store1_cell, store1_own0, store1_own1, parM, ixSet, mthB, ty_obj, ty_int, ty_bool, ty_str, ty_tuple, ty_list, ty_dict, isObj, isInt, isBl, isStr, isTup, isLst, isDct, write_ap, at_0, at_1, at_2, set_0, set_1, set_2, List.length_cons, List.length_nil, List.replicate, List.append_nil, List.cons_append, List.nil_append, List.getElem?_cons_zero, List.getElem?_cons_succ, List.set_cons_zero, List.set_cons_succ, Nat.sub_self, Nat.reduceAdd, Nat.reduceSub, if_true, if_false, Bool.false_eq_true, Bool.not_true, Bool.not_false, Tg.slots, Tgs.slots, wipe, decide_true, decide_false, Bool.and_true, Bool.true_and, Bool.and_false, Bool.false_and, mulOk_r, mulOk_l, pow15, pow60, Int.reduceLT, Int.reduceNeg, endFn_set, endFn_setO, mulOk_mod, deq_int, din_int, din_lot, deq_lot, deq_bl, permL, List.filterMap_cons, List.filterMap_nil, List.map_cons, List.map_nil, beq_self_eq_true, isTupD, ite_bool, ite_tf, ix_tab0, ix_tab1, forF_ap, ft__law_order_0, fb__law_order_0, live_ok hj, live_ok hi, peek_cell hi, e1, live_ok hi1, g1, g2, ixN_nat f0 f1, hq, live_ok hj2, g3]
theorem order_run (c i j : Nat) (n : Nat) : ∀ (lo : Int) (p left found : List D) (e1 e4 : Option R) (s : Sto), PoolOk p → s[c]? = some ⟨.lst p, true⟩ → s[i]? = some ⟨.lst left, true⟩ → s[j]? = some ⟨.lst found, true⟩ → c ≠ i → c ≠ j → i ≠ j →
    left.length = n → left.length + found.length ≤ 1000000 → ∃ p' found' e4', PoolOk p' ∧ found'.Perm (found ++ left) ∧
    forM (forF ft__law_order_0 fb__law_order_0) (rngD lo n) [some (.cell c), e1, some (.cell i), some (.cell j), e4] s = .ok (.nx [some (.cell c), e1, some (.cell i), some (.cell j), e4']) (((s.set c ⟨.lst p', true⟩).set i ⟨.lst [], true⟩).set j ⟨.lst found', true⟩) := by
  induction n with
  | zero =>
    intro lo p left found e1 e4 s hp hc hi hj ci cj ij hl hz
    have : left = [] := List.eq_nil_of_length_eq_zero hl
    subst this
    exact ⟨p, found, e4, hp, by simp, by rw [set_same hc, set_same hi, set_same hj]; rfl⟩
  | succ n ih =>
    intro lo p left found e1 e4 s hp hc hi hj ci cj ij hl hz
    obtain ⟨p1, y, left1, hp1, hpm, ee⟩ := order_turn c i j p left found e1 e4 lo s hp hc hi hj ci cj ij (by omega) hz
    have hlen : left1.length = n := by have := hpm.length_eq; simp only [List.length_cons] at this; omega
    obtain ⟨p2, found2, e42, hp2, hpm2, ee2⟩ := ih (lo + 1) p1 left1 (found ++ [y]) e1 (some (.dat (.int lo))) (((s.set c ⟨.lst p1, true⟩).set i ⟨.lst left1, true⟩).set j ⟨.lst (found ++ [y]), true⟩) hp1
      (by rw [get_ne (Ne.symm cj), get_ne (Ne.symm ci)]; exact get_set hc) (by rw [get_ne (Ne.symm ij)]; exact get_set (d := .lst left) (by rw [get_ne ci]; exact hi)) (get_set (d := .lst found) (by rw [get_ne ij, get_ne cj]; exact hj)) ci cj ij hlen (by rw [List.length_append, hlen]; simp only [List.length_cons, List.length_nil]; omega)
    refine ⟨p2, found2, e42, hp2, ?_, ?_⟩
    · refine hpm2.trans ?_
      rw [List.append_assoc]
      exact List.Perm.append_left _ hpm
    · rw [rngD_succ, forM_step]
      simp only [bind_ap, ee, ee2]
      congr 1
      rw [List.set_comm _ _ (Ne.symm cj), List.set_comm _ _ (Ne.symm ci), List.set_set, List.set_comm _ _ (Ne.symm ij), List.set_set, List.set_set]
theorem order (c : Nat) (p ds : List D) (st : Sto) (hp : PoolOk p) (hc : st[c]? = some ⟨.lst p, true⟩) (hz : ds.length ≤ 1000000) : ∃ ds' p', ds'.Perm ds ∧ PoolOk p' ∧ runFn F__law_order [.cell c, .dat (.lst ds)] st = .ok (.dat (.tup ds')) (st.set c ⟨.lst p', true⟩) := by
  have hcl := (List.getElem?_eq_some_iff.mp hc).1
  have hc0 : ((st ++ [⟨.lst ds, true⟩]) ++ [⟨.lst [], true⟩] : Sto)[c]? = some ⟨.lst p, true⟩ := by rw [List.getElem?_append_left (by rw [List.length_append]; omega), List.getElem?_append_left hcl]; exact hc
  have hi0 : ((st ++ [⟨.lst ds, true⟩]) ++ [⟨.lst [], true⟩] : Sto)[st.length]? = some ⟨.lst ds, true⟩ := by rw [List.getElem?_append_left (by rw [List.length_append]; simp), List.getElem?_append_right (Nat.le_refl _), Nat.sub_self]; rfl
  have hj0 : ((st ++ [⟨.lst ds, true⟩]) ++ [⟨.lst [], true⟩] : Sto)[(st ++ [(⟨.lst ds, true⟩ : Cel)]).length]? = some ⟨.lst [], true⟩ := by rw [List.getElem?_append_right (Nat.le_refl _), Nat.sub_self]; rfl
  have hlen : (st ++ [(⟨.lst ds, true⟩ : Cel)]).length = st.length + 1 := by rw [List.length_append]; rfl
  obtain ⟨p', found, e4', hp', hpm, ee⟩ := order_run c st.length (st ++ [(⟨.lst ds, true⟩ : Cel)]).length ds.length 0 p ds [] (some (.dat (.lst ds))) none _ hp hc0 hi0 hj0 (by omega) (by rw [hlen]; omega) (by rw [hlen]; omega) rfl (by simpa using hz)
  refine ⟨found, p', by simpa using hpm, hp', ?_⟩
  have g1 : (-(2 ^ 62) : Int) ≤ (ds.length : Int) := by omega
  have g2 : (ds.length : Int) ≤ 1000000 := by omega
  simp only [run_ap, bindA_dat, bindA_own0, bindA_cell, bindA_own, bindA_nil, bind_ap, pure_ap, opt_some, guard_true, use_dat, use_own, peek_dat, peek_own, peeks_nil, peeks_cons, flowR_rt, flowR_nx, endFn_dat, endFn_own, evE_k, evE_v, evE_glob, evE_bin, evE_neg, evE_cmp, evE_chain, evE_isN, evE_and, evE_or, evE_not, evE_ite, evE_tup, evE_lst, evE_ix, evE_sl, evE_isI, evE_call, evE_callK, evE_bi, evE_mth, evEs_nil, evEs_cons, evDs_nil, evDs_cons, evPart_nil, evPart_cons, evAnd_nil, evAnd_cons, evOr_nil, evOr_cons, evT_val, evT_and, evT_or, evT_not, evT_cmp, evT_chain, evT_isN, evTAnd_nil, evTAnd_cons, evTOr_nil, evTOr_cons, evIt_seq, evIt_rng, evIt_enum, evIt_zip, evTg_n, evTg_t, evTg_ix, evTgs_nil, evTgs_cons, evS_asg, evS_asgT, evS_par, evS_ex, evS_ret, evS_retN, evS_iff, evS_forF, evS_whl, evS_rai, evS_pass, evS_brk, evS_cont, evSs_nil, evSs_cons, evE_compF, ite_ap, join_some, bltn, arg1, arg2, lenB, allB, anyB, intB, absB, minB, maxB, tupB, lstB, dmB, binop, cmpop, ix_tup, ix_lst, ix_scr, slB, truth, itemsOf, rngB, store1_dat, store1_cell, store1_own0, store1_own1, parM, ixSet, mthB, ty_obj, ty_int, ty_bool, ty_str, ty_tuple, ty_list, ty_dict, isObj, isInt, isBl, isStr, isTup, isLst, isDct, write_ap, at_0, at_1, at_2, set_0, set_1, set_2, List.length_cons, List.length_nil, List.replicate, List.append_nil, List.cons_append, List.nil_append, List.getElem?_cons_zero, List.getElem?_cons_succ, List.set_cons_zero, List.set_cons_succ, Nat.sub_self, Nat.reduceAdd, Nat.reduceSub, if_true, if_false, Bool.false_eq_true, Bool.not_true, Bool.not_false, Tg.slots, Tgs.slots, wipe, decide_true, decide_false, Bool.and_true, Bool.true_and, Bool.and_false, Bool.false_and, mulOk_r, mulOk_l, pow15, pow60, Int.reduceLT, Int.reduceNeg, endFn_set, endFn_setO, mulOk_mod, deq_int, din_int, din_lot, deq_lot, deq_bl, permL, List.filterMap_cons, List.filterMap_nil, List.map_cons, List.map_nil, beq_self_eq_true, isTupD, ite_bool, ite_tf, ix_tab0, ix_tab1, F__law_order, B__law_order, peek_cell hi0, g1, g2, Int.toNat_natCast, ee]
  have hj1 : ((((st ++ [(⟨.lst ds, true⟩ : Cel)]) ++ [⟨.lst [], true⟩] : Sto).set c ⟨.lst p', true⟩).set st.length ⟨.lst [], true⟩)[(st ++ [(⟨.lst ds, true⟩ : Cel)]).length]? = some ⟨.lst [], true⟩ := by
    rw [get_ne (by rw [hlen]; omega), get_ne (by rw [hlen]; omega)]; exact hj0
  simp only [run_ap, bindA_dat, bindA_own0, bindA_cell, bindA_own, bindA_nil, bind_ap, pure_ap, opt_some, guard_true, use_dat, use_own, peek_dat, peek_own, peeks_nil, peeks_cons, flowR_rt, flowR_nx, endFn_dat, endFn_own, evE_k, evE_v, evE_glob, evE_bin, evE_neg, evE_cmp, evE_chain, evE_isN, evE_and, evE_or, evE_not, evE_ite, evE_tup, evE_lst, evE_ix, evE_sl, evE_isI, evE_call, evE_callK, evE_bi, evE_mth, evEs_nil, evEs_cons, evDs_nil, evDs_cons, evPart_nil, evPart_cons, evAnd_nil, evAnd_cons, evOr_nil, evOr_cons, evT_val, evT_and, evT_or, evT_not, evT_cmp, evT_chain, evT_isN, evTAnd_nil, evTAnd_cons, evTOr_nil, evTOr_cons, evIt_seq, evIt_rng, evIt_enum, evIt_zip, evTg_n, evTg_t, evTg_ix, evTgs_nil, evTgs_cons, evS_asg, evS_asgT, evS_par, evS_ex, evS_ret, evS_retN, evS_iff, evS_forF, evS_whl, evS_rai, evS_pass, evS_brk, evS_cont, evSs_nil, evSs_cons, evE_compF, ite_ap, join_some, bltn, arg1, arg2, lenB, allB, anyB, intB, absB, minB, maxB, tupB, lstB, dmB, binop, cmpop, ix_tup, ix_lst, ix_scr, slB, truth, itemsOf, rngB, store1_dat, store1_cell, store1_own0, store1_own1, parM, ixSet, mthB, ty_obj, ty_int, ty_bool, ty_str, ty_tuple, ty_list, ty_dict, isObj, isInt, isBl, isStr, isTup, isLst, isDct, write_ap, at_0, at_1, at_2, set_0, set_1, set_2, List.length_cons, List.length_nil, List.replicate, List.append_nil, List.cons_append, List.nil_append, List.getElem?_cons_zero, List.getElem?_cons_succ, List.set_cons_zero, List.set_cons_succ, Nat.sub_self, Nat.reduceAdd, Nat.reduceSub, if_true, if_false, Bool.false_eq_true, Bool.not_true, Bool.not_false, Tg.slots, Tgs.slots, wipe, decide_true, decide_false, Bool.and_true, Bool.true_and, Bool.and_false, Bool.false_and, mulOk_r, mulOk_l, pow15, pow60, Int.reduceLT, Int.reduceNeg, endFn_set, endFn_setO, mulOk_mod, deq_int, din_int, din_lot, deq_lot, deq_bl, permL, List.filterMap_cons, List.filterMap_nil, List.map_cons, List.map_nil, beq_self_eq_true, isTupD, ite_bool, ite_tf, ix_tab0, ix_tab1, peek_cell (get_set hj1), endFn_dat']
  congr 1
  apply List.ext_getElem?
  intro k
  by_cases hk : k < st.length
  · rw [List.getElem?_take_of_lt hk, get_ne (by rw [hlen]; omega), get_ne (by omega)]
    by_cases hck : c = k
    · subst hck
      rw [get_set hc0, get_set hc]
    · rw [get_ne hck, get_ne hck, List.getElem?_append_left (by rw [hlen]; omega), List.getElem?_append_left hk]
  · rw [List.getElem?_eq_none (by rw [List.length_take]; omega), List.getElem?_eq_none (by rw [List.length_set]; omega)]
/-- lots found so far -/
structure Ls (b : Int) (ls : List (List Int)) : Prop where
  nd : ls.Nodup
  lot : ∀ l ∈ ls, Lot b l
theorem Ls.add {b : Int} {ls : List (List Int)} (h : Ls b ls) {l : List Int} (hl : Lot b l) (hn : l ∉ ls) : Ls b (ls ++ [l]) :=
  ⟨List.nodup_append.mpr ⟨h.nd, by simp, fun x hx y hy => by rw [List.mem_singleton.mp hy]; exact fun z => hn (z ▸ hx)⟩, fun m hm => by
    rcases List.mem_append.mp hm with hm | hm
    · exact h.lot m hm
    · rw [List.mem_singleton.mp hm]; exact hl⟩
theorem map_snoc (ls : List (List Int)) (l : List Int) : ls.map lotD ++ [lotD l] = (ls ++ [l]).map lotD := by rw [List.map_append]; rfl
theorem table_run1 (c : Nat) (b : Int) (hb : 1 ≤ b) (hb2 : b ≤ 1000) (e1 e2 : Option R) (n : Nat) : ∀ (lo : Int) (p : List D) (ls : List (List Int)) (e5 e6 : Option R) (s : Sto), PoolOk p → s[c]? = some ⟨.lst p, true⟩ → Ls b ls → ls.length + n ≤ 1000 →
    ∃ p' ls' e5' e6', PoolOk p' ∧ Ls b ls' ∧ ls'.length ≤ ls.length + n ∧
    forM (forF ft__law_table_0 fb__law_table_0) (rngD lo n) [some (.cell c), e1, e2, some (.dat (.int b)), some (.dat (.lst (ls.map lotD))), e5, e6] s = .ok (.nx [some (.cell c), e1, e2, some (.dat (.int b)), some (.dat (.lst (ls'.map lotD))), e5', e6']) (s.set c ⟨.lst p', true⟩) := by
  induction n with
  | zero =>
    intro lo p ls e5 e6 s hp hc hls hz
    exact ⟨p, ls, e5, e6, hp, hls, Nat.le_refl _, by rw [set_same hc]; rfl⟩
  | succ n ih =>
    intro lo p ls e5 e6 s hp hc hls hz
    obtain ⟨l, p1, hl, hp1, e1'⟩ := lot c p b s hp (by omega) (by omega) hc
    have g1 : lenOk (ls.length + 1) = true := len_ok (by omega)
    have g2 : lenOk ls.length = true := len_ok (by omega)
    by_cases hm : l ∈ ls
    · have ht : forF ft__law_table_0 fb__law_table_0 (.int lo) [some (.cell c), e1, e2, some (.dat (.int b)), some (.dat (.lst (ls.map lotD))), e5, e6] s = .ok (.nx [some (.cell c), e1, e2, some (.dat (.int b)), some (.dat (.lst (ls.map lotD))), some (.dat (.int lo)), some (.dat (lotD l))]) (s.set c ⟨.lst p1, true⟩) := by
        simp only [run_ap, bindA_dat, bindA_own0, bindA_cell, bindA_own, bindA_nil, bind_ap, pure_ap, opt_some, guard_true, use_dat, use_own, peek_dat, peek_own, peeks_nil, peeks_cons, flowR_rt, flowR_nx, endFn_dat, endFn_own, evE_k, evE_v, evE_glob, evE_bin, evE_neg, evE_cmp, evE_chain, evE_isN, evE_and, evE_or, evE_not, evE_ite, evE_tup, evE_lst, evE_ix, evE_sl, evE_isI, evE_call, evE_callK, evE_bi, evE_mth, evEs_nil, evEs_cons, evDs_nil, evDs_cons, evPart_nil, evPart_cons, evAnd_nil, evAnd_cons, evOr_nil, evOr_cons, evT_val, evT_and, evT_or, evT_not, evT_cmp, evT_chain, evT_isN, evTAnd_nil, evTAnd_cons, evTOr_nil, evTOr_cons, evIt_seq, evIt_rng, evIt_enum, evIt_zip, evTg_n, evTg_t, evTg_ix, evTgs_nil, evTgs_cons, evS_asg, evS_asgT, evS_par, evS_ex, evS_ret, evS_retN, evS_iff, evS_forF, evS_whl, evS_rai, evS_pass, evS_brk, evS_cont, evSs_nil, evSs_cons, evE_compF, ite_ap, join_some, bltn, arg1, arg2, lenB, allB, anyB, intB, absB, minB, maxB, tupB, lstB, dmB, binop, cmpop, ix_tup, ix_lst, ix_scr, slB, truth, itemsOf, rngB, store1_dat, store1_cell, store1_own0, store1_own1, parM, ixSet, mthB, ty_obj, ty_int, ty_bool, ty_str, ty_tuple, ty_list, ty_dict, isObj, isInt, isBl, isStr, isTup, isLst, isDct, write_ap, at_0, at_1, at_2, set_0, set_1, set_2, List.length_cons, List.length_nil, List.replicate, List.append_nil, List.cons_append, List.nil_append, List.getElem?_cons_zero, List.getElem?_cons_succ, List.set_cons_zero, List.set_cons_succ, Nat.sub_self, Nat.reduceAdd, Nat.reduceSub, if_true, if_false, Bool.false_eq_true, Bool.not_true, Bool.not_false, Tg.slots, Tgs.slots, wipe, decide_true, decide_false, Bool.and_true, Bool.true_and, Bool.and_false, Bool.false_and, mulOk_r, mulOk_l, pow15, pow60, Int.reduceLT, Int.reduceNeg, endFn_set, endFn_setO, mulOk_mod, deq_int, din_int, din_lot, deq_lot, deq_bl, permL, List.filterMap_cons, List.filterMap_nil, List.map_cons, List.map_nil, beq_self_eq_true, isTupD, ite_bool, ite_tf, ix_tab0, ix_tab1, forF_ap, ft__law_table_0, fb__law_table_0, e1', hm, List.length_map, Nat.add_zero, g2]
      obtain ⟨p2, ls2, e52, e62, hp2, hls2, hz2, ee⟩ := ih (lo + 1) p1 ls (some (.dat (.int lo))) (some (.dat (lotD l))) (s.set c ⟨.lst p1, true⟩) hp1 (get_set hc) hls (by omega)
      refine ⟨p2, ls2, e52, e62, hp2, hls2, by omega, ?_⟩
      rw [rngD_succ, forM_step]
      simp only [bind_ap, ht, ee, List.set_set]
    · have ht : forF ft__law_table_0 fb__law_table_0 (.int lo) [some (.cell c), e1, e2, some (.dat (.int b)), some (.dat (.lst (ls.map lotD))), e5, e6] s = .ok (.nx [some (.cell c), e1, e2, some (.dat (.int b)), some (.dat (.lst ((ls ++ [l]).map lotD))), some (.dat (.int lo)), some (.dat (lotD l))]) (s.set c ⟨.lst p1, true⟩) := by
        simp only [run_ap, bindA_dat, bindA_own0, bindA_cell, bindA_own, bindA_nil, bind_ap, pure_ap, opt_some, guard_true, use_dat, use_own, peek_dat, peek_own, peeks_nil, peeks_cons, flowR_rt, flowR_nx, endFn_dat, endFn_own, evE_k, evE_v, evE_glob, evE_bin, evE_neg, evE_cmp, evE_chain, evE_isN, evE_and, evE_or, evE_not, evE_ite, evE_tup, evE_lst, evE_ix, evE_sl, evE_isI, evE_call, evE_callK, evE_bi, evE_mth, evEs_nil, evEs_cons, evDs_nil, evDs_cons, evPart_nil, evPart_cons, evAnd_nil, evAnd_cons, evOr_nil, evOr_cons, evT_val, evT_and, evT_or, evT_not, evT_cmp, evT_chain, evT_isN, evTAnd_nil, evTAnd_cons, evTOr_nil, evTOr_cons, evIt_seq, evIt_rng, evIt_enum, evIt_zip, evTg_n, evTg_t, evTg_ix, evTgs_nil, evTgs_cons, evS_asg, evS_asgT, evS_par, evS_ex, evS_ret, evS_retN, evS_iff, evS_forF, evS_whl, evS_rai, evS_pass, evS_brk, evS_cont, evSs_nil, evSs_cons, evE_compF, ite_ap, join_some, bltn, arg1, arg2, lenB, allB, anyB, intB, absB, minB, maxB, tupB, lstB, dmB, binop, cmpop, ix_tup, ix_lst, ix_scr, slB, truth, itemsOf, rngB, store1_dat, store1_cell, store1_own0, store1_own1, parM, ixSet, mthB, ty_obj, ty_int, ty_bool, ty_str, ty_tuple, ty_list, ty_dict, isObj, isInt, isBl, isStr, isTup, isLst, isDct, write_ap, at_0, at_1, at_2, set_0, set_1, set_2, List.length_cons, List.length_nil, List.replicate, List.append_nil, List.cons_append, List.nil_append, List.getElem?_cons_zero, List.getElem?_cons_succ, List.set_cons_zero, List.set_cons_succ, Nat.sub_self, Nat.reduceAdd, Nat.reduceSub, if_true, if_false, Bool.false_eq_true, Bool.not_true, Bool.not_false, Tg.slots, Tgs.slots, wipe, decide_true, decide_false, Bool.and_true, Bool.true_and, Bool.and_false, Bool.false_and, mulOk_r, mulOk_l, pow15, pow60, Int.reduceLT, Int.reduceNeg, endFn_set, endFn_setO, mulOk_mod, deq_int, din_int, din_lot, deq_lot, deq_bl, permL, List.filterMap_cons, List.filterMap_nil, List.map_cons, List.map_nil, beq_self_eq_true, isTupD, ite_bool, ite_tf, ix_tab0, ix_tab1, forF_ap, ft__law_table_0, fb__law_table_0, e1', hm, List.length_map, g1, map_snoc]
      obtain ⟨p2, ls2, e52, e62, hp2, hls2, hz2, ee⟩ := ih (lo + 1) p1 (ls ++ [l]) (some (.dat (.int lo))) (some (.dat (lotD l))) (s.set c ⟨.lst p1, true⟩) hp1 (get_set hc) (hls.add hl hm) (by rw [List.length_append]; simp only [List.length_cons, List.length_nil]; omega)
      refine ⟨p2, ls2, e52, e62, hp2, hls2, by rw [List.length_append] at hz2; simp only [List.length_cons, List.length_nil] at hz2; omega, ?_⟩
      rw [rngD_succ, forM_step]
      simp only [bind_ap, ht, ee, List.set_set]
theorem table_turn2 (c : Nat) (b : Int) (e1 e2 e5 e6 : Option R) (ls : List (List Int)) (l : List Int) (s : Sto) (hls : Ls b ls) (hl : Lot b l) (hz : ls.length ≤ 1000) :
    ∃ ls', Ls b ls' ∧ ls' = (if l ∉ ls ∧ ls.length < 2 then ls ++ [l] else ls) ∧
    forF ft__law_table_1 fb__law_table_1 (lotD l) [some (.cell c), e1, e2, some (.dat (.int b)), some (.dat (.lst (ls.map lotD))), e5, e6] s = .ok (.nx [some (.cell c), e1, e2, some (.dat (.int b)), some (.dat (.lst (ls'.map lotD))), e5, some (.dat (lotD l))]) s := by
  have g1 : lenOk (ls.length + 1) = true := len_ok (by omega)
  have g2 : lenOk ls.length = true := len_ok (by omega)
  by_cases hm : l ∈ ls
  · refine ⟨ls, hls, by rw [if_neg fun z => z.1 hm], ?_⟩
    simp only [run_ap, bindA_dat, bindA_own0, bindA_cell, bindA_own, bindA_nil, bind_ap, pure_ap, opt_some, guard_true, use_dat, use_own, peek_dat, peek_own, peeks_nil, peeks_cons, flowR_rt, flowR_nx, endFn_dat, endFn_own, evE_k, evE_v, evE_glob, evE_bin, evE_neg, evE_cmp, evE_chain, evE_isN, evE_and, evE_or, evE_not, evE_ite, evE_tup, evE_lst, evE_ix, evE_sl, evE_isI, evE_call, evE_callK, evE_bi, evE_mth, evEs_nil, evEs_cons, evDs_nil, evDs_cons, evPart_nil, evPart_cons, evAnd_nil, evAnd_cons, evOr_nil, evOr_cons, evT_val, evT_and, evT_or, evT_not, evT_cmp, evT_chain, evT_isN, evTAnd_nil, evTAnd_cons, evTOr_nil, evTOr_cons, evIt_seq, evIt_rng, evIt_enum, evIt_zip, evTg_n, evTg_t, evTg_ix, evTgs_nil, evTgs_cons, evS_asg, evS_asgT, evS_par, evS_ex, evS_ret, evS_retN, evS_iff, evS_forF, evS_whl, evS_rai, evS_pass, evS_brk, evS_cont, evSs_nil, evSs_cons, evE_compF, ite_ap, join_some, bltn, arg1, arg2, lenB, allB, anyB, intB, absB, minB, maxB, tupB, lstB, dmB, binop, cmpop, ix_tup, ix_lst, ix_scr, slB, truth, itemsOf, rngB, store1_dat, store1_cell, store1_own0, store1_own1, parM, ixSet, mthB, ty_obj, ty_int, ty_bool, ty_str, ty_tuple, ty_list, ty_dict, isObj, isInt, isBl, isStr, isTup, isLst, isDct, write_ap, at_0, at_1, at_2, set_0, set_1, set_2, List.length_cons, List.length_nil, List.replicate, List.append_nil, List.cons_append, List.nil_append, List.getElem?_cons_zero, List.getElem?_cons_succ, List.set_cons_zero, List.set_cons_succ, Nat.sub_self, Nat.reduceAdd, Nat.reduceSub, if_true, if_false, Bool.false_eq_true, Bool.not_true, Bool.not_false, Tg.slots, Tgs.slots, wipe, decide_true, decide_false, Bool.and_true, Bool.true_and, Bool.and_false, Bool.false_and, mulOk_r, mulOk_l, pow15, pow60, Int.reduceLT, Int.reduceNeg, endFn_set, endFn_setO, mulOk_mod, deq_int, din_int, din_lot, deq_lot, deq_bl, permL, List.filterMap_cons, List.filterMap_nil, List.map_cons, List.map_nil, beq_self_eq_true, isTupD, ite_bool, ite_tf, ix_tab0, ix_tab1, forF_ap, ft__law_table_1, fb__law_table_1, hm, List.length_map, Nat.add_zero, g2]
  · by_cases h2 : ls.length < 2
    · refine ⟨ls ++ [l], hls.add hl hm, by rw [if_pos ⟨hm, h2⟩], ?_⟩
      have h2' : (ls.length : Int) < 2 := by omega
      simp only [run_ap, bindA_dat, bindA_own0, bindA_cell, bindA_own, bindA_nil, bind_ap, pure_ap, opt_some, guard_true, use_dat, use_own, peek_dat, peek_own, peeks_nil, peeks_cons, flowR_rt, flowR_nx, endFn_dat, endFn_own, evE_k, evE_v, evE_glob, evE_bin, evE_neg, evE_cmp, evE_chain, evE_isN, evE_and, evE_or, evE_not, evE_ite, evE_tup, evE_lst, evE_ix, evE_sl, evE_isI, evE_call, evE_callK, evE_bi, evE_mth, evEs_nil, evEs_cons, evDs_nil, evDs_cons, evPart_nil, evPart_cons, evAnd_nil, evAnd_cons, evOr_nil, evOr_cons, evT_val, evT_and, evT_or, evT_not, evT_cmp, evT_chain, evT_isN, evTAnd_nil, evTAnd_cons, evTOr_nil, evTOr_cons, evIt_seq, evIt_rng, evIt_enum, evIt_zip, evTg_n, evTg_t, evTg_ix, evTgs_nil, evTgs_cons, evS_asg, evS_asgT, evS_par, evS_ex, evS_ret, evS_retN, evS_iff, evS_forF, evS_whl, evS_rai, evS_pass, evS_brk, evS_cont, evSs_nil, evSs_cons, evE_compF, ite_ap, join_some, bltn, arg1, arg2, lenB, allB, anyB, intB, absB, minB, maxB, tupB, lstB, dmB, binop, cmpop, ix_tup, ix_lst, ix_scr, slB, truth, itemsOf, rngB, store1_dat, store1_cell, store1_own0, store1_own1, parM, ixSet, mthB, ty_obj, ty_int, ty_bool, ty_str, ty_tuple, ty_list, ty_dict, isObj, isInt, isBl, isStr, isTup, isLst, isDct, write_ap, at_0, at_1, at_2, set_0, set_1, set_2, List.length_cons, List.length_nil, List.replicate, List.append_nil, List.cons_append, List.nil_append, List.getElem?_cons_zero, List.getElem?_cons_succ, List.set_cons_zero, List.set_cons_succ, Nat.sub_self, Nat.reduceAdd, Nat.reduceSub, if_true, if_false, Bool.false_eq_true, Bool.not_true, Bool.not_false, Tg.slots, Tgs.slots, wipe, decide_true, decide_false, Bool.and_true, Bool.true_and, Bool.and_false, Bool.false_and, mulOk_r, mulOk_l, pow15, pow60, Int.reduceLT, Int.reduceNeg, endFn_set, endFn_setO, mulOk_mod, deq_int, din_int, din_lot, deq_lot, deq_bl, permL, List.filterMap_cons, List.filterMap_nil, List.map_cons, List.map_nil, beq_self_eq_true, isTupD, ite_bool, ite_tf, ix_tab0, ix_tab1, forF_ap, ft__law_table_1, fb__law_table_1, hm, List.length_map, g1, h2', map_snoc]
    · refine ⟨ls, hls, by rw [if_neg fun z => h2 z.2], ?_⟩
      have h2' : ¬ (ls.length : Int) < 2 := by omega
      simp only [run_ap, bindA_dat, bindA_own0, bindA_cell, bindA_own, bindA_nil, bind_ap, pure_ap, opt_some, guard_true, use_dat, use_own, peek_dat, peek_own, peeks_nil, peeks_cons, flowR_rt, flowR_nx, endFn_dat, endFn_own, evE_k, evE_v, evE_glob, evE_bin, evE_neg, evE_cmp, evE_chain, evE_isN, evE_and, evE_or, evE_not, evE_ite, evE_tup, evE_lst, evE_ix, evE_sl, evE_isI, evE_call, evE_callK, evE_bi, evE_mth, evEs_nil, evEs_cons, evDs_nil, evDs_cons, evPart_nil, evPart_cons, evAnd_nil, evAnd_cons, evOr_nil, evOr_cons, evT_val, evT_and, evT_or, evT_not, evT_cmp, evT_chain, evT_isN, evTAnd_nil, evTAnd_cons, evTOr_nil, evTOr_cons, evIt_seq, evIt_rng, evIt_enum, evIt_zip, evTg_n, evTg_t, evTg_ix, evTgs_nil, evTgs_cons, evS_asg, evS_asgT, evS_par, evS_ex, evS_ret, evS_retN, evS_iff, evS_forF, evS_whl, evS_rai, evS_pass, evS_brk, evS_cont, evSs_nil, evSs_cons, evE_compF, ite_ap, join_some, bltn, arg1, arg2, lenB, allB, anyB, intB, absB, minB, maxB, tupB, lstB, dmB, binop, cmpop, ix_tup, ix_lst, ix_scr, slB, truth, itemsOf, rngB, store1_dat, store1_cell, store1_own0, store1_own1, parM, ixSet, mthB, ty_obj, ty_int, ty_bool, ty_str, ty_tuple, ty_list, ty_dict, isObj, isInt, isBl, isStr, isTup, isLst, isDct, write_ap, at_0, at_1, at_2, set_0, set_1, set_2, List.length_cons, List.length_nil, List.replicate, List.append_nil, List.cons_append, List.nil_append, List.getElem?_cons_zero, List.getElem?_cons_succ, List.set_cons_zero, List.set_cons_succ, Nat.sub_self, Nat.reduceAdd, Nat.reduceSub, if_true, if_false, Bool.false_eq_true, Bool.not_true, Bool.not_false, Tg.slots, Tgs.slots, wipe, decide_true, decide_false, Bool.and_true, Bool.true_and, Bool.and_false, Bool.false_and, mulOk_r, mulOk_l, pow15, pow60, Int.reduceLT, Int.reduceNeg, endFn_set, endFn_setO, mulOk_mod, deq_int, din_int, din_lot, deq_lot, deq_bl, permL, List.filterMap_cons, List.filterMap_nil, List.map_cons, List.map_nil, beq_self_eq_true, isTupD, ite_bool, ite_tf, ix_tab0, ix_tab1, forF_ap, ft__law_table_1, fb__law_table_1, hm, List.length_map, Nat.add_zero, g2, h2']
theorem table (c : Nat) (p : List D) (mb : Int) (mg : Nat) (st : Sto) (hp : PoolOk p) (h0 : 1 ≤ mb) (h1 : mb ≤ 999) (h2 : 2 ≤ mg) (h3 : mg ≤ 999) (hc : st[c]? = some ⟨.lst p, true⟩) : ∃ b ls p', Tb mb mg b ls ∧ PoolOk p' ∧
    runFn F__law_table [.cell c, .dat (.int mb), .dat (.int mg)] st = .ok (.dat (tabD b ls)) (st.set c ⟨.lst p', true⟩) := by
  obtain ⟨f, p1, f0, f1, hp1, e1⟩ := below c p mb st hp (by omega) hc
  have hc1 : (st.set c ⟨.lst p1, true⟩)[c]? = some ⟨.lst p1, true⟩ := get_set hc
  obtain ⟨g, p2, g0, g1, hp2, e2⟩ := below c p1 (mg - 1) (st.set c ⟨.lst p1, true⟩) hp1 (by omega) hc1
  have hc2 : (st.set c ⟨.lst p2, true⟩)[c]? = some ⟨.lst p2, true⟩ := get_set hc
  rw [List.set_set] at e2
  obtain ⟨p3, ls, e5, e6, hp3, hls, hz, e3⟩ := table_run1 c (1 + f) (by omega) (by omega) (some (.dat (.int mb))) (some (.dat (.int mg))) (2 + g).toNat 0 p2 [] none none (st.set c ⟨.lst p2, true⟩) hp2 hc2 ⟨.nil, by simp⟩ (by simp only [List.length_nil]; omega)
  rw [List.set_set] at e3
  simp only [List.length_nil, List.map_nil] at hz e3
  obtain ⟨ls1, hls1, q1, e4⟩ := table_turn2 c (1 + f) (some (.dat (.int mb))) (some (.dat (.int mg))) e5 e6 ls [0] (st.set c ⟨.lst p3, true⟩) hls ⟨by simp, by simp; omega⟩ (by omega)
  have hz1 : ls1.length ≤ max ls.length 2 := by
    rw [q1]
    split
    · rename_i z
      rw [List.length_append]
      simp only [List.length_cons, List.length_nil]
      omega
    · omega
  obtain ⟨ls2, hls2, q2, e4'⟩ := table_turn2 c (1 + f) (some (.dat (.int mb))) (some (.dat (.int mg))) e5 (some (.dat (lotD [0]))) ls1 [] (st.set c ⟨.lst p3, true⟩) hls1 ⟨by simp, by simp⟩ (by omega)
  have hz2 : ls2.length ≤ max ls.length 2 ∧ 2 ≤ ls2.length := by
    rw [q2]
    by_cases w1 : [] ∉ ls1 ∧ ls1.length < 2
    · rw [if_pos w1, List.length_append]
      simp only [List.length_cons, List.length_nil]
      refine ⟨by omega, ?_⟩
      by_cases w2 : [0] ∉ ls ∧ ls.length < 2
      · rw [q1, if_pos w2, List.length_append]
        simp only [List.length_cons, List.length_nil]
        omega
      · rw [if_neg w2] at q1
        subst q1
        by_cases w3 : ls1.length < 2
        · have : [0] ∈ ls1 := by
            by_cases w4 : [0] ∈ ls1
            · exact w4
            · exact absurd ⟨w4, w3⟩ w2
          have := List.length_pos_of_mem this
          omega
        · omega
    · rw [if_neg w1]
      refine ⟨hz1, ?_⟩
      by_cases w3 : ls1.length < 2
      · exfalso
        have hm : [] ∈ ls1 := by
          by_cases w4 : [] ∈ ls1
          · exact w4
          · exact absurd ⟨w4, w3⟩ w1
        by_cases w2 : [0] ∉ ls ∧ ls.length < 2
        · rw [if_pos w2] at q1
          have : ls1.length = ls.length + 1 := by rw [q1, List.length_append]; rfl
          have hl0 : ls = [] := List.eq_nil_of_length_eq_zero (by omega)
          rw [q1, hl0] at hm
          simp at hm
        · rw [if_neg w2] at q1
          subst q1
          have : [0] ∈ ls1 := by
            by_cases w4 : [0] ∈ ls1
            · exact w4
            · exact absurd ⟨w4, w3⟩ w2
          match ls1, w3, this, hm with
          | [a], _, h1, h2 =>
            have h1' := List.mem_singleton.mp h1
            have h2' := List.mem_singleton.mp h2
            rw [← h1'] at h2'
            cases h2'
      · omega
  obtain ⟨ds, p4, hpm, hp4, e7⟩ := order c p3 (ls2.map lotD) (st.set c ⟨.lst p3, true⟩) hp3 (get_set hc) (by rw [List.length_map]; omega)
  rw [List.set_set] at e7
  obtain ⟨ls3, rfl, hpm3⟩ : ∃ ls3 : List (List Int), ds = ls3.map lotD ∧ ls3.Perm ls2 := perm_map hpm
  refine ⟨1 + f, ls3, p4, ⟨by omega, by omega, by rw [hpm3.length_eq]; exact hz2.2, by rw [hpm3.length_eq]; omega, (hpm3.nodup_iff).mpr hls2.nd, fun l hl => hls2.lot l (hpm3.mem_iff.mp hl)⟩, hp4, ?_⟩
  have w1 : (-(2 ^ 62) : Int) ≤ 2 + g := by omega
  have w2 : (2 + g : Int) ≤ 1000000 := by omega
  have w3 : lotD [0] = .tup [.int 0] := rfl
  have w4 : lotD [] = .tup [] := rfl
  rw [w3] at e4 e4'
  rw [w4] at e4'
  simp only [run_ap, bindA_dat, bindA_own0, bindA_cell, bindA_own, bindA_nil, bind_ap, pure_ap, opt_some, guard_true, use_dat, use_own, peek_dat, peek_own, peeks_nil, peeks_cons, flowR_rt, flowR_nx, endFn_dat, endFn_own, evE_k, evE_v, evE_glob, evE_bin, evE_neg, evE_cmp, evE_chain, evE_isN, evE_and, evE_or, evE_not, evE_ite, evE_tup, evE_lst, evE_ix, evE_sl, evE_isI, evE_call, evE_callK, evE_bi, evE_mth, evEs_nil, evEs_cons, evDs_nil, evDs_cons, evPart_nil, evPart_cons, evAnd_nil, evAnd_cons, evOr_nil, evOr_cons, evT_val, evT_and, evT_or, evT_not, evT_cmp, evT_chain, evT_isN, evTAnd_nil, evTAnd_cons, evTOr_nil, evTOr_cons, evIt_seq, evIt_rng, evIt_enum, evIt_zip, evTg_n, evTg_t, evTg_ix, evTgs_nil, evTgs_cons, evS_asg, evS_asgT, evS_par, evS_ex, evS_ret, evS_retN, evS_iff, evS_forF, evS_whl, evS_rai, evS_pass, evS_brk, evS_cont, evSs_nil, evSs_cons, evE_compF, ite_ap, join_some, bltn, arg1, arg2, lenB, allB, anyB, intB, absB, minB, maxB, tupB, lstB, dmB, binop, cmpop, ix_tup, ix_lst, ix_scr, slB, truth, itemsOf, rngB, store1_dat, store1_cell, store1_own0, store1_own1, parM, ixSet, mthB, ty_obj, ty_int, ty_bool, ty_str, ty_tuple, ty_list, ty_dict, isObj, isInt, isBl, isStr, isTup, isLst, isDct, write_ap, at_0, at_1, at_2, set_0, set_1, set_2, List.length_cons, List.length_nil, List.replicate, List.append_nil, List.cons_append, List.nil_append, List.getElem?_cons_zero, List.getElem?_cons_succ, List.set_cons_zero, List.set_cons_succ, Nat.sub_self, Nat.reduceAdd, Nat.reduceSub, if_true, if_false, Bool.false_eq_true, Bool.not_true, Bool.not_false, Tg.slots, Tgs.slots, wipe, decide_true, decide_false, Bool.and_true, Bool.true_and, Bool.and_false, Bool.false_and, mulOk_r, mulOk_l, pow15, pow60, Int.reduceLT, Int.reduceNeg, endFn_set, endFn_setO, mulOk_mod, deq_int, din_int, din_lot, deq_lot, deq_bl, permL, List.filterMap_cons, List.filterMap_nil, List.map_cons, List.map_nil, beq_self_eq_true, isTupD, ite_bool, ite_tf, ix_tab0, ix_tab1, F__law_table, B__law_table, e1, e2, w1, w2, e3, forM_nil, forM_step, e4, e4', e7, tabD]
end K04
set_option maxHeartbeats 4000000
namespace K04
open PySem DB
theorem is_up_to (d : D) (m : Int) (h : isObj d = false) (st : Sto) : runFn F_is_up_to [.dat d, .dat (.int m)] st = .ok (.dat (.bl (isB d 0 m))) st := by
  simp only [run_ap, bindA_dat, bindA_own0, bindA_cell, bindA_own, bindA_nil, bind_ap, pure_ap, opt_some, guard_true, use_dat, use_own, peek_dat, peek_own, peeks_nil, peeks_cons, flowR_rt, flowR_nx, endFn_dat, endFn_own, evE_k, evE_v, evE_glob, evE_bin, evE_neg, evE_cmp, evE_chain, evE_isN, evE_and, evE_or, evE_not, evE_ite, evE_tup, evE_lst, evE_ix, evE_sl, evE_isI, evE_call, evE_callK, evE_bi, evE_mth, evEs_nil, evEs_cons, evDs_nil, evDs_cons, evPart_nil, evPart_cons, evAnd_nil, evAnd_cons, evOr_nil, evOr_cons, evT_val, evT_and, evT_or, evT_not, evT_cmp, evT_chain, evT_isN, evTAnd_nil, evTAnd_cons, evTOr_nil, evTOr_cons, evIt_seq, evIt_rng, evIt_enum, evIt_zip, evTg_n, evTg_t, evTg_ix, evTgs_nil, evTgs_cons, evS_asg, evS_asgT, evS_par, evS_ex, evS_ret, evS_retN, evS_iff, evS_forF, evS_whl, evS_rai, evS_pass, evS_brk, evS_cont, evSs_nil, evSs_cons, evE_compF, ite_ap, join_some, bltn, arg1, arg2, lenB, allB, anyB, intB, absB, minB, maxB, tupB, lstB, dmB, binop, cmpop, ix_tup, ix_lst, ix_scr, slB, truth, itemsOf, rngB, store1_dat, store1_cell, store1_own0, store1_own1, parM, ixSet, mthB, ty_obj, ty_int, ty_bool, ty_str, ty_tuple, ty_list, ty_dict, isObj, isInt, isBl, isStr, isTup, isLst, isDct, write_ap, at_0, at_1, at_2, set_0, set_1, set_2, List.length_cons, List.length_nil, List.replicate, List.append_nil, List.cons_append, List.nil_append, List.getElem?_cons_zero, List.getElem?_cons_succ, List.set_cons_zero, List.set_cons_succ, Nat.sub_self, Nat.reduceAdd, Nat.reduceSub, if_true, if_false, Bool.false_eq_true, Bool.not_true, Bool.not_false, Tg.slots, Tgs.slots, wipe, decide_true, decide_false, Bool.and_true, Bool.true_and, Bool.and_false, Bool.false_and, mulOk_r, mulOk_l, pow15, pow60, Int.reduceLT, Int.reduceNeg, endFn_set, endFn_setO, mulOk_mod, deq_int, din_int, din_lot, deq_lot, deq_bl, permL, List.filterMap_cons, List.filterMap_nil, List.map_cons, List.map_nil, beq_self_eq_true, isTupD, ite_bool, ite_tf, ix_tab0, ix_tab1, F_is_up_to, B_is_up_to, is_between d 0 m h]
def isT (d : D) (lo hi : Int) : Bool := match d with
  | .tup xs => decide (lo ≤ xs.length) && decide ((xs.length : Int) ≤ hi)
  | _ => false
theorem is_tuple_up_to (d : D) (lo hi : Int) (h : isObj d = false) (st : Sto) : runFn F_is_tuple_up_to [.dat d, .dat (.int lo), .dat (.int hi)] st = .ok (.dat (.bl (isT d lo hi))) st := by
  cases d with
  | obj _ _ => cases h
  | tup xs =>
    simp only [run_ap, bindA_dat, bindA_own0, bindA_cell, bindA_own, bindA_nil, bind_ap, pure_ap, opt_some, guard_true, use_dat, use_own, peek_dat, peek_own, peeks_nil, peeks_cons, flowR_rt, flowR_nx, endFn_dat, endFn_own, evE_k, evE_v, evE_glob, evE_bin, evE_neg, evE_cmp, evE_chain, evE_isN, evE_and, evE_or, evE_not, evE_ite, evE_tup, evE_lst, evE_ix, evE_sl, evE_isI, evE_call, evE_callK, evE_bi, evE_mth, evEs_nil, evEs_cons, evDs_nil, evDs_cons, evPart_nil, evPart_cons, evAnd_nil, evAnd_cons, evOr_nil, evOr_cons, evT_val, evT_and, evT_or, evT_not, evT_cmp, evT_chain, evT_isN, evTAnd_nil, evTAnd_cons, evTOr_nil, evTOr_cons, evIt_seq, evIt_rng, evIt_enum, evIt_zip, evTg_n, evTg_t, evTg_ix, evTgs_nil, evTgs_cons, evS_asg, evS_asgT, evS_par, evS_ex, evS_ret, evS_retN, evS_iff, evS_forF, evS_whl, evS_rai, evS_pass, evS_brk, evS_cont, evSs_nil, evSs_cons, evE_compF, ite_ap, join_some, bltn, arg1, arg2, lenB, allB, anyB, intB, absB, minB, maxB, tupB, lstB, dmB, binop, cmpop, ix_tup, ix_lst, ix_scr, slB, truth, itemsOf, rngB, store1_dat, store1_cell, store1_own0, store1_own1, parM, ixSet, mthB, ty_obj, ty_int, ty_bool, ty_str, ty_tuple, ty_list, ty_dict, isObj, isInt, isBl, isStr, isTup, isLst, isDct, write_ap, at_0, at_1, at_2, set_0, set_1, set_2, List.length_cons, List.length_nil, List.replicate, List.append_nil, List.cons_append, List.nil_append, List.getElem?_cons_zero, List.getElem?_cons_succ, List.set_cons_zero, List.set_cons_succ, Nat.sub_self, Nat.reduceAdd, Nat.reduceSub, if_true, if_false, Bool.false_eq_true, Bool.not_true, Bool.not_false, Tg.slots, Tgs.slots, wipe, decide_true, decide_false, Bool.and_true, Bool.true_and, Bool.and_false, Bool.false_and, mulOk_r, mulOk_l, pow15, pow60, Int.reduceLT, Int.reduceNeg, endFn_set, endFn_setO, mulOk_mod, deq_int, din_int, din_lot, deq_lot, deq_bl, permL, List.filterMap_cons, List.filterMap_nil, List.map_cons, List.map_nil, beq_self_eq_true, isTupD, ite_bool, ite_tf, ix_tab0, ix_tab1, F_is_tuple_up_to, B_is_tuple_up_to, isT]
    by_cases h1 : lo ≤ (xs.length : Int) <;> by_cases h2 : (xs.length : Int) ≤ hi <;> simp only [run_ap, bindA_dat, bindA_own0, bindA_cell, bindA_own, bindA_nil, bind_ap, pure_ap, opt_some, guard_true, use_dat, use_own, peek_dat, peek_own, peeks_nil, peeks_cons, flowR_rt, flowR_nx, endFn_dat, endFn_own, evE_k, evE_v, evE_glob, evE_bin, evE_neg, evE_cmp, evE_chain, evE_isN, evE_and, evE_or, evE_not, evE_ite, evE_tup, evE_lst, evE_ix, evE_sl, evE_isI, evE_call, evE_callK, evE_bi, evE_mth, evEs_nil, evEs_cons, evDs_nil, evDs_cons, evPart_nil, evPart_cons, evAnd_nil, evAnd_cons, evOr_nil, evOr_cons, evT_val, evT_and, evT_or, evT_not, evT_cmp, evT_chain, evT_isN, evTAnd_nil, evTAnd_cons, evTOr_nil, evTOr_cons, evIt_seq, evIt_rng, evIt_enum, evIt_zip, evTg_n, evTg_t, evTg_ix, evTgs_nil, evTgs_cons, evS_asg, evS_asgT, evS_par, evS_ex, evS_ret, evS_retN, evS_iff, evS_forF, evS_whl, evS_rai, evS_pass, evS_brk, evS_cont, evSs_nil, evSs_cons, evE_compF, ite_ap, join_some, bltn, arg1, arg2, lenB, allB, anyB, intB, absB, minB, maxB, tupB, lstB, dmB, binop, cmpop, ix_tup, ix_lst, ix_scr, slB, truth, itemsOf, rngB, store1_dat, store1_cell, store1_own0, store1_own1, parM, ixSet, mthB, ty_obj, ty_int, ty_bool, ty_str, ty_tuple, ty_list, ty_dict, isObj, isInt, isBl, isStr, isTup, isLst, isDct, write_ap, at_0, at_1, at_2, set_0, set_1, set_2, List.length_cons, List.length_nil, List.replicate, List.append_nil, List.cons_append, List.nil_append, List.getElem?_cons_zero, List.getElem?_cons_succ, List.set_cons_zero, List.set_cons_succ, Nat.sub_self, Nat.reduceAdd, Nat.reduceSub, if_true, if_false, Bool.false_eq_true, Bool.not_true, Bool.not_false, Tg.slots, Tgs.slots, wipe, decide_true, decide_false, Bool.and_true, Bool.true_and, Bool.and_false, Bool.false_and, mulOk_r, mulOk_l, pow15, pow60, Int.reduceLT, Int.reduceNeg, endFn_set, endFn_setO, mulOk_mod, deq_int, din_int, din_lot, deq_lot, deq_bl, permL, List.filterMap_cons, List.filterMap_nil, List.map_cons, List.map_nil, beq_self_eq_true, isTupD, ite_bool, ite_tf, ix_tab0, ix_tab1, h1, h2]
  | _ =>
    simp only [run_ap, bindA_dat, bindA_own0, bindA_cell, bindA_own, bindA_nil, bind_ap, pure_ap, opt_some, guard_true, use_dat, use_own, peek_dat, peek_own, peeks_nil, peeks_cons, flowR_rt, flowR_nx, endFn_dat, endFn_own, evE_k, evE_v, evE_glob, evE_bin, evE_neg, evE_cmp, evE_chain, evE_isN, evE_and, evE_or, evE_not, evE_ite, evE_tup, evE_lst, evE_ix, evE_sl, evE_isI, evE_call, evE_callK, evE_bi, evE_mth, evEs_nil, evEs_cons, evDs_nil, evDs_cons, evPart_nil, evPart_cons, evAnd_nil, evAnd_cons, evOr_nil, evOr_cons, evT_val, evT_and, evT_or, evT_not, evT_cmp, evT_chain, evT_isN, evTAnd_nil, evTAnd_cons, evTOr_nil, evTOr_cons, evIt_seq, evIt_rng, evIt_enum, evIt_zip, evTg_n, evTg_t, evTg_ix, evTgs_nil, evTgs_cons, evS_asg, evS_asgT, evS_par, evS_ex, evS_ret, evS_retN, evS_iff, evS_forF, evS_whl, evS_rai, evS_pass, evS_brk, evS_cont, evSs_nil, evSs_cons, evE_compF, ite_ap, join_some, bltn, arg1, arg2, lenB, allB, anyB, intB, absB, minB, maxB, tupB, lstB, dmB, binop, cmpop, ix_tup, ix_lst, ix_scr, slB, truth, itemsOf, rngB, store1_dat, store1_cell, store1_own0, store1_own1, parM, ixSet, mthB, ty_obj, ty_int, ty_bool, ty_str, ty_tuple, ty_list, ty_dict, isObj, isInt, isBl, isStr, isTup, isLst, isDct, write_ap, at_0, at_1, at_2, set_0, set_1, set_2, List.length_cons, List.length_nil, List.replicate, List.append_nil, List.cons_append, List.nil_append, List.getElem?_cons_zero, List.getElem?_cons_succ, List.set_cons_zero, List.set_cons_succ, Nat.sub_self, Nat.reduceAdd, Nat.reduceSub, if_true, if_false, Bool.false_eq_true, Bool.not_true, Bool.not_false, Tg.slots, Tgs.slots, wipe, decide_true, decide_false, Bool.and_true, Bool.true_and, Bool.and_false, Bool.false_and, mulOk_r, mulOk_l, pow15, pow60, Int.reduceLT, Int.reduceNeg, endFn_set, endFn_setO, mulOk_mod, deq_int, din_int, din_lot, deq_lot, deq_bl, permL, List.filterMap_cons, List.filterMap_nil, List.map_cons, List.map_nil, beq_self_eq_true, isTupD, ite_bool, ite_tf, ix_tab0, ix_tab1, F_is_tuple_up_to, B_is_tuple_up_to, isT]
theorem is_tuple_of (d : D) (n : Int) (h : isObj d = false) (st : Sto) : runFn F_is_tuple_of [.dat d, .dat (.int n)] st = .ok (.dat (.bl (isT d n n))) st := by
  simp only [run_ap, bindA_dat, bindA_own0, bindA_cell, bindA_own, bindA_nil, bind_ap, pure_ap, opt_some, guard_true, use_dat, use_own, peek_dat, peek_own, peeks_nil, peeks_cons, flowR_rt, flowR_nx, endFn_dat, endFn_own, evE_k, evE_v, evE_glob, evE_bin, evE_neg, evE_cmp, evE_chain, evE_isN, evE_and, evE_or, evE_not, evE_ite, evE_tup, evE_lst, evE_ix, evE_sl, evE_isI, evE_call, evE_callK, evE_bi, evE_mth, evEs_nil, evEs_cons, evDs_nil, evDs_cons, evPart_nil, evPart_cons, evAnd_nil, evAnd_cons, evOr_nil, evOr_cons, evT_val, evT_and, evT_or, evT_not, evT_cmp, evT_chain, evT_isN, evTAnd_nil, evTAnd_cons, evTOr_nil, evTOr_cons, evIt_seq, evIt_rng, evIt_enum, evIt_zip, evTg_n, evTg_t, evTg_ix, evTgs_nil, evTgs_cons, evS_asg, evS_asgT, evS_par, evS_ex, evS_ret, evS_retN, evS_iff, evS_forF, evS_whl, evS_rai, evS_pass, evS_brk, evS_cont, evSs_nil, evSs_cons, evE_compF, ite_ap, join_some, bltn, arg1, arg2, lenB, allB, anyB, intB, absB, minB, maxB, tupB, lstB, dmB, binop, cmpop, ix_tup, ix_lst, ix_scr, slB, truth, itemsOf, rngB, store1_dat, store1_cell, store1_own0, store1_own1, parM, ixSet, mthB, ty_obj, ty_int, ty_bool, ty_str, ty_tuple, ty_list, ty_dict, isObj, isInt, isBl, isStr, isTup, isLst, isDct, write_ap, at_0, at_1, at_2, set_0, set_1, set_2, List.length_cons, List.length_nil, List.replicate, List.append_nil, List.cons_append, List.nil_append, List.getElem?_cons_zero, List.getElem?_cons_succ, List.set_cons_zero, List.set_cons_succ, Nat.sub_self, Nat.reduceAdd, Nat.reduceSub, if_true, if_false, Bool.false_eq_true, Bool.not_true, Bool.not_false, Tg.slots, Tgs.slots, wipe, decide_true, decide_false, Bool.and_true, Bool.true_and, Bool.and_false, Bool.false_and, mulOk_r, mulOk_l, pow15, pow60, Int.reduceLT, Int.reduceNeg, endFn_set, endFn_setO, mulOk_mod, deq_int, din_int, din_lot, deq_lot, deq_bl, permL, List.filterMap_cons, List.filterMap_nil, List.map_cons, List.map_nil, beq_self_eq_true, isTupD, ite_bool, ite_tf, ix_tab0, ix_tab1, F_is_tuple_of, B_is_tuple_of, is_tuple_up_to d n n h]
theorem is_pair (d : D) (h : isObj d = false) (st : Sto) : runFn F_is_pair [.dat d] st = .ok (.dat (.bl (isT d 2 2))) st := by
  simp only [run_ap, bindA_dat, bindA_own0, bindA_cell, bindA_own, bindA_nil, bind_ap, pure_ap, opt_some, guard_true, use_dat, use_own, peek_dat, peek_own, peeks_nil, peeks_cons, flowR_rt, flowR_nx, endFn_dat, endFn_own, evE_k, evE_v, evE_glob, evE_bin, evE_neg, evE_cmp, evE_chain, evE_isN, evE_and, evE_or, evE_not, evE_ite, evE_tup, evE_lst, evE_ix, evE_sl, evE_isI, evE_call, evE_callK, evE_bi, evE_mth, evEs_nil, evEs_cons, evDs_nil, evDs_cons, evPart_nil, evPart_cons, evAnd_nil, evAnd_cons, evOr_nil, evOr_cons, evT_val, evT_and, evT_or, evT_not, evT_cmp, evT_chain, evT_isN, evTAnd_nil, evTAnd_cons, evTOr_nil, evTOr_cons, evIt_seq, evIt_rng, evIt_enum, evIt_zip, evTg_n, evTg_t, evTg_ix, evTgs_nil, evTgs_cons, evS_asg, evS_asgT, evS_par, evS_ex, evS_ret, evS_retN, evS_iff, evS_forF, evS_whl, evS_rai, evS_pass, evS_brk, evS_cont, evSs_nil, evSs_cons, evE_compF, ite_ap, join_some, bltn, arg1, arg2, lenB, allB, anyB, intB, absB, minB, maxB, tupB, lstB, dmB, binop, cmpop, ix_tup, ix_lst, ix_scr, slB, truth, itemsOf, rngB, store1_dat, store1_cell, store1_own0, store1_own1, parM, ixSet, mthB, ty_obj, ty_int, ty_bool, ty_str, ty_tuple, ty_list, ty_dict, isObj, isInt, isBl, isStr, isTup, isLst, isDct, write_ap, at_0, at_1, at_2, set_0, set_1, set_2, List.length_cons, List.length_nil, List.replicate, List.append_nil, List.cons_append, List.nil_append, List.getElem?_cons_zero, List.getElem?_cons_succ, List.set_cons_zero, List.set_cons_succ, Nat.sub_self, Nat.reduceAdd, Nat.reduceSub, if_true, if_false, Bool.false_eq_true, Bool.not_true, Bool.not_false, Tg.slots, Tgs.slots, wipe, decide_true, decide_false, Bool.and_true, Bool.true_and, Bool.and_false, Bool.false_and, mulOk_r, mulOk_l, pow15, pow60, Int.reduceLT, Int.reduceNeg, endFn_set, endFn_setO, mulOk_mod, deq_int, din_int, din_lot, deq_lot, deq_bl, permL, List.filterMap_cons, List.filterMap_nil, List.map_cons, List.map_nil, beq_self_eq_true, isTupD, ite_bool, ite_tf, ix_tab0, ix_tab1, F_is_pair, B_is_pair, is_tuple_of d 2 h]
theorem are_rising (l : List Int) (h : l.Pairwise (· < ·)) (st : Sto) : runFn F_are_rising [.dat (lotD l)] st = .ok (.dat (.bl true)) st := by
  have hc : compM (compF tg_are_rising_0 cd_are_rising_0 el_are_rising_0 [some (.dat (.tup (l.map D.int))), none, none]) ((l.zip (l.drop 1)).map fun p => .tup [.int p.1, .int p.2]) st = .ok ((l.zip (l.drop 1)).map fun p => .bl (decide (p.1 < p.2))) st := by
    refine compM_map fun p hp => ?_
    simp only [run_ap, bindA_dat, bindA_own0, bindA_cell, bindA_own, bindA_nil, bind_ap, pure_ap, opt_some, guard_true, use_dat, use_own, peek_dat, peek_own, peeks_nil, peeks_cons, flowR_rt, flowR_nx, endFn_dat, endFn_own, evE_k, evE_v, evE_glob, evE_bin, evE_neg, evE_cmp, evE_chain, evE_isN, evE_and, evE_or, evE_not, evE_ite, evE_tup, evE_lst, evE_ix, evE_sl, evE_isI, evE_call, evE_callK, evE_bi, evE_mth, evEs_nil, evEs_cons, evDs_nil, evDs_cons, evPart_nil, evPart_cons, evAnd_nil, evAnd_cons, evOr_nil, evOr_cons, evT_val, evT_and, evT_or, evT_not, evT_cmp, evT_chain, evT_isN, evTAnd_nil, evTAnd_cons, evTOr_nil, evTOr_cons, evIt_seq, evIt_rng, evIt_enum, evIt_zip, evTg_n, evTg_t, evTg_ix, evTgs_nil, evTgs_cons, evS_asg, evS_asgT, evS_par, evS_ex, evS_ret, evS_retN, evS_iff, evS_forF, evS_whl, evS_rai, evS_pass, evS_brk, evS_cont, evSs_nil, evSs_cons, evE_compF, ite_ap, join_some, bltn, arg1, arg2, lenB, allB, anyB, intB, absB, minB, maxB, tupB, lstB, dmB, binop, cmpop, ix_tup, ix_lst, ix_scr, slB, truth, itemsOf, rngB, store1_dat, store1_cell, store1_own0, store1_own1, parM, ixSet, mthB, ty_obj, ty_int, ty_bool, ty_str, ty_tuple, ty_list, ty_dict, isObj, isInt, isBl, isStr, isTup, isLst, isDct, write_ap, at_0, at_1, at_2, set_0, set_1, set_2, List.length_cons, List.length_nil, List.replicate, List.append_nil, List.cons_append, List.nil_append, List.getElem?_cons_zero, List.getElem?_cons_succ, List.set_cons_zero, List.set_cons_succ, Nat.sub_self, Nat.reduceAdd, Nat.reduceSub, if_true, if_false, Bool.false_eq_true, Bool.not_true, Bool.not_false, Tg.slots, Tgs.slots, wipe, decide_true, decide_false, Bool.and_true, Bool.true_and, Bool.and_false, Bool.false_and, mulOk_r, mulOk_l, pow15, pow60, Int.reduceLT, Int.reduceNeg, endFn_set, endFn_setO, mulOk_mod, deq_int, din_int, din_lot, deq_lot, deq_bl, permL, List.filterMap_cons, List.filterMap_nil, List.map_cons, List.map_nil, beq_self_eq_true, isTupD, ite_bool, ite_tf, ix_tab0, ix_tab1, compF_ap, tg_are_rising_0, cd_are_rising_0, el_are_rising_0]
  simp only [run_ap, bindA_dat, bindA_own0, bindA_cell, bindA_own, bindA_nil, bind_ap, pure_ap, opt_some, guard_true, use_dat, use_own, peek_dat, peek_own, peeks_nil, peeks_cons, flowR_rt, flowR_nx, endFn_dat, endFn_own, evE_k, evE_v, evE_glob, evE_bin, evE_neg, evE_cmp, evE_chain, evE_isN, evE_and, evE_or, evE_not, evE_ite, evE_tup, evE_lst, evE_ix, evE_sl, evE_isI, evE_call, evE_callK, evE_bi, evE_mth, evEs_nil, evEs_cons, evDs_nil, evDs_cons, evPart_nil, evPart_cons, evAnd_nil, evAnd_cons, evOr_nil, evOr_cons, evT_val, evT_and, evT_or, evT_not, evT_cmp, evT_chain, evT_isN, evTAnd_nil, evTAnd_cons, evTOr_nil, evTOr_cons, evIt_seq, evIt_rng, evIt_enum, evIt_zip, evTg_n, evTg_t, evTg_ix, evTgs_nil, evTgs_cons, evS_asg, evS_asgT, evS_par, evS_ex, evS_ret, evS_retN, evS_iff, evS_forF, evS_whl, evS_rai, evS_pass, evS_brk, evS_cont, evSs_nil, evSs_cons, evE_compF, ite_ap, join_some, bltn, arg1, arg2, lenB, allB, anyB, intB, absB, minB, maxB, tupB, lstB, dmB, binop, cmpop, ix_tup, ix_lst, ix_scr, slB, truth, itemsOf, rngB, store1_dat, store1_cell, store1_own0, store1_own1, parM, ixSet, mthB, ty_obj, ty_int, ty_bool, ty_str, ty_tuple, ty_list, ty_dict, isObj, isInt, isBl, isStr, isTup, isLst, isDct, write_ap, at_0, at_1, at_2, set_0, set_1, set_2, List.length_cons, List.length_nil, List.replicate, List.append_nil, List.cons_append, List.nil_append, List.getElem?_cons_zero, List.getElem?_cons_succ, List.set_cons_zero, List.set_cons_succ, Nat.sub_self, Nat.reduceAdd, Nat.reduceSub, if_true, if_false, Bool.false_eq_true, Bool.not_true, Bool.not_false, Tg.slots, Tgs.slots, wipe, decide_true, decide_false, Bool.and_true, Bool.true_and, Bool.and_false, Bool.false_and, mulOk_r, mulOk_l, pow15, pow60, Int.reduceLT, Int.reduceNeg, endFn_set, endFn_setO, mulOk_mod, deq_int, din_int, din_lot, deq_lot, deq_bl, permL, List.filterMap_cons, List.filterMap_nil, List.map_cons, List.map_nil, beq_self_eq_true, isTupD, ite_bool, ite_tf, ix_tab0, ix_tab1, F_are_rising, B_are_rising, lotD, cut_from1, isTupD, beq_self_eq_true, ← List.map_drop, zipD_map, hc, blsOf_map (fun p : Int × Int => decide (p.1 < p.2))]
  rw [List.all_map]
  congr 3
  exact all_zip_rise h
theorem is_lot_of (b : Int) (l : List Int) (hb : 0 ≤ b) (h : Lot b l) (st : Sto) : runFn F_is_lot_of [.dat (.int b), .dat (lotD l)] st = .ok (.dat (.bl true)) st := by
  have hc : compM (compF tg_is_lot_of_0 cd_is_lot_of_0 el_is_lot_of_0 [some (.dat (.int b)), some (.dat (lotD l)), none]) (l.map D.int) st = .ok (l.map fun x => .bl (isB (.int x) 0 (b - 1))) st := by
    refine compM_map fun x hx => ?_
    simp only [run_ap, bindA_dat, bindA_own0, bindA_cell, bindA_own, bindA_nil, bind_ap, pure_ap, opt_some, guard_true, use_dat, use_own, peek_dat, peek_own, peeks_nil, peeks_cons, flowR_rt, flowR_nx, endFn_dat, endFn_own, evE_k, evE_v, evE_glob, evE_bin, evE_neg, evE_cmp, evE_chain, evE_isN, evE_and, evE_or, evE_not, evE_ite, evE_tup, evE_lst, evE_ix, evE_sl, evE_isI, evE_call, evE_callK, evE_bi, evE_mth, evEs_nil, evEs_cons, evDs_nil, evDs_cons, evPart_nil, evPart_cons, evAnd_nil, evAnd_cons, evOr_nil, evOr_cons, evT_val, evT_and, evT_or, evT_not, evT_cmp, evT_chain, evT_isN, evTAnd_nil, evTAnd_cons, evTOr_nil, evTOr_cons, evIt_seq, evIt_rng, evIt_enum, evIt_zip, evTg_n, evTg_t, evTg_ix, evTgs_nil, evTgs_cons, evS_asg, evS_asgT, evS_par, evS_ex, evS_ret, evS_retN, evS_iff, evS_forF, evS_whl, evS_rai, evS_pass, evS_brk, evS_cont, evSs_nil, evSs_cons, evE_compF, ite_ap, join_some, bltn, arg1, arg2, lenB, allB, anyB, intB, absB, minB, maxB, tupB, lstB, dmB, binop, cmpop, ix_tup, ix_lst, ix_scr, slB, truth, itemsOf, rngB, store1_dat, store1_cell, store1_own0, store1_own1, parM, ixSet, mthB, ty_obj, ty_int, ty_bool, ty_str, ty_tuple, ty_list, ty_dict, isObj, isInt, isBl, isStr, isTup, isLst, isDct, write_ap, at_0, at_1, at_2, set_0, set_1, set_2, List.length_cons, List.length_nil, List.replicate, List.append_nil, List.cons_append, List.nil_append, List.getElem?_cons_zero, List.getElem?_cons_succ, List.set_cons_zero, List.set_cons_succ, Nat.sub_self, Nat.reduceAdd, Nat.reduceSub, if_true, if_false, Bool.false_eq_true, Bool.not_true, Bool.not_false, Tg.slots, Tgs.slots, wipe, decide_true, decide_false, Bool.and_true, Bool.true_and, Bool.and_false, Bool.false_and, mulOk_r, mulOk_l, pow15, pow60, Int.reduceLT, Int.reduceNeg, endFn_set, endFn_setO, mulOk_mod, deq_int, din_int, din_lot, deq_lot, deq_bl, permL, List.filterMap_cons, List.filterMap_nil, List.map_cons, List.map_nil, beq_self_eq_true, isTupD, ite_bool, ite_tf, ix_tab0, ix_tab1, compF_ap, tg_is_lot_of_0, cd_is_lot_of_0, el_is_lot_of_0, is_up_to (.int x) (b - 1) rfl]
  have h1 : isT (lotD l) 0 b = true := by
    have := h.len hb
    show (decide ((0 : Int) ≤ ((l.map D.int).length : Int)) && decide (((l.map D.int).length : Int) ≤ b)) = true
    rw [List.length_map, Bool.and_eq_true]
    exact ⟨decide_eq_true (by omega), decide_eq_true this⟩
  have h2 : (l.map fun x => isB (.int x) 0 (b - 1)).all id = true := by
    rw [List.all_map, List.all_eq_true]
    intro x hx
    have := h.rng x hx
    show (decide (0 ≤ x) && decide (x ≤ b - 1)) = true
    rw [Bool.and_eq_true]
    exact ⟨decide_eq_true this.1, decide_eq_true (by omega)⟩
  have e0 : lotD l = .tup (l.map D.int) := rfl
  simp only [run_ap, bindA_dat, bindA_own0, bindA_cell, bindA_own, bindA_nil, bind_ap, pure_ap, opt_some, guard_true, use_dat, use_own, peek_dat, peek_own, peeks_nil, peeks_cons, flowR_rt, flowR_nx, endFn_dat, endFn_own, evE_k, evE_v, evE_glob, evE_bin, evE_neg, evE_cmp, evE_chain, evE_isN, evE_and, evE_or, evE_not, evE_ite, evE_tup, evE_lst, evE_ix, evE_sl, evE_isI, evE_call, evE_callK, evE_bi, evE_mth, evEs_nil, evEs_cons, evDs_nil, evDs_cons, evPart_nil, evPart_cons, evAnd_nil, evAnd_cons, evOr_nil, evOr_cons, evT_val, evT_and, evT_or, evT_not, evT_cmp, evT_chain, evT_isN, evTAnd_nil, evTAnd_cons, evTOr_nil, evTOr_cons, evIt_seq, evIt_rng, evIt_enum, evIt_zip, evTg_n, evTg_t, evTg_ix, evTgs_nil, evTgs_cons, evS_asg, evS_asgT, evS_par, evS_ex, evS_ret, evS_retN, evS_iff, evS_forF, evS_whl, evS_rai, evS_pass, evS_brk, evS_cont, evSs_nil, evSs_cons, evE_compF, ite_ap, join_some, bltn, arg1, arg2, lenB, allB, anyB, intB, absB, minB, maxB, tupB, lstB, dmB, binop, cmpop, ix_tup, ix_lst, ix_scr, slB, truth, itemsOf, rngB, store1_dat, store1_cell, store1_own0, store1_own1, parM, ixSet, mthB, ty_obj, ty_int, ty_bool, ty_str, ty_tuple, ty_list, ty_dict, isObj, isInt, isBl, isStr, isTup, isLst, isDct, write_ap, at_0, at_1, at_2, set_0, set_1, set_2, List.length_cons, List.length_nil, List.replicate, List.append_nil, List.cons_append, List.nil_append, List.getElem?_cons_zero, List.getElem?_cons_succ, List.set_cons_zero, List.set_cons_succ, Nat.sub_self, Nat.reduceAdd, Nat.reduceSub, if_true, if_false, Bool.false_eq_true, Bool.not_true, Bool.not_false, Tg.slots, Tgs.slots, wipe, decide_true, decide_false, Bool.and_true, Bool.true_and, Bool.and_false, Bool.false_and, mulOk_r, mulOk_l, pow15, pow60, Int.reduceLT, Int.reduceNeg, endFn_set, endFn_setO, mulOk_mod, deq_int, din_int, din_lot, deq_lot, deq_bl, permL, List.filterMap_cons, List.filterMap_nil, List.map_cons, List.map_nil, beq_self_eq_true, isTupD, ite_bool, ite_tf, ix_tab0, ix_tab1, F_is_lot_of, B_is_lot_of, is_tuple_up_to (lotD l) 0 b rfl, h1]
  simp only [e0] at hc ⊢
  simp only [run_ap, bindA_dat, bindA_own0, bindA_cell, bindA_own, bindA_nil, bind_ap, pure_ap, opt_some, guard_true, use_dat, use_own, peek_dat, peek_own, peeks_nil, peeks_cons, flowR_rt, flowR_nx, endFn_dat, endFn_own, evE_k, evE_v, evE_glob, evE_bin, evE_neg, evE_cmp, evE_chain, evE_isN, evE_and, evE_or, evE_not, evE_ite, evE_tup, evE_lst, evE_ix, evE_sl, evE_isI, evE_call, evE_callK, evE_bi, evE_mth, evEs_nil, evEs_cons, evDs_nil, evDs_cons, evPart_nil, evPart_cons, evAnd_nil, evAnd_cons, evOr_nil, evOr_cons, evT_val, evT_and, evT_or, evT_not, evT_cmp, evT_chain, evT_isN, evTAnd_nil, evTAnd_cons, evTOr_nil, evTOr_cons, evIt_seq, evIt_rng, evIt_enum, evIt_zip, evTg_n, evTg_t, evTg_ix, evTgs_nil, evTgs_cons, evS_asg, evS_asgT, evS_par, evS_ex, evS_ret, evS_retN, evS_iff, evS_forF, evS_whl, evS_rai, evS_pass, evS_brk, evS_cont, evSs_nil, evSs_cons, evE_compF, ite_ap, join_some, bltn, arg1, arg2, lenB, allB, anyB, intB, absB, minB, maxB, tupB, lstB, dmB, binop, cmpop, ix_tup, ix_lst, ix_scr, slB, truth, itemsOf, rngB, store1_dat, store1_cell, store1_own0, store1_own1, parM, ixSet, mthB, ty_obj, ty_int, ty_bool, ty_str, ty_tuple, ty_list, ty_dict, isObj, isInt, isBl, isStr, isTup, isLst, isDct, write_ap, at_0, at_1, at_2, set_0, set_1, set_2, List.length_cons, List.length_nil, List.replicate, List.append_nil, List.cons_append, List.nil_append, List.getElem?_cons_zero, List.getElem?_cons_succ, List.set_cons_zero, List.set_cons_succ, Nat.sub_self, Nat.reduceAdd, Nat.reduceSub, if_true, if_false, Bool.false_eq_true, Bool.not_true, Bool.not_false, Tg.slots, Tgs.slots, wipe, decide_true, decide_false, Bool.and_true, Bool.true_and, Bool.and_false, Bool.false_and, mulOk_r, mulOk_l, pow15, pow60, Int.reduceLT, Int.reduceNeg, endFn_set, endFn_setO, mulOk_mod, deq_int, din_int, din_lot, deq_lot, deq_bl, permL, List.filterMap_cons, List.filterMap_nil, List.map_cons, List.map_nil, beq_self_eq_true, isTupD, ite_bool, ite_tf, ix_tab0, ix_tab1, hc, blsOf_map (fun x : Int => isB (.int x) 0 (b - 1)), h2]
  simp only [← e0, are_rising l h.up]
  simp only [run_ap, bindA_dat, bindA_own0, bindA_cell, bindA_own, bindA_nil, bind_ap, pure_ap, opt_some, guard_true, use_dat, use_own, peek_dat, peek_own, peeks_nil, peeks_cons, flowR_rt, flowR_nx, endFn_dat, endFn_own, evE_k, evE_v, evE_glob, evE_bin, evE_neg, evE_cmp, evE_chain, evE_isN, evE_and, evE_or, evE_not, evE_ite, evE_tup, evE_lst, evE_ix, evE_sl, evE_isI, evE_call, evE_callK, evE_bi, evE_mth, evEs_nil, evEs_cons, evDs_nil, evDs_cons, evPart_nil, evPart_cons, evAnd_nil, evAnd_cons, evOr_nil, evOr_cons, evT_val, evT_and, evT_or, evT_not, evT_cmp, evT_chain, evT_isN, evTAnd_nil, evTAnd_cons, evTOr_nil, evTOr_cons, evIt_seq, evIt_rng, evIt_enum, evIt_zip, evTg_n, evTg_t, evTg_ix, evTgs_nil, evTgs_cons, evS_asg, evS_asgT, evS_par, evS_ex, evS_ret, evS_retN, evS_iff, evS_forF, evS_whl, evS_rai, evS_pass, evS_brk, evS_cont, evSs_nil, evSs_cons, evE_compF, ite_ap, join_some, bltn, arg1, arg2, lenB, allB, anyB, intB, absB, minB, maxB, tupB, lstB, dmB, binop, cmpop, ix_tup, ix_lst, ix_scr, slB, truth, itemsOf, rngB, store1_dat, store1_cell, store1_own0, store1_own1, parM, ixSet, mthB, ty_obj, ty_int, ty_bool, ty_str, ty_tuple, ty_list, ty_dict, isObj, isInt, isBl, isStr, isTup, isLst, isDct, write_ap, at_0, at_1, at_2, set_0, set_1, set_2, List.length_cons, List.length_nil, List.replicate, List.append_nil, List.cons_append, List.nil_append, List.getElem?_cons_zero, List.getElem?_cons_succ, List.set_cons_zero, List.set_cons_succ, Nat.sub_self, Nat.reduceAdd, Nat.reduceSub, if_true, if_false, Bool.false_eq_true, Bool.not_true, Bool.not_false, Tg.slots, Tgs.slots, wipe, decide_true, decide_false, Bool.and_true, Bool.true_and, Bool.and_false, Bool.false_and, mulOk_r, mulOk_l, pow15, pow60, Int.reduceLT, Int.reduceNeg, endFn_set, endFn_setO, mulOk_mod, deq_int, din_int, din_lot, deq_lot, deq_bl, permL, List.filterMap_cons, List.filterMap_nil, List.map_cons, List.map_nil, beq_self_eq_true, isTupD, ite_bool, ite_tf, ix_tab0, ix_tab1]
theorem are_unlike (ls : List (List Int)) (h : ls.Nodup) (st : Sto) : runFn F_are_unlike [.dat (.tup (ls.map lotD))] st = .ok (.dat (.bl true)) st := by
  have hc : compM (compF tg_are_unlike_0 cd_are_unlike_0 el_are_unlike_0 [some (.dat (.tup (ls.map lotD))), none, none]) ((enumL 0 ls).map fun p => .tup [.int p.1, lotD p.2]) st = .ok ((enumL 0 ls).map fun p => .bl (decide (p.2 ∉ ls.take p.1.toNat))) st := by
    refine compM_map fun p hp => ?_
    have h0 : ∃ k : Nat, p.1 = k := by
      have key : ∀ (l : List (List Int)) (i : Nat), p ∈ enumL (i : Int) l → ∃ k : Nat, p.1 = k := by
        intro l
        induction l with
        | nil => intro i h; cases h
        | cons a l ih =>
          intro i h
          rcases List.mem_cons.mp h with rfl | h
          · exact ⟨i, rfl⟩
          · exact ih (i + 1) (by simpa using h)
      exact key ls 0 hp
    obtain ⟨k, hk⟩ := h0
    rw [hk]
    simp only [run_ap, bindA_dat, bindA_own0, bindA_cell, bindA_own, bindA_nil, bind_ap, pure_ap, opt_some, guard_true, use_dat, use_own, peek_dat, peek_own, peeks_nil, peeks_cons, flowR_rt, flowR_nx, endFn_dat, endFn_own, evE_k, evE_v, evE_glob, evE_bin, evE_neg, evE_cmp, evE_chain, evE_isN, evE_and, evE_or, evE_not, evE_ite, evE_tup, evE_lst, evE_ix, evE_sl, evE_isI, evE_call, evE_callK, evE_bi, evE_mth, evEs_nil, evEs_cons, evDs_nil, evDs_cons, evPart_nil, evPart_cons, evAnd_nil, evAnd_cons, evOr_nil, evOr_cons, evT_val, evT_and, evT_or, evT_not, evT_cmp, evT_chain, evT_isN, evTAnd_nil, evTAnd_cons, evTOr_nil, evTOr_cons, evIt_seq, evIt_rng, evIt_enum, evIt_zip, evTg_n, evTg_t, evTg_ix, evTgs_nil, evTgs_cons, evS_asg, evS_asgT, evS_par, evS_ex, evS_ret, evS_retN, evS_iff, evS_forF, evS_whl, evS_rai, evS_pass, evS_brk, evS_cont, evSs_nil, evSs_cons, evE_compF, ite_ap, join_some, bltn, arg1, arg2, lenB, allB, anyB, intB, absB, minB, maxB, tupB, lstB, dmB, binop, cmpop, ix_tup, ix_lst, ix_scr, slB, truth, itemsOf, rngB, store1_dat, store1_cell, store1_own0, store1_own1, parM, ixSet, mthB, ty_obj, ty_int, ty_bool, ty_str, ty_tuple, ty_list, ty_dict, isObj, isInt, isBl, isStr, isTup, isLst, isDct, write_ap, at_0, at_1, at_2, set_0, set_1, set_2, List.length_cons, List.length_nil, List.replicate, List.append_nil, List.cons_append, List.nil_append, List.getElem?_cons_zero, List.getElem?_cons_succ, List.set_cons_zero, List.set_cons_succ, Nat.sub_self, Nat.reduceAdd, Nat.reduceSub, if_true, if_false, Bool.false_eq_true, Bool.not_true, Bool.not_false, Tg.slots, Tgs.slots, wipe, decide_true, decide_false, Bool.and_true, Bool.true_and, Bool.and_false, Bool.false_and, mulOk_r, mulOk_l, pow15, pow60, Int.reduceLT, Int.reduceNeg, endFn_set, endFn_setO, mulOk_mod, deq_int, din_int, din_lot, deq_lot, deq_bl, permL, List.filterMap_cons, List.filterMap_nil, List.map_cons, List.map_nil, beq_self_eq_true, isTupD, ite_bool, ite_tf, ix_tab0, ix_tab1, compF_ap, tg_are_unlike_0, cd_are_unlike_0, el_are_unlike_0, cut_to, ← List.map_take, Int.toNat_natCast]
    simp only [decide_not]
  simp only [run_ap, bindA_dat, bindA_own0, bindA_cell, bindA_own, bindA_nil, bind_ap, pure_ap, opt_some, guard_true, use_dat, use_own, peek_dat, peek_own, peeks_nil, peeks_cons, flowR_rt, flowR_nx, endFn_dat, endFn_own, evE_k, evE_v, evE_glob, evE_bin, evE_neg, evE_cmp, evE_chain, evE_isN, evE_and, evE_or, evE_not, evE_ite, evE_tup, evE_lst, evE_ix, evE_sl, evE_isI, evE_call, evE_callK, evE_bi, evE_mth, evEs_nil, evEs_cons, evDs_nil, evDs_cons, evPart_nil, evPart_cons, evAnd_nil, evAnd_cons, evOr_nil, evOr_cons, evT_val, evT_and, evT_or, evT_not, evT_cmp, evT_chain, evT_isN, evTAnd_nil, evTAnd_cons, evTOr_nil, evTOr_cons, evIt_seq, evIt_rng, evIt_enum, evIt_zip, evTg_n, evTg_t, evTg_ix, evTgs_nil, evTgs_cons, evS_asg, evS_asgT, evS_par, evS_ex, evS_ret, evS_retN, evS_iff, evS_forF, evS_whl, evS_rai, evS_pass, evS_brk, evS_cont, evSs_nil, evSs_cons, evE_compF, ite_ap, join_some, bltn, arg1, arg2, lenB, allB, anyB, intB, absB, minB, maxB, tupB, lstB, dmB, binop, cmpop, ix_tup, ix_lst, ix_scr, slB, truth, itemsOf, rngB, store1_dat, store1_cell, store1_own0, store1_own1, parM, ixSet, mthB, ty_obj, ty_int, ty_bool, ty_str, ty_tuple, ty_list, ty_dict, isObj, isInt, isBl, isStr, isTup, isLst, isDct, write_ap, at_0, at_1, at_2, set_0, set_1, set_2, List.length_cons, List.length_nil, List.replicate, List.append_nil, List.cons_append, List.nil_append, List.getElem?_cons_zero, List.getElem?_cons_succ, List.set_cons_zero, List.set_cons_succ, Nat.sub_self, Nat.reduceAdd, Nat.reduceSub, if_true, if_false, Bool.false_eq_true, Bool.not_true, Bool.not_false, Tg.slots, Tgs.slots, wipe, decide_true, decide_false, Bool.and_true, Bool.true_and, Bool.and_false, Bool.false_and, mulOk_r, mulOk_l, pow15, pow60, Int.reduceLT, Int.reduceNeg, endFn_set, endFn_setO, mulOk_mod, deq_int, din_int, din_lot, deq_lot, deq_bl, permL, List.filterMap_cons, List.filterMap_nil, List.map_cons, List.map_nil, beq_self_eq_true, isTupD, ite_bool, ite_tf, ix_tab0, ix_tab1, F_are_unlike, B_are_unlike, enumD_map, hc, blsOf_map (fun p : Int × List Int => decide (p.2 ∉ ls.take p.1.toNat))]
  rw [List.all_map]
  congr 3
  exact enum_unlike ls [] h
theorem is_table_of (b : Int) (ls : List (List Int)) (h : Tb 12 16 b ls) (st : Sto) : runFn F_is_table_of [.dat (tabD b ls)] st = .ok (.dat (.bl true)) st := by
  have hc : compM (compF tg_is_table_of_0 cd_is_table_of_0 el_is_table_of_0 [some (.dat (.tup [.int b, .tup (ls.map lotD)])), none]) (ls.map lotD) st = .ok (ls.map fun _ => .bl true) st := by
    refine compM_map fun l hl => ?_
    simp only [run_ap, bindA_dat, bindA_own0, bindA_cell, bindA_own, bindA_nil, bind_ap, pure_ap, opt_some, guard_true, use_dat, use_own, peek_dat, peek_own, peeks_nil, peeks_cons, flowR_rt, flowR_nx, endFn_dat, endFn_own, evE_k, evE_v, evE_glob, evE_bin, evE_neg, evE_cmp, evE_chain, evE_isN, evE_and, evE_or, evE_not, evE_ite, evE_tup, evE_lst, evE_ix, evE_sl, evE_isI, evE_call, evE_callK, evE_bi, evE_mth, evEs_nil, evEs_cons, evDs_nil, evDs_cons, evPart_nil, evPart_cons, evAnd_nil, evAnd_cons, evOr_nil, evOr_cons, evT_val, evT_and, evT_or, evT_not, evT_cmp, evT_chain, evT_isN, evTAnd_nil, evTAnd_cons, evTOr_nil, evTOr_cons, evIt_seq, evIt_rng, evIt_enum, evIt_zip, evTg_n, evTg_t, evTg_ix, evTgs_nil, evTgs_cons, evS_asg, evS_asgT, evS_par, evS_ex, evS_ret, evS_retN, evS_iff, evS_forF, evS_whl, evS_rai, evS_pass, evS_brk, evS_cont, evSs_nil, evSs_cons, evE_compF, ite_ap, join_some, bltn, arg1, arg2, lenB, allB, anyB, intB, absB, minB, maxB, tupB, lstB, dmB, binop, cmpop, ix_tup, ix_lst, ix_scr, slB, truth, itemsOf, rngB, store1_dat, store1_cell, store1_own0, store1_own1, parM, ixSet, mthB, ty_obj, ty_int, ty_bool, ty_str, ty_tuple, ty_list, ty_dict, isObj, isInt, isBl, isStr, isTup, isLst, isDct, write_ap, at_0, at_1, at_2, set_0, set_1, set_2, List.length_cons, List.length_nil, List.replicate, List.append_nil, List.cons_append, List.nil_append, List.getElem?_cons_zero, List.getElem?_cons_succ, List.set_cons_zero, List.set_cons_succ, Nat.sub_self, Nat.reduceAdd, Nat.reduceSub, if_true, if_false, Bool.false_eq_true, Bool.not_true, Bool.not_false, Tg.slots, Tgs.slots, wipe, decide_true, decide_false, Bool.and_true, Bool.true_and, Bool.and_false, Bool.false_and, mulOk_r, mulOk_l, pow15, pow60, Int.reduceLT, Int.reduceNeg, endFn_set, endFn_setO, mulOk_mod, deq_int, din_int, din_lot, deq_lot, deq_bl, permL, List.filterMap_cons, List.filterMap_nil, List.map_cons, List.map_nil, beq_self_eq_true, isTupD, ite_bool, ite_tf, ix_tab0, ix_tab1, compF_ap, tg_is_table_of_0, cd_is_table_of_0, el_is_table_of_0, is_lot_of b l (by have := h.lo; omega) (h.lot l hl)]
  have h1 : isT (.tup [.int b, .tup (ls.map lotD)]) 2 2 = true := rfl
  have h2 : isB (.int b) 1 12 = true := by
    show (decide (1 ≤ b) && decide (b ≤ 12)) = true
    rw [Bool.and_eq_true]
    exact ⟨decide_eq_true h.lo, decide_eq_true h.hi⟩
  have h3 : isT (.tup (ls.map lotD)) 2 16 = true := by
    show (decide ((2 : Int) ≤ ((ls.map lotD).length : Int)) && decide (((ls.map lotD).length : Int) ≤ 16)) = true
    have e1 := h.two
    have e2 := h.most
    rw [List.length_map, Bool.and_eq_true]
    exact ⟨decide_eq_true (by omega), decide_eq_true (by omega)⟩
  have h4 : (ls.map fun _ => true).all id = true := by simp
  simp only [run_ap, bindA_dat, bindA_own0, bindA_cell, bindA_own, bindA_nil, bind_ap, pure_ap, opt_some, guard_true, use_dat, use_own, peek_dat, peek_own, peeks_nil, peeks_cons, flowR_rt, flowR_nx, endFn_dat, endFn_own, evE_k, evE_v, evE_glob, evE_bin, evE_neg, evE_cmp, evE_chain, evE_isN, evE_and, evE_or, evE_not, evE_ite, evE_tup, evE_lst, evE_ix, evE_sl, evE_isI, evE_call, evE_callK, evE_bi, evE_mth, evEs_nil, evEs_cons, evDs_nil, evDs_cons, evPart_nil, evPart_cons, evAnd_nil, evAnd_cons, evOr_nil, evOr_cons, evT_val, evT_and, evT_or, evT_not, evT_cmp, evT_chain, evT_isN, evTAnd_nil, evTAnd_cons, evTOr_nil, evTOr_cons, evIt_seq, evIt_rng, evIt_enum, evIt_zip, evTg_n, evTg_t, evTg_ix, evTgs_nil, evTgs_cons, evS_asg, evS_asgT, evS_par, evS_ex, evS_ret, evS_retN, evS_iff, evS_forF, evS_whl, evS_rai, evS_pass, evS_brk, evS_cont, evSs_nil, evSs_cons, evE_compF, ite_ap, join_some, bltn, arg1, arg2, lenB, allB, anyB, intB, absB, minB, maxB, tupB, lstB, dmB, binop, cmpop, ix_tup, ix_lst, ix_scr, slB, truth, itemsOf, rngB, store1_dat, store1_cell, store1_own0, store1_own1, parM, ixSet, mthB, ty_obj, ty_int, ty_bool, ty_str, ty_tuple, ty_list, ty_dict, isObj, isInt, isBl, isStr, isTup, isLst, isDct, write_ap, at_0, at_1, at_2, set_0, set_1, set_2, List.length_cons, List.length_nil, List.replicate, List.append_nil, List.cons_append, List.nil_append, List.getElem?_cons_zero, List.getElem?_cons_succ, List.set_cons_zero, List.set_cons_succ, Nat.sub_self, Nat.reduceAdd, Nat.reduceSub, if_true, if_false, Bool.false_eq_true, Bool.not_true, Bool.not_false, Tg.slots, Tgs.slots, wipe, decide_true, decide_false, Bool.and_true, Bool.true_and, Bool.and_false, Bool.false_and, mulOk_r, mulOk_l, pow15, pow60, Int.reduceLT, Int.reduceNeg, endFn_set, endFn_setO, mulOk_mod, deq_int, din_int, din_lot, deq_lot, deq_bl, permL, List.filterMap_cons, List.filterMap_nil, List.map_cons, List.map_nil, beq_self_eq_true, isTupD, ite_bool, ite_tf, ix_tab0, ix_tab1, F_is_table_of, B_is_table_of, tabD, is_pair (.tup [.int b, .tup (ls.map lotD)]) rfl, h1, G_MOST_BARS, G_LEAST_GLYPHS, G_MOST_GLYPHS, is_between (.int b) 1 12 rfl, h2, is_tuple_up_to (.tup (ls.map lotD)) 2 16 rfl, h3, hc, blsOf_map (fun _ : List Int => true), h4, are_unlike ls h.nd]
theorem check_table (b : Int) (ls : List (List Int)) (h : Tb 12 16 b ls) (st : Sto) : runFn F_check_table [.dat (tabD b ls)] st = .ok (.dat .non) st := by
  simp only [run_ap, bindA_dat, bindA_own0, bindA_cell, bindA_own, bindA_nil, bind_ap, pure_ap, opt_some, guard_true, use_dat, use_own, peek_dat, peek_own, peeks_nil, peeks_cons, flowR_rt, flowR_nx, endFn_dat, endFn_own, evE_k, evE_v, evE_glob, evE_bin, evE_neg, evE_cmp, evE_chain, evE_isN, evE_and, evE_or, evE_not, evE_ite, evE_tup, evE_lst, evE_ix, evE_sl, evE_isI, evE_call, evE_callK, evE_bi, evE_mth, evEs_nil, evEs_cons, evDs_nil, evDs_cons, evPart_nil, evPart_cons, evAnd_nil, evAnd_cons, evOr_nil, evOr_cons, evT_val, evT_and, evT_or, evT_not, evT_cmp, evT_chain, evT_isN, evTAnd_nil, evTAnd_cons, evTOr_nil, evTOr_cons, evIt_seq, evIt_rng, evIt_enum, evIt_zip, evTg_n, evTg_t, evTg_ix, evTgs_nil, evTgs_cons, evS_asg, evS_asgT, evS_par, evS_ex, evS_ret, evS_retN, evS_iff, evS_forF, evS_whl, evS_rai, evS_pass, evS_brk, evS_cont, evSs_nil, evSs_cons, evE_compF, ite_ap, join_some, bltn, arg1, arg2, lenB, allB, anyB, intB, absB, minB, maxB, tupB, lstB, dmB, binop, cmpop, ix_tup, ix_lst, ix_scr, slB, truth, itemsOf, rngB, store1_dat, store1_cell, store1_own0, store1_own1, parM, ixSet, mthB, ty_obj, ty_int, ty_bool, ty_str, ty_tuple, ty_list, ty_dict, isObj, isInt, isBl, isStr, isTup, isLst, isDct, write_ap, at_0, at_1, at_2, set_0, set_1, set_2, List.length_cons, List.length_nil, List.replicate, List.append_nil, List.cons_append, List.nil_append, List.getElem?_cons_zero, List.getElem?_cons_succ, List.set_cons_zero, List.set_cons_succ, Nat.sub_self, Nat.reduceAdd, Nat.reduceSub, if_true, if_false, Bool.false_eq_true, Bool.not_true, Bool.not_false, Tg.slots, Tgs.slots, wipe, decide_true, decide_false, Bool.and_true, Bool.true_and, Bool.and_false, Bool.false_and, mulOk_r, mulOk_l, pow15, pow60, Int.reduceLT, Int.reduceNeg, endFn_set, endFn_setO, mulOk_mod, deq_int, din_int, din_lot, deq_lot, deq_bl, permL, List.filterMap_cons, List.filterMap_nil, List.map_cons, List.map_nil, beq_self_eq_true, isTupD, ite_bool, ite_tf, ix_tab0, ix_tab1, F_check_table, B_check_table, is_table_of b ls h]
theorem bars_of (b : Int) (ls : List (List Int)) (st : Sto) : runFn F_bars_of [.dat (tabD b ls)] st = .ok (.dat (.int b)) st := by
  simp only [run_ap, bindA_dat, bindA_own0, bindA_cell, bindA_own, bindA_nil, bind_ap, pure_ap, opt_some, guard_true, use_dat, use_own, peek_dat, peek_own, peeks_nil, peeks_cons, flowR_rt, flowR_nx, endFn_dat, endFn_own, evE_k, evE_v, evE_glob, evE_bin, evE_neg, evE_cmp, evE_chain, evE_isN, evE_and, evE_or, evE_not, evE_ite, evE_tup, evE_lst, evE_ix, evE_sl, evE_isI, evE_call, evE_callK, evE_bi, evE_mth, evEs_nil, evEs_cons, evDs_nil, evDs_cons, evPart_nil, evPart_cons, evAnd_nil, evAnd_cons, evOr_nil, evOr_cons, evT_val, evT_and, evT_or, evT_not, evT_cmp, evT_chain, evT_isN, evTAnd_nil, evTAnd_cons, evTOr_nil, evTOr_cons, evIt_seq, evIt_rng, evIt_enum, evIt_zip, evTg_n, evTg_t, evTg_ix, evTgs_nil, evTgs_cons, evS_asg, evS_asgT, evS_par, evS_ex, evS_ret, evS_retN, evS_iff, evS_forF, evS_whl, evS_rai, evS_pass, evS_brk, evS_cont, evSs_nil, evSs_cons, evE_compF, ite_ap, join_some, bltn, arg1, arg2, lenB, allB, anyB, intB, absB, minB, maxB, tupB, lstB, dmB, binop, cmpop, ix_tup, ix_lst, ix_scr, slB, truth, itemsOf, rngB, store1_dat, store1_cell, store1_own0, store1_own1, parM, ixSet, mthB, ty_obj, ty_int, ty_bool, ty_str, ty_tuple, ty_list, ty_dict, isObj, isInt, isBl, isStr, isTup, isLst, isDct, write_ap, at_0, at_1, at_2, set_0, set_1, set_2, List.length_cons, List.length_nil, List.replicate, List.append_nil, List.cons_append, List.nil_append, List.getElem?_cons_zero, List.getElem?_cons_succ, List.set_cons_zero, List.set_cons_succ, Nat.sub_self, Nat.reduceAdd, Nat.reduceSub, if_true, if_false, Bool.false_eq_true, Bool.not_true, Bool.not_false, Tg.slots, Tgs.slots, wipe, decide_true, decide_false, Bool.and_true, Bool.true_and, Bool.and_false, Bool.false_and, mulOk_r, mulOk_l, pow15, pow60, Int.reduceLT, Int.reduceNeg, endFn_set, endFn_setO, mulOk_mod, deq_int, din_int, din_lot, deq_lot, deq_bl, permL, List.filterMap_cons, List.filterMap_nil, List.map_cons, List.map_nil, beq_self_eq_true, isTupD, ite_bool, ite_tf, ix_tab0, ix_tab1, F_bars_of, B_bars_of, tabD]
theorem glyphs_of (b : Int) (ls : List (List Int)) (st : Sto) : runFn F_glyphs_of [.dat (tabD b ls)] st = .ok (.dat (.tup (ls.map lotD))) st := by
  simp only [run_ap, bindA_dat, bindA_own0, bindA_cell, bindA_own, bindA_nil, bind_ap, pure_ap, opt_some, guard_true, use_dat, use_own, peek_dat, peek_own, peeks_nil, peeks_cons, flowR_rt, flowR_nx, endFn_dat, endFn_own, evE_k, evE_v, evE_glob, evE_bin, evE_neg, evE_cmp, evE_chain, evE_isN, evE_and, evE_or, evE_not, evE_ite, evE_tup, evE_lst, evE_ix, evE_sl, evE_isI, evE_call, evE_callK, evE_bi, evE_mth, evEs_nil, evEs_cons, evDs_nil, evDs_cons, evPart_nil, evPart_cons, evAnd_nil, evAnd_cons, evOr_nil, evOr_cons, evT_val, evT_and, evT_or, evT_not, evT_cmp, evT_chain, evT_isN, evTAnd_nil, evTAnd_cons, evTOr_nil, evTOr_cons, evIt_seq, evIt_rng, evIt_enum, evIt_zip, evTg_n, evTg_t, evTg_ix, evTgs_nil, evTgs_cons, evS_asg, evS_asgT, evS_par, evS_ex, evS_ret, evS_retN, evS_iff, evS_forF, evS_whl, evS_rai, evS_pass, evS_brk, evS_cont, evSs_nil, evSs_cons, evE_compF, ite_ap, join_some, bltn, arg1, arg2, lenB, allB, anyB, intB, absB, minB, maxB, tupB, lstB, dmB, binop, cmpop, ix_tup, ix_lst, ix_scr, slB, truth, itemsOf, rngB, store1_dat, store1_cell, store1_own0, store1_own1, parM, ixSet, mthB, ty_obj, ty_int, ty_bool, ty_str, ty_tuple, ty_list, ty_dict, isObj, isInt, isBl, isStr, isTup, isLst, isDct, write_ap, at_0, at_1, at_2, set_0, set_1, set_2, List.length_cons, List.length_nil, List.replicate, List.append_nil, List.cons_append, List.nil_append, List.getElem?_cons_zero, List.getElem?_cons_succ, List.set_cons_zero, List.set_cons_succ, Nat.sub_self, Nat.reduceAdd, Nat.reduceSub, if_true, if_false, Bool.false_eq_true, Bool.not_true, Bool.not_false, Tg.slots, Tgs.slots, wipe, decide_true, decide_false, Bool.and_true, Bool.true_and, Bool.and_false, Bool.false_and, mulOk_r, mulOk_l, pow15, pow60, Int.reduceLT, Int.reduceNeg, endFn_set, endFn_setO, mulOk_mod, deq_int, din_int, din_lot, deq_lot, deq_bl, permL, List.filterMap_cons, List.filterMap_nil, List.map_cons, List.map_nil, beq_self_eq_true, isTupD, ite_bool, ite_tf, ix_tab0, ix_tab1, F_glyphs_of, B_glyphs_of, tabD]
end K04
set_option maxHeartbeats 4000000
namespace K04
open PySem DB
theorem digit_by (b : Int) (ls : List (List Int)) (l : List Int) (st : Sto) : runFn F_digit_by [.dat (tabD b ls), .dat (lotD l)] st = .ok (.dat (firstD (occ ls l))) st := by
  have hc : compM (compF tg_digit_by_0 cd_digit_by_0 el_digit_by_0 [some (.dat (tabD b ls)), some (.dat (lotD l)), none, none, none]) ((enumL 0 ls).map fun p => .tup [.int p.1, lotD p.2]) st = .ok (((enumL 0 ls).filter fun p => decide (p.2 = l)).map fun p => .int p.1) st := by
    refine compM_filt fun p hp => ?_
    by_cases h : p.2 = l <;> simp only [run_ap, bindA_dat, bindA_own0, bindA_cell, bindA_own, bindA_nil, bind_ap, pure_ap, opt_some, guard_true, use_dat, use_own, peek_dat, peek_own, peeks_nil, peeks_cons, flowR_rt, flowR_nx, endFn_dat, endFn_own, evE_k, evE_v, evE_glob, evE_bin, evE_neg, evE_cmp, evE_chain, evE_isN, evE_and, evE_or, evE_not, evE_ite, evE_tup, evE_lst, evE_ix, evE_sl, evE_isI, evE_call, evE_callK, evE_bi, evE_mth, evEs_nil, evEs_cons, evDs_nil, evDs_cons, evPart_nil, evPart_cons, evAnd_nil, evAnd_cons, evOr_nil, evOr_cons, evT_val, evT_and, evT_or, evT_not, evT_cmp, evT_chain, evT_isN, evTAnd_nil, evTAnd_cons, evTOr_nil, evTOr_cons, evIt_seq, evIt_rng, evIt_enum, evIt_zip, evTg_n, evTg_t, evTg_ix, evTgs_nil, evTgs_cons, evS_asg, evS_asgT, evS_par, evS_ex, evS_ret, evS_retN, evS_iff, evS_forF, evS_whl, evS_rai, evS_pass, evS_brk, evS_cont, evSs_nil, evSs_cons, evE_compF, ite_ap, join_some, bltn, arg1, arg2, lenB, allB, anyB, intB, absB, minB, maxB, tupB, lstB, dmB, binop, cmpop, ix_tup, ix_lst, ix_scr, slB, truth, itemsOf, rngB, store1_dat, store1_cell, store1_own0, store1_own1, parM, ixSet, mthB, ty_obj, ty_int, ty_bool, ty_str, ty_tuple, ty_list, ty_dict, isObj, isInt, isBl, isStr, isTup, isLst, isDct, write_ap, at_0, at_1, at_2, set_0, set_1, set_2, List.length_cons, List.length_nil, List.replicate, List.append_nil, List.cons_append, List.nil_append, List.getElem?_cons_zero, List.getElem?_cons_succ, List.set_cons_zero, List.set_cons_succ, Nat.sub_self, Nat.reduceAdd, Nat.reduceSub, if_true, if_false, Bool.false_eq_true, Bool.not_true, Bool.not_false, Tg.slots, Tgs.slots, wipe, decide_true, decide_false, Bool.and_true, Bool.true_and, Bool.and_false, Bool.false_and, mulOk_r, mulOk_l, pow15, pow60, Int.reduceLT, Int.reduceNeg, endFn_set, endFn_setO, mulOk_mod, deq_int, din_int, din_lot, deq_lot, deq_bl, permL, List.filterMap_cons, List.filterMap_nil, List.map_cons, List.map_nil, beq_self_eq_true, isTupD, ite_bool, ite_tf, ix_tab0, ix_tab1, compF_ap, tg_digit_by_0, cd_digit_by_0, el_digit_by_0, h]
  rw [occ_enum] at hc
  simp only [run_ap, bindA_dat, bindA_own0, bindA_cell, bindA_own, bindA_nil, bind_ap, pure_ap, opt_some, guard_true, use_dat, use_own, peek_dat, peek_own, peeks_nil, peeks_cons, flowR_rt, flowR_nx, endFn_dat, endFn_own, evE_k, evE_v, evE_glob, evE_bin, evE_neg, evE_cmp, evE_chain, evE_isN, evE_and, evE_or, evE_not, evE_ite, evE_tup, evE_lst, evE_ix, evE_sl, evE_isI, evE_call, evE_callK, evE_bi, evE_mth, evEs_nil, evEs_cons, evDs_nil, evDs_cons, evPart_nil, evPart_cons, evAnd_nil, evAnd_cons, evOr_nil, evOr_cons, evT_val, evT_and, evT_or, evT_not, evT_cmp, evT_chain, evT_isN, evTAnd_nil, evTAnd_cons, evTOr_nil, evTOr_cons, evIt_seq, evIt_rng, evIt_enum, evIt_zip, evTg_n, evTg_t, evTg_ix, evTgs_nil, evTgs_cons, evS_asg, evS_asgT, evS_par, evS_ex, evS_ret, evS_retN, evS_iff, evS_forF, evS_whl, evS_rai, evS_pass, evS_brk, evS_cont, evSs_nil, evSs_cons, evE_compF, ite_ap, join_some, bltn, arg1, arg2, lenB, allB, anyB, intB, absB, minB, maxB, tupB, lstB, dmB, binop, cmpop, ix_tup, ix_lst, ix_scr, slB, truth, itemsOf, rngB, store1_dat, store1_cell, store1_own0, store1_own1, parM, ixSet, mthB, ty_obj, ty_int, ty_bool, ty_str, ty_tuple, ty_list, ty_dict, isObj, isInt, isBl, isStr, isTup, isLst, isDct, write_ap, at_0, at_1, at_2, set_0, set_1, set_2, List.length_cons, List.length_nil, List.replicate, List.append_nil, List.cons_append, List.nil_append, List.getElem?_cons_zero, List.getElem?_cons_succ, List.set_cons_zero, List.set_cons_succ, Nat.sub_self, Nat.reduceAdd, Nat.reduceSub, if_true, if_false, Bool.false_eq_true, Bool.not_true, Bool.not_false, Tg.slots, Tgs.slots, wipe, decide_true, decide_false, Bool.and_true, Bool.true_and, Bool.and_false, Bool.false_and, mulOk_r, mulOk_l, pow15, pow60, Int.reduceLT, Int.reduceNeg, endFn_set, endFn_setO, mulOk_mod, deq_int, din_int, din_lot, deq_lot, deq_bl, permL, List.filterMap_cons, List.filterMap_nil, List.map_cons, List.map_nil, beq_self_eq_true, isTupD, ite_bool, ite_tf, ix_tab0, ix_tab1, F_digit_by, B_digit_by, glyphs_of, enumD_map, hc, deq_ints_nil]
  cases q : occ ls l with
  | nil => simp only [run_ap, bindA_dat, bindA_own0, bindA_cell, bindA_own, bindA_nil, bind_ap, pure_ap, opt_some, guard_true, use_dat, use_own, peek_dat, peek_own, peeks_nil, peeks_cons, flowR_rt, flowR_nx, endFn_dat, endFn_own, evE_k, evE_v, evE_glob, evE_bin, evE_neg, evE_cmp, evE_chain, evE_isN, evE_and, evE_or, evE_not, evE_ite, evE_tup, evE_lst, evE_ix, evE_sl, evE_isI, evE_call, evE_callK, evE_bi, evE_mth, evEs_nil, evEs_cons, evDs_nil, evDs_cons, evPart_nil, evPart_cons, evAnd_nil, evAnd_cons, evOr_nil, evOr_cons, evT_val, evT_and, evT_or, evT_not, evT_cmp, evT_chain, evT_isN, evTAnd_nil, evTAnd_cons, evTOr_nil, evTOr_cons, evIt_seq, evIt_rng, evIt_enum, evIt_zip, evTg_n, evTg_t, evTg_ix, evTgs_nil, evTgs_cons, evS_asg, evS_asgT, evS_par, evS_ex, evS_ret, evS_retN, evS_iff, evS_forF, evS_whl, evS_rai, evS_pass, evS_brk, evS_cont, evSs_nil, evSs_cons, evE_compF, ite_ap, join_some, bltn, arg1, arg2, lenB, allB, anyB, intB, absB, minB, maxB, tupB, lstB, dmB, binop, cmpop, ix_tup, ix_lst, ix_scr, slB, truth, itemsOf, rngB, store1_dat, store1_cell, store1_own0, store1_own1, parM, ixSet, mthB, ty_obj, ty_int, ty_bool, ty_str, ty_tuple, ty_list, ty_dict, isObj, isInt, isBl, isStr, isTup, isLst, isDct, write_ap, at_0, at_1, at_2, set_0, set_1, set_2, List.length_cons, List.length_nil, List.replicate, List.append_nil, List.cons_append, List.nil_append, List.getElem?_cons_zero, List.getElem?_cons_succ, List.set_cons_zero, List.set_cons_succ, Nat.sub_self, Nat.reduceAdd, Nat.reduceSub, if_true, if_false, Bool.false_eq_true, Bool.not_true, Bool.not_false, Tg.slots, Tgs.slots, wipe, decide_true, decide_false, Bool.and_true, Bool.true_and, Bool.and_false, Bool.false_and, mulOk_r, mulOk_l, pow15, pow60, Int.reduceLT, Int.reduceNeg, endFn_set, endFn_setO, mulOk_mod, deq_int, din_int, din_lot, deq_lot, deq_bl, permL, List.filterMap_cons, List.filterMap_nil, List.map_cons, List.map_nil, beq_self_eq_true, isTupD, ite_bool, ite_tf, ix_tab0, ix_tab1, List.isEmpty_nil, firstD]
  | cons i is => simp only [run_ap, bindA_dat, bindA_own0, bindA_cell, bindA_own, bindA_nil, bind_ap, pure_ap, opt_some, guard_true, use_dat, use_own, peek_dat, peek_own, peeks_nil, peeks_cons, flowR_rt, flowR_nx, endFn_dat, endFn_own, evE_k, evE_v, evE_glob, evE_bin, evE_neg, evE_cmp, evE_chain, evE_isN, evE_and, evE_or, evE_not, evE_ite, evE_tup, evE_lst, evE_ix, evE_sl, evE_isI, evE_call, evE_callK, evE_bi, evE_mth, evEs_nil, evEs_cons, evDs_nil, evDs_cons, evPart_nil, evPart_cons, evAnd_nil, evAnd_cons, evOr_nil, evOr_cons, evT_val, evT_and, evT_or, evT_not, evT_cmp, evT_chain, evT_isN, evTAnd_nil, evTAnd_cons, evTOr_nil, evTOr_cons, evIt_seq, evIt_rng, evIt_enum, evIt_zip, evTg_n, evTg_t, evTg_ix, evTgs_nil, evTgs_cons, evS_asg, evS_asgT, evS_par, evS_ex, evS_ret, evS_retN, evS_iff, evS_forF, evS_whl, evS_rai, evS_pass, evS_brk, evS_cont, evSs_nil, evSs_cons, evE_compF, ite_ap, join_some, bltn, arg1, arg2, lenB, allB, anyB, intB, absB, minB, maxB, tupB, lstB, dmB, binop, cmpop, ix_tup, ix_lst, ix_scr, slB, truth, itemsOf, rngB, store1_dat, store1_cell, store1_own0, store1_own1, parM, ixSet, mthB, ty_obj, ty_int, ty_bool, ty_str, ty_tuple, ty_list, ty_dict, isObj, isInt, isBl, isStr, isTup, isLst, isDct, write_ap, at_0, at_1, at_2, set_0, set_1, set_2, List.length_cons, List.length_nil, List.replicate, List.append_nil, List.cons_append, List.nil_append, List.getElem?_cons_zero, List.getElem?_cons_succ, List.set_cons_zero, List.set_cons_succ, Nat.sub_self, Nat.reduceAdd, Nat.reduceSub, if_true, if_false, Bool.false_eq_true, Bool.not_true, Bool.not_false, Tg.slots, Tgs.slots, wipe, decide_true, decide_false, Bool.and_true, Bool.true_and, Bool.and_false, Bool.false_and, mulOk_r, mulOk_l, pow15, pow60, Int.reduceLT, Int.reduceNeg, endFn_set, endFn_setO, mulOk_mod, deq_int, din_int, din_lot, deq_lot, deq_bl, permL, List.filterMap_cons, List.filterMap_nil, List.map_cons, List.map_nil, beq_self_eq_true, isTupD, ite_bool, ite_tf, ix_tab0, ix_tab1, List.isEmpty_cons, firstD]
theorem digit_of (b : Int) (ls : List (List Int)) (l : List Int) (h : Tb 12 16 b ls) (hl : Lot b l) (st : Sto) : runFn F_digit_of [.dat (tabD b ls), .dat (lotD l)] st = .ok (.dat (firstD (occ ls l))) st := by
  simp only [run_ap, bindA_dat, bindA_own0, bindA_cell, bindA_own, bindA_nil, bind_ap, pure_ap, opt_some, guard_true, use_dat, use_own, peek_dat, peek_own, peeks_nil, peeks_cons, flowR_rt, flowR_nx, endFn_dat, endFn_own, evE_k, evE_v, evE_glob, evE_bin, evE_neg, evE_cmp, evE_chain, evE_isN, evE_and, evE_or, evE_not, evE_ite, evE_tup, evE_lst, evE_ix, evE_sl, evE_isI, evE_call, evE_callK, evE_bi, evE_mth, evEs_nil, evEs_cons, evDs_nil, evDs_cons, evPart_nil, evPart_cons, evAnd_nil, evAnd_cons, evOr_nil, evOr_cons, evT_val, evT_and, evT_or, evT_not, evT_cmp, evT_chain, evT_isN, evTAnd_nil, evTAnd_cons, evTOr_nil, evTOr_cons, evIt_seq, evIt_rng, evIt_enum, evIt_zip, evTg_n, evTg_t, evTg_ix, evTgs_nil, evTgs_cons, evS_asg, evS_asgT, evS_par, evS_ex, evS_ret, evS_retN, evS_iff, evS_forF, evS_whl, evS_rai, evS_pass, evS_brk, evS_cont, evSs_nil, evSs_cons, evE_compF, ite_ap, join_some, bltn, arg1, arg2, lenB, allB, anyB, intB, absB, minB, maxB, tupB, lstB, dmB, binop, cmpop, ix_tup, ix_lst, ix_scr, slB, truth, itemsOf, rngB, store1_dat, store1_cell, store1_own0, store1_own1, parM, ixSet, mthB, ty_obj, ty_int, ty_bool, ty_str, ty_tuple, ty_list, ty_dict, isObj, isInt, isBl, isStr, isTup, isLst, isDct, write_ap, at_0, at_1, at_2, set_0, set_1, set_2, List.length_cons, List.length_nil, List.replicate, List.append_nil, List.cons_append, List.nil_append, List.getElem?_cons_zero, List.getElem?_cons_succ, List.set_cons_zero, List.set_cons_succ, Nat.sub_self, Nat.reduceAdd, Nat.reduceSub, if_true, if_false, Bool.false_eq_true, Bool.not_true, Bool.not_false, Tg.slots, Tgs.slots, wipe, decide_true, decide_false, Bool.and_true, Bool.true_and, Bool.and_false, Bool.false_and, mulOk_r, mulOk_l, pow15, pow60, Int.reduceLT, Int.reduceNeg, endFn_set, endFn_setO, mulOk_mod, deq_int, din_int, din_lot, deq_lot, deq_bl, permL, List.filterMap_cons, List.filterMap_nil, List.map_cons, List.map_nil, beq_self_eq_true, isTupD, ite_bool, ite_tf, ix_tab0, ix_tab1, F_digit_of, B_digit_of, check_table b ls h]
  simp only [tabD]
  simp only [run_ap, bindA_dat, bindA_own0, bindA_cell, bindA_own, bindA_nil, bind_ap, pure_ap, opt_some, guard_true, use_dat, use_own, peek_dat, peek_own, peeks_nil, peeks_cons, flowR_rt, flowR_nx, endFn_dat, endFn_own, evE_k, evE_v, evE_glob, evE_bin, evE_neg, evE_cmp, evE_chain, evE_isN, evE_and, evE_or, evE_not, evE_ite, evE_tup, evE_lst, evE_ix, evE_sl, evE_isI, evE_call, evE_callK, evE_bi, evE_mth, evEs_nil, evEs_cons, evDs_nil, evDs_cons, evPart_nil, evPart_cons, evAnd_nil, evAnd_cons, evOr_nil, evOr_cons, evT_val, evT_and, evT_or, evT_not, evT_cmp, evT_chain, evT_isN, evTAnd_nil, evTAnd_cons, evTOr_nil, evTOr_cons, evIt_seq, evIt_rng, evIt_enum, evIt_zip, evTg_n, evTg_t, evTg_ix, evTgs_nil, evTgs_cons, evS_asg, evS_asgT, evS_par, evS_ex, evS_ret, evS_retN, evS_iff, evS_forF, evS_whl, evS_rai, evS_pass, evS_brk, evS_cont, evSs_nil, evSs_cons, evE_compF, ite_ap, join_some, bltn, arg1, arg2, lenB, allB, anyB, intB, absB, minB, maxB, tupB, lstB, dmB, binop, cmpop, ix_tup, ix_lst, ix_scr, slB, truth, itemsOf, rngB, store1_dat, store1_cell, store1_own0, store1_own1, parM, ixSet, mthB, ty_obj, ty_int, ty_bool, ty_str, ty_tuple, ty_list, ty_dict, isObj, isInt, isBl, isStr, isTup, isLst, isDct, write_ap, at_0, at_1, at_2, set_0, set_1, set_2, List.length_cons, List.length_nil, List.replicate, List.append_nil, List.cons_append, List.nil_append, List.getElem?_cons_zero, List.getElem?_cons_succ, List.set_cons_zero, List.set_cons_succ, Nat.sub_self, Nat.reduceAdd, Nat.reduceSub, if_true, if_false, Bool.false_eq_true, Bool.not_true, Bool.not_false, Tg.slots, Tgs.slots, wipe, decide_true, decide_false, Bool.and_true, Bool.true_and, Bool.and_false, Bool.false_and, mulOk_r, mulOk_l, pow15, pow60, Int.reduceLT, Int.reduceNeg, endFn_set, endFn_setO, mulOk_mod, deq_int, din_int, din_lot, deq_lot, deq_bl, permL, List.filterMap_cons, List.filterMap_nil, List.map_cons, List.map_nil, beq_self_eq_true, isTupD, ite_bool, ite_tf, ix_tab0, ix_tab1, is_lot_of b l (by have := h.lo; omega) hl]
  rw [← tabD, digit_by]
  cases occ ls l <;> simp only [run_ap, bindA_dat, bindA_own0, bindA_cell, bindA_own, bindA_nil, bind_ap, pure_ap, opt_some, guard_true, use_dat, use_own, peek_dat, peek_own, peeks_nil, peeks_cons, flowR_rt, flowR_nx, endFn_dat, endFn_own, evE_k, evE_v, evE_glob, evE_bin, evE_neg, evE_cmp, evE_chain, evE_isN, evE_and, evE_or, evE_not, evE_ite, evE_tup, evE_lst, evE_ix, evE_sl, evE_isI, evE_call, evE_callK, evE_bi, evE_mth, evEs_nil, evEs_cons, evDs_nil, evDs_cons, evPart_nil, evPart_cons, evAnd_nil, evAnd_cons, evOr_nil, evOr_cons, evT_val, evT_and, evT_or, evT_not, evT_cmp, evT_chain, evT_isN, evTAnd_nil, evTAnd_cons, evTOr_nil, evTOr_cons, evIt_seq, evIt_rng, evIt_enum, evIt_zip, evTg_n, evTg_t, evTg_ix, evTgs_nil, evTgs_cons, evS_asg, evS_asgT, evS_par, evS_ex, evS_ret, evS_retN, evS_iff, evS_forF, evS_whl, evS_rai, evS_pass, evS_brk, evS_cont, evSs_nil, evSs_cons, evE_compF, ite_ap, join_some, bltn, arg1, arg2, lenB, allB, anyB, intB, absB, minB, maxB, tupB, lstB, dmB, binop, cmpop, ix_tup, ix_lst, ix_scr, slB, truth, itemsOf, rngB, store1_dat, store1_cell, store1_own0, store1_own1, parM, ixSet, mthB, ty_obj, ty_int, ty_bool, ty_str, ty_tuple, ty_list, ty_dict, isObj, isInt, isBl, isStr, isTup, isLst, isDct, write_ap, at_0, at_1, at_2, set_0, set_1, set_2, List.length_cons, List.length_nil, List.replicate, List.append_nil, List.cons_append, List.nil_append, List.getElem?_cons_zero, List.getElem?_cons_succ, List.set_cons_zero, List.set_cons_succ, Nat.sub_self, Nat.reduceAdd, Nat.reduceSub, if_true, if_false, Bool.false_eq_true, Bool.not_true, Bool.not_false, Tg.slots, Tgs.slots, wipe, decide_true, decide_false, Bool.and_true, Bool.true_and, Bool.and_false, Bool.false_and, mulOk_r, mulOk_l, pow15, pow60, Int.reduceLT, Int.reduceNeg, endFn_set, endFn_setO, mulOk_mod, deq_int, din_int, din_lot, deq_lot, deq_bl, permL, List.filterMap_cons, List.filterMap_nil, List.map_cons, List.map_nil, beq_self_eq_true, isTupD, ite_bool, ite_tf, ix_tab0, ix_tab1, firstD]
theorem common_bars (b : Int) (ls : List (List Int)) (h : Tb 12 16 b ls) (st : Sto) : runFn F_common_bars [.dat (tabD b ls)] st = .ok (.dat (lotD (litL b ls))) st := by
  have hc : compM (compF tg_common_bars_1 cd_common_bars_1 el_common_bars_1 [some (.dat (tabD b ls)), none, none]) ((seqI b.toNat).map D.int) st = .ok ((litL b ls).map D.int) st := by
    refine compM_filt (p := fun i => (ls.map fun l => decide (i ∈ l)).all id) fun i hi => ?_
    have h2 : compM (compF tg_common_bars_0 cd_common_bars_0 el_common_bars_0 [some (.dat (tabD b ls)), some (.dat (.int i)), none]) (ls.map lotD) st = .ok (ls.map fun l => .bl (decide (i ∈ l))) st := by
      refine compM_map fun l hl => ?_
      simp only [run_ap, bindA_dat, bindA_own0, bindA_cell, bindA_own, bindA_nil, bind_ap, pure_ap, opt_some, guard_true, use_dat, use_own, peek_dat, peek_own, peeks_nil, peeks_cons, flowR_rt, flowR_nx, endFn_dat, endFn_own, evE_k, evE_v, evE_glob, evE_bin, evE_neg, evE_cmp, evE_chain, evE_isN, evE_and, evE_or, evE_not, evE_ite, evE_tup, evE_lst, evE_ix, evE_sl, evE_isI, evE_call, evE_callK, evE_bi, evE_mth, evEs_nil, evEs_cons, evDs_nil, evDs_cons, evPart_nil, evPart_cons, evAnd_nil, evAnd_cons, evOr_nil, evOr_cons, evT_val, evT_and, evT_or, evT_not, evT_cmp, evT_chain, evT_isN, evTAnd_nil, evTAnd_cons, evTOr_nil, evTOr_cons, evIt_seq, evIt_rng, evIt_enum, evIt_zip, evTg_n, evTg_t, evTg_ix, evTgs_nil, evTgs_cons, evS_asg, evS_asgT, evS_par, evS_ex, evS_ret, evS_retN, evS_iff, evS_forF, evS_whl, evS_rai, evS_pass, evS_brk, evS_cont, evSs_nil, evSs_cons, evE_compF, ite_ap, join_some, bltn, arg1, arg2, lenB, allB, anyB, intB, absB, minB, maxB, tupB, lstB, dmB, binop, cmpop, ix_tup, ix_lst, ix_scr, slB, truth, itemsOf, rngB, store1_dat, store1_cell, store1_own0, store1_own1, parM, ixSet, mthB, ty_obj, ty_int, ty_bool, ty_str, ty_tuple, ty_list, ty_dict, isObj, isInt, isBl, isStr, isTup, isLst, isDct, write_ap, at_0, at_1, at_2, set_0, set_1, set_2, List.length_cons, List.length_nil, List.replicate, List.append_nil, List.cons_append, List.nil_append, List.getElem?_cons_zero, List.getElem?_cons_succ, List.set_cons_zero, List.set_cons_succ, Nat.sub_self, Nat.reduceAdd, Nat.reduceSub, if_true, if_false, Bool.false_eq_true, Bool.not_true, Bool.not_false, Tg.slots, Tgs.slots, wipe, decide_true, decide_false, Bool.and_true, Bool.true_and, Bool.and_false, Bool.false_and, mulOk_r, mulOk_l, pow15, pow60, Int.reduceLT, Int.reduceNeg, endFn_set, endFn_setO, mulOk_mod, deq_int, din_int, din_lot, deq_lot, deq_bl, permL, List.filterMap_cons, List.filterMap_nil, List.map_cons, List.map_nil, beq_self_eq_true, isTupD, ite_bool, ite_tf, ix_tab0, ix_tab1, compF_ap, tg_common_bars_0, cd_common_bars_0, el_common_bars_0, lotD]
    simp only [run_ap, bindA_dat, bindA_own0, bindA_cell, bindA_own, bindA_nil, bind_ap, pure_ap, opt_some, guard_true, use_dat, use_own, peek_dat, peek_own, peeks_nil, peeks_cons, flowR_rt, flowR_nx, endFn_dat, endFn_own, evE_k, evE_v, evE_glob, evE_bin, evE_neg, evE_cmp, evE_chain, evE_isN, evE_and, evE_or, evE_not, evE_ite, evE_tup, evE_lst, evE_ix, evE_sl, evE_isI, evE_call, evE_callK, evE_bi, evE_mth, evEs_nil, evEs_cons, evDs_nil, evDs_cons, evPart_nil, evPart_cons, evAnd_nil, evAnd_cons, evOr_nil, evOr_cons, evT_val, evT_and, evT_or, evT_not, evT_cmp, evT_chain, evT_isN, evTAnd_nil, evTAnd_cons, evTOr_nil, evTOr_cons, evIt_seq, evIt_rng, evIt_enum, evIt_zip, evTg_n, evTg_t, evTg_ix, evTgs_nil, evTgs_cons, evS_asg, evS_asgT, evS_par, evS_ex, evS_ret, evS_retN, evS_iff, evS_forF, evS_whl, evS_rai, evS_pass, evS_brk, evS_cont, evSs_nil, evSs_cons, evE_compF, ite_ap, join_some, bltn, arg1, arg2, lenB, allB, anyB, intB, absB, minB, maxB, tupB, lstB, dmB, binop, cmpop, ix_tup, ix_lst, ix_scr, slB, truth, itemsOf, rngB, store1_dat, store1_cell, store1_own0, store1_own1, parM, ixSet, mthB, ty_obj, ty_int, ty_bool, ty_str, ty_tuple, ty_list, ty_dict, isObj, isInt, isBl, isStr, isTup, isLst, isDct, write_ap, at_0, at_1, at_2, set_0, set_1, set_2, List.length_cons, List.length_nil, List.replicate, List.append_nil, List.cons_append, List.nil_append, List.getElem?_cons_zero, List.getElem?_cons_succ, List.set_cons_zero, List.set_cons_succ, Nat.sub_self, Nat.reduceAdd, Nat.reduceSub, if_true, if_false, Bool.false_eq_true, Bool.not_true, Bool.not_false, Tg.slots, Tgs.slots, wipe, decide_true, decide_false, Bool.and_true, Bool.true_and, Bool.and_false, Bool.false_and, mulOk_r, mulOk_l, pow15, pow60, Int.reduceLT, Int.reduceNeg, endFn_set, endFn_setO, mulOk_mod, deq_int, din_int, din_lot, deq_lot, deq_bl, permL, List.filterMap_cons, List.filterMap_nil, List.map_cons, List.map_nil, beq_self_eq_true, isTupD, ite_bool, ite_tf, ix_tab0, ix_tab1, compF_ap, tg_common_bars_1, cd_common_bars_1, el_common_bars_1, glyphs_of, h2, blsOf_map (fun l : List Int => decide (i ∈ l)), ite_res]
  have g1 : (-(2 ^ 62) : Int) ≤ b := by have := h.lo; omega
  have g2 : b ≤ 1000000 := by have := h.hi; omega
  simp only [run_ap, bindA_dat, bindA_own0, bindA_cell, bindA_own, bindA_nil, bind_ap, pure_ap, opt_some, guard_true, use_dat, use_own, peek_dat, peek_own, peeks_nil, peeks_cons, flowR_rt, flowR_nx, endFn_dat, endFn_own, evE_k, evE_v, evE_glob, evE_bin, evE_neg, evE_cmp, evE_chain, evE_isN, evE_and, evE_or, evE_not, evE_ite, evE_tup, evE_lst, evE_ix, evE_sl, evE_isI, evE_call, evE_callK, evE_bi, evE_mth, evEs_nil, evEs_cons, evDs_nil, evDs_cons, evPart_nil, evPart_cons, evAnd_nil, evAnd_cons, evOr_nil, evOr_cons, evT_val, evT_and, evT_or, evT_not, evT_cmp, evT_chain, evT_isN, evTAnd_nil, evTAnd_cons, evTOr_nil, evTOr_cons, evIt_seq, evIt_rng, evIt_enum, evIt_zip, evTg_n, evTg_t, evTg_ix, evTgs_nil, evTgs_cons, evS_asg, evS_asgT, evS_par, evS_ex, evS_ret, evS_retN, evS_iff, evS_forF, evS_whl, evS_rai, evS_pass, evS_brk, evS_cont, evSs_nil, evSs_cons, evE_compF, ite_ap, join_some, bltn, arg1, arg2, lenB, allB, anyB, intB, absB, minB, maxB, tupB, lstB, dmB, binop, cmpop, ix_tup, ix_lst, ix_scr, slB, truth, itemsOf, rngB, store1_dat, store1_cell, store1_own0, store1_own1, parM, ixSet, mthB, ty_obj, ty_int, ty_bool, ty_str, ty_tuple, ty_list, ty_dict, isObj, isInt, isBl, isStr, isTup, isLst, isDct, write_ap, at_0, at_1, at_2, set_0, set_1, set_2, List.length_cons, List.length_nil, List.replicate, List.append_nil, List.cons_append, List.nil_append, List.getElem?_cons_zero, List.getElem?_cons_succ, List.set_cons_zero, List.set_cons_succ, Nat.sub_self, Nat.reduceAdd, Nat.reduceSub, if_true, if_false, Bool.false_eq_true, Bool.not_true, Bool.not_false, Tg.slots, Tgs.slots, wipe, decide_true, decide_false, Bool.and_true, Bool.true_and, Bool.and_false, Bool.false_and, mulOk_r, mulOk_l, pow15, pow60, Int.reduceLT, Int.reduceNeg, endFn_set, endFn_setO, mulOk_mod, deq_int, din_int, din_lot, deq_lot, deq_bl, permL, List.filterMap_cons, List.filterMap_nil, List.map_cons, List.map_nil, beq_self_eq_true, isTupD, ite_bool, ite_tf, ix_tab0, ix_tab1, F_common_bars, B_common_bars, bars_of, g1, g2, rng_upTo, hc, lotD]
theorem missing_bars (b : Int) (ls : List (List Int)) (h : Tb 12 16 b ls) (st : Sto) : runFn F_missing_bars [.dat (tabD b ls)] st = .ok (.dat (lotD (darkL b ls))) st := by
  have hc : compM (compF tg_missing_bars_1 cd_missing_bars_1 el_missing_bars_1 [some (.dat (tabD b ls)), none, none]) ((seqI b.toNat).map D.int) st = .ok ((darkL b ls).map D.int) st := by
    refine compM_filt (p := fun i => !(ls.map fun l => decide (i ∈ l)).any id) fun i hi => ?_
    have h2 : compM (compF tg_missing_bars_0 cd_missing_bars_0 el_missing_bars_0 [some (.dat (tabD b ls)), some (.dat (.int i)), none]) (ls.map lotD) st = .ok (ls.map fun l => .bl (decide (i ∈ l))) st := by
      refine compM_map fun l hl => ?_
      simp only [run_ap, bindA_dat, bindA_own0, bindA_cell, bindA_own, bindA_nil, bind_ap, pure_ap, opt_some, guard_true, use_dat, use_own, peek_dat, peek_own, peeks_nil, peeks_cons, flowR_rt, flowR_nx, endFn_dat, endFn_own, evE_k, evE_v, evE_glob, evE_bin, evE_neg, evE_cmp, evE_chain, evE_isN, evE_and, evE_or, evE_not, evE_ite, evE_tup, evE_lst, evE_ix, evE_sl, evE_isI, evE_call, evE_callK, evE_bi, evE_mth, evEs_nil, evEs_cons, evDs_nil, evDs_cons, evPart_nil, evPart_cons, evAnd_nil, evAnd_cons, evOr_nil, evOr_cons, evT_val, evT_and, evT_or, evT_not, evT_cmp, evT_chain, evT_isN, evTAnd_nil, evTAnd_cons, evTOr_nil, evTOr_cons, evIt_seq, evIt_rng, evIt_enum, evIt_zip, evTg_n, evTg_t, evTg_ix, evTgs_nil, evTgs_cons, evS_asg, evS_asgT, evS_par, evS_ex, evS_ret, evS_retN, evS_iff, evS_forF, evS_whl, evS_rai, evS_pass, evS_brk, evS_cont, evSs_nil, evSs_cons, evE_compF, ite_ap, join_some, bltn, arg1, arg2, lenB, allB, anyB, intB, absB, minB, maxB, tupB, lstB, dmB, binop, cmpop, ix_tup, ix_lst, ix_scr, slB, truth, itemsOf, rngB, store1_dat, store1_cell, store1_own0, store1_own1, parM, ixSet, mthB, ty_obj, ty_int, ty_bool, ty_str, ty_tuple, ty_list, ty_dict, isObj, isInt, isBl, isStr, isTup, isLst, isDct, write_ap, at_0, at_1, at_2, set_0, set_1, set_2, List.length_cons, List.length_nil, List.replicate, List.append_nil, List.cons_append, List.nil_append, List.getElem?_cons_zero, List.getElem?_cons_succ, List.set_cons_zero, List.set_cons_succ, Nat.sub_self, Nat.reduceAdd, Nat.reduceSub, if_true, if_false, Bool.false_eq_true, Bool.not_true, Bool.not_false, Tg.slots, Tgs.slots, wipe, decide_true, decide_false, Bool.and_true, Bool.true_and, Bool.and_false, Bool.false_and, mulOk_r, mulOk_l, pow15, pow60, Int.reduceLT, Int.reduceNeg, endFn_set, endFn_setO, mulOk_mod, deq_int, din_int, din_lot, deq_lot, deq_bl, permL, List.filterMap_cons, List.filterMap_nil, List.map_cons, List.map_nil, beq_self_eq_true, isTupD, ite_bool, ite_tf, ix_tab0, ix_tab1, compF_ap, tg_missing_bars_0, cd_missing_bars_0, el_missing_bars_0, lotD]
    simp only [run_ap, bindA_dat, bindA_own0, bindA_cell, bindA_own, bindA_nil, bind_ap, pure_ap, opt_some, guard_true, use_dat, use_own, peek_dat, peek_own, peeks_nil, peeks_cons, flowR_rt, flowR_nx, endFn_dat, endFn_own, evE_k, evE_v, evE_glob, evE_bin, evE_neg, evE_cmp, evE_chain, evE_isN, evE_and, evE_or, evE_not, evE_ite, evE_tup, evE_lst, evE_ix, evE_sl, evE_isI, evE_call, evE_callK, evE_bi, evE_mth, evEs_nil, evEs_cons, evDs_nil, evDs_cons, evPart_nil, evPart_cons, evAnd_nil, evAnd_cons, evOr_nil, evOr_cons, evT_val, evT_and, evT_or, evT_not, evT_cmp, evT_chain, evT_isN, evTAnd_nil, evTAnd_cons, evTOr_nil, evTOr_cons, evIt_seq, evIt_rng, evIt_enum, evIt_zip, evTg_n, evTg_t, evTg_ix, evTgs_nil, evTgs_cons, evS_asg, evS_asgT, evS_par, evS_ex, evS_ret, evS_retN, evS_iff, evS_forF, evS_whl, evS_rai, evS_pass, evS_brk, evS_cont, evSs_nil, evSs_cons, evE_compF, ite_ap, join_some, bltn, arg1, arg2, lenB, allB, anyB, intB, absB, minB, maxB, tupB, lstB, dmB, binop, cmpop, ix_tup, ix_lst, ix_scr, slB, truth, itemsOf, rngB, store1_dat, store1_cell, store1_own0, store1_own1, parM, ixSet, mthB, ty_obj, ty_int, ty_bool, ty_str, ty_tuple, ty_list, ty_dict, isObj, isInt, isBl, isStr, isTup, isLst, isDct, write_ap, at_0, at_1, at_2, set_0, set_1, set_2, List.length_cons, List.length_nil, List.replicate, List.append_nil, List.cons_append, List.nil_append, List.getElem?_cons_zero, List.getElem?_cons_succ, List.set_cons_zero, List.set_cons_succ, Nat.sub_self, Nat.reduceAdd, Nat.reduceSub, if_true, if_false, Bool.false_eq_true, Bool.not_true, Bool.not_false, Tg.slots, Tgs.slots, wipe, decide_true, decide_false, Bool.and_true, Bool.true_and, Bool.and_false, Bool.false_and, mulOk_r, mulOk_l, pow15, pow60, Int.reduceLT, Int.reduceNeg, endFn_set, endFn_setO, mulOk_mod, deq_int, din_int, din_lot, deq_lot, deq_bl, permL, List.filterMap_cons, List.filterMap_nil, List.map_cons, List.map_nil, beq_self_eq_true, isTupD, ite_bool, ite_tf, ix_tab0, ix_tab1, compF_ap, tg_missing_bars_1, cd_missing_bars_1, el_missing_bars_1, glyphs_of, h2, blsOf_map (fun l : List Int => decide (i ∈ l)), ite_res]
  have g1 : (-(2 ^ 62) : Int) ≤ b := by have := h.lo; omega
  have g2 : b ≤ 1000000 := by have := h.hi; omega
  simp only [run_ap, bindA_dat, bindA_own0, bindA_cell, bindA_own, bindA_nil, bind_ap, pure_ap, opt_some, guard_true, use_dat, use_own, peek_dat, peek_own, peeks_nil, peeks_cons, flowR_rt, flowR_nx, endFn_dat, endFn_own, evE_k, evE_v, evE_glob, evE_bin, evE_neg, evE_cmp, evE_chain, evE_isN, evE_and, evE_or, evE_not, evE_ite, evE_tup, evE_lst, evE_ix, evE_sl, evE_isI, evE_call, evE_callK, evE_bi, evE_mth, evEs_nil, evEs_cons, evDs_nil, evDs_cons, evPart_nil, evPart_cons, evAnd_nil, evAnd_cons, evOr_nil, evOr_cons, evT_val, evT_and, evT_or, evT_not, evT_cmp, evT_chain, evT_isN, evTAnd_nil, evTAnd_cons, evTOr_nil, evTOr_cons, evIt_seq, evIt_rng, evIt_enum, evIt_zip, evTg_n, evTg_t, evTg_ix, evTgs_nil, evTgs_cons, evS_asg, evS_asgT, evS_par, evS_ex, evS_ret, evS_retN, evS_iff, evS_forF, evS_whl, evS_rai, evS_pass, evS_brk, evS_cont, evSs_nil, evSs_cons, evE_compF, ite_ap, join_some, bltn, arg1, arg2, lenB, allB, anyB, intB, absB, minB, maxB, tupB, lstB, dmB, binop, cmpop, ix_tup, ix_lst, ix_scr, slB, truth, itemsOf, rngB, store1_dat, store1_cell, store1_own0, store1_own1, parM, ixSet, mthB, ty_obj, ty_int, ty_bool, ty_str, ty_tuple, ty_list, ty_dict, isObj, isInt, isBl, isStr, isTup, isLst, isDct, write_ap, at_0, at_1, at_2, set_0, set_1, set_2, List.length_cons, List.length_nil, List.replicate, List.append_nil, List.cons_append, List.nil_append, List.getElem?_cons_zero, List.getElem?_cons_succ, List.set_cons_zero, List.set_cons_succ, Nat.sub_self, Nat.reduceAdd, Nat.reduceSub, if_true, if_false, Bool.false_eq_true, Bool.not_true, Bool.not_false, Tg.slots, Tgs.slots, wipe, decide_true, decide_false, Bool.and_true, Bool.true_and, Bool.and_false, Bool.false_and, mulOk_r, mulOk_l, pow15, pow60, Int.reduceLT, Int.reduceNeg, endFn_set, endFn_setO, mulOk_mod, deq_int, din_int, din_lot, deq_lot, deq_bl, permL, List.filterMap_cons, List.filterMap_nil, List.map_cons, List.map_nil, beq_self_eq_true, isTupD, ite_bool, ite_tf, ix_tab0, ix_tab1, F_missing_bars, B_missing_bars, bars_of, g1, g2, rng_upTo, hc, lotD]
theorem always_lit (b : Int) (ls : List (List Int)) (h : Tb 12 16 b ls) (st : Sto) : runFn F_always_lit [.dat (tabD b ls)] st = .ok (.dat (lotD (litL b ls))) st := by
  simp only [run_ap, bindA_dat, bindA_own0, bindA_cell, bindA_own, bindA_nil, bind_ap, pure_ap, opt_some, guard_true, use_dat, use_own, peek_dat, peek_own, peeks_nil, peeks_cons, flowR_rt, flowR_nx, endFn_dat, endFn_own, evE_k, evE_v, evE_glob, evE_bin, evE_neg, evE_cmp, evE_chain, evE_isN, evE_and, evE_or, evE_not, evE_ite, evE_tup, evE_lst, evE_ix, evE_sl, evE_isI, evE_call, evE_callK, evE_bi, evE_mth, evEs_nil, evEs_cons, evDs_nil, evDs_cons, evPart_nil, evPart_cons, evAnd_nil, evAnd_cons, evOr_nil, evOr_cons, evT_val, evT_and, evT_or, evT_not, evT_cmp, evT_chain, evT_isN, evTAnd_nil, evTAnd_cons, evTOr_nil, evTOr_cons, evIt_seq, evIt_rng, evIt_enum, evIt_zip, evTg_n, evTg_t, evTg_ix, evTgs_nil, evTgs_cons, evS_asg, evS_asgT, evS_par, evS_ex, evS_ret, evS_retN, evS_iff, evS_forF, evS_whl, evS_rai, evS_pass, evS_brk, evS_cont, evSs_nil, evSs_cons, evE_compF, ite_ap, join_some, bltn, arg1, arg2, lenB, allB, anyB, intB, absB, minB, maxB, tupB, lstB, dmB, binop, cmpop, ix_tup, ix_lst, ix_scr, slB, truth, itemsOf, rngB, store1_dat, store1_cell, store1_own0, store1_own1, parM, ixSet, mthB, ty_obj, ty_int, ty_bool, ty_str, ty_tuple, ty_list, ty_dict, isObj, isInt, isBl, isStr, isTup, isLst, isDct, write_ap, at_0, at_1, at_2, set_0, set_1, set_2, List.length_cons, List.length_nil, List.replicate, List.append_nil, List.cons_append, List.nil_append, List.getElem?_cons_zero, List.getElem?_cons_succ, List.set_cons_zero, List.set_cons_succ, Nat.sub_self, Nat.reduceAdd, Nat.reduceSub, if_true, if_false, Bool.false_eq_true, Bool.not_true, Bool.not_false, Tg.slots, Tgs.slots, wipe, decide_true, decide_false, Bool.and_true, Bool.true_and, Bool.and_false, Bool.false_and, mulOk_r, mulOk_l, pow15, pow60, Int.reduceLT, Int.reduceNeg, endFn_set, endFn_setO, mulOk_mod, deq_int, din_int, din_lot, deq_lot, deq_bl, permL, List.filterMap_cons, List.filterMap_nil, List.map_cons, List.map_nil, beq_self_eq_true, isTupD, ite_bool, ite_tf, ix_tab0, ix_tab1, F_always_lit, B_always_lit, check_table b ls h, common_bars b ls h, lotD]
theorem always_dark (b : Int) (ls : List (List Int)) (h : Tb 12 16 b ls) (st : Sto) : runFn F_always_dark [.dat (tabD b ls)] st = .ok (.dat (lotD (darkL b ls))) st := by
  simp only [run_ap, bindA_dat, bindA_own0, bindA_cell, bindA_own, bindA_nil, bind_ap, pure_ap, opt_some, guard_true, use_dat, use_own, peek_dat, peek_own, peeks_nil, peeks_cons, flowR_rt, flowR_nx, endFn_dat, endFn_own, evE_k, evE_v, evE_glob, evE_bin, evE_neg, evE_cmp, evE_chain, evE_isN, evE_and, evE_or, evE_not, evE_ite, evE_tup, evE_lst, evE_ix, evE_sl, evE_isI, evE_call, evE_callK, evE_bi, evE_mth, evEs_nil, evEs_cons, evDs_nil, evDs_cons, evPart_nil, evPart_cons, evAnd_nil, evAnd_cons, evOr_nil, evOr_cons, evT_val, evT_and, evT_or, evT_not, evT_cmp, evT_chain, evT_isN, evTAnd_nil, evTAnd_cons, evTOr_nil, evTOr_cons, evIt_seq, evIt_rng, evIt_enum, evIt_zip, evTg_n, evTg_t, evTg_ix, evTgs_nil, evTgs_cons, evS_asg, evS_asgT, evS_par, evS_ex, evS_ret, evS_retN, evS_iff, evS_forF, evS_whl, evS_rai, evS_pass, evS_brk, evS_cont, evSs_nil, evSs_cons, evE_compF, ite_ap, join_some, bltn, arg1, arg2, lenB, allB, anyB, intB, absB, minB, maxB, tupB, lstB, dmB, binop, cmpop, ix_tup, ix_lst, ix_scr, slB, truth, itemsOf, rngB, store1_dat, store1_cell, store1_own0, store1_own1, parM, ixSet, mthB, ty_obj, ty_int, ty_bool, ty_str, ty_tuple, ty_list, ty_dict, isObj, isInt, isBl, isStr, isTup, isLst, isDct, write_ap, at_0, at_1, at_2, set_0, set_1, set_2, List.length_cons, List.length_nil, List.replicate, List.append_nil, List.cons_append, List.nil_append, List.getElem?_cons_zero, List.getElem?_cons_succ, List.set_cons_zero, List.set_cons_succ, Nat.sub_self, Nat.reduceAdd, Nat.reduceSub, if_true, if_false, Bool.false_eq_true, Bool.not_true, Bool.not_false, Tg.slots, Tgs.slots, wipe, decide_true, decide_false, Bool.and_true, Bool.true_and, Bool.and_false, Bool.false_and, mulOk_r, mulOk_l, pow15, pow60, Int.reduceLT, Int.reduceNeg, endFn_set, endFn_setO, mulOk_mod, deq_int, din_int, din_lot, deq_lot, deq_bl, permL, List.filterMap_cons, List.filterMap_nil, List.map_cons, List.map_nil, beq_self_eq_true, isTupD, ite_bool, ite_tf, ix_tab0, ix_tab1, F_always_dark, B_always_dark, check_table b ls h, missing_bars b ls h, lotD]
theorem same (n : Nat) : ∀ (d : D) (st : Sto), nice n d = true → runFn (F__law_same n) [.dat d, .dat d] st = .ok (.dat (.bl true)) st := by
  induction n with
  | zero => intro d st h; cases h
  | succ n ih =>
    intro d st h
    cases d with
    | non => simp only [run_ap, bindA_dat, bindA_own0, bindA_cell, bindA_own, bindA_nil, bind_ap, pure_ap, opt_some, guard_true, use_dat, use_own, peek_dat, peek_own, peeks_nil, peeks_cons, flowR_rt, flowR_nx, endFn_dat, endFn_own, evE_k, evE_v, evE_glob, evE_bin, evE_neg, evE_cmp, evE_chain, evE_isN, evE_and, evE_or, evE_not, evE_ite, evE_tup, evE_lst, evE_ix, evE_sl, evE_isI, evE_call, evE_callK, evE_bi, evE_mth, evEs_nil, evEs_cons, evDs_nil, evDs_cons, evPart_nil, evPart_cons, evAnd_nil, evAnd_cons, evOr_nil, evOr_cons, evT_val, evT_and, evT_or, evT_not, evT_cmp, evT_chain, evT_isN, evTAnd_nil, evTAnd_cons, evTOr_nil, evTOr_cons, evIt_seq, evIt_rng, evIt_enum, evIt_zip, evTg_n, evTg_t, evTg_ix, evTgs_nil, evTgs_cons, evS_asg, evS_asgT, evS_par, evS_ex, evS_ret, evS_retN, evS_iff, evS_forF, evS_whl, evS_rai, evS_pass, evS_brk, evS_cont, evSs_nil, evSs_cons, evE_compF, ite_ap, join_some, bltn, arg1, arg2, lenB, allB, anyB, intB, absB, minB, maxB, tupB, lstB, dmB, binop, cmpop, ix_tup, ix_lst, ix_scr, slB, truth, itemsOf, rngB, store1_dat, store1_cell, store1_own0, store1_own1, parM, ixSet, mthB, ty_obj, ty_int, ty_bool, ty_str, ty_tuple, ty_list, ty_dict, isObj, isInt, isBl, isStr, isTup, isLst, isDct, write_ap, at_0, at_1, at_2, set_0, set_1, set_2, List.length_cons, List.length_nil, List.replicate, List.append_nil, List.cons_append, List.nil_append, List.getElem?_cons_zero, List.getElem?_cons_succ, List.set_cons_zero, List.set_cons_succ, Nat.sub_self, Nat.reduceAdd, Nat.reduceSub, if_true, if_false, Bool.false_eq_true, Bool.not_true, Bool.not_false, Tg.slots, Tgs.slots, wipe, decide_true, decide_false, Bool.and_true, Bool.true_and, Bool.and_false, Bool.false_and, mulOk_r, mulOk_l, pow15, pow60, Int.reduceLT, Int.reduceNeg, endFn_set, endFn_setO, mulOk_mod, deq_int, din_int, din_lot, deq_lot, deq_bl, permL, List.filterMap_cons, List.filterMap_nil, List.map_cons, List.map_nil, beq_self_eq_true, isTupD, ite_bool, ite_tf, ix_tab0, ix_tab1, F__law_same, B__law_same]
    | bl b => simp only [run_ap, bindA_dat, bindA_own0, bindA_cell, bindA_own, bindA_nil, bind_ap, pure_ap, opt_some, guard_true, use_dat, use_own, peek_dat, peek_own, peeks_nil, peeks_cons, flowR_rt, flowR_nx, endFn_dat, endFn_own, evE_k, evE_v, evE_glob, evE_bin, evE_neg, evE_cmp, evE_chain, evE_isN, evE_and, evE_or, evE_not, evE_ite, evE_tup, evE_lst, evE_ix, evE_sl, evE_isI, evE_call, evE_callK, evE_bi, evE_mth, evEs_nil, evEs_cons, evDs_nil, evDs_cons, evPart_nil, evPart_cons, evAnd_nil, evAnd_cons, evOr_nil, evOr_cons, evT_val, evT_and, evT_or, evT_not, evT_cmp, evT_chain, evT_isN, evTAnd_nil, evTAnd_cons, evTOr_nil, evTOr_cons, evIt_seq, evIt_rng, evIt_enum, evIt_zip, evTg_n, evTg_t, evTg_ix, evTgs_nil, evTgs_cons, evS_asg, evS_asgT, evS_par, evS_ex, evS_ret, evS_retN, evS_iff, evS_forF, evS_whl, evS_rai, evS_pass, evS_brk, evS_cont, evSs_nil, evSs_cons, evE_compF, ite_ap, join_some, bltn, arg1, arg2, lenB, allB, anyB, intB, absB, minB, maxB, tupB, lstB, dmB, binop, cmpop, ix_tup, ix_lst, ix_scr, slB, truth, itemsOf, rngB, store1_dat, store1_cell, store1_own0, store1_own1, parM, ixSet, mthB, ty_obj, ty_int, ty_bool, ty_str, ty_tuple, ty_list, ty_dict, isObj, isInt, isBl, isStr, isTup, isLst, isDct, write_ap, at_0, at_1, at_2, set_0, set_1, set_2, List.length_cons, List.length_nil, List.replicate, List.append_nil, List.cons_append, List.nil_append, List.getElem?_cons_zero, List.getElem?_cons_succ, List.set_cons_zero, List.set_cons_succ, Nat.sub_self, Nat.reduceAdd, Nat.reduceSub, if_true, if_false, Bool.false_eq_true, Bool.not_true, Bool.not_false, Tg.slots, Tgs.slots, wipe, decide_true, decide_false, Bool.and_true, Bool.true_and, Bool.and_false, Bool.false_and, mulOk_r, mulOk_l, pow15, pow60, Int.reduceLT, Int.reduceNeg, endFn_set, endFn_setO, mulOk_mod, deq_int, din_int, din_lot, deq_lot, deq_bl, permL, List.filterMap_cons, List.filterMap_nil, List.map_cons, List.map_nil, beq_self_eq_true, isTupD, ite_bool, ite_tf, ix_tab0, ix_tab1, F__law_same, B__law_same]
    | int b => simp only [run_ap, bindA_dat, bindA_own0, bindA_cell, bindA_own, bindA_nil, bind_ap, pure_ap, opt_some, guard_true, use_dat, use_own, peek_dat, peek_own, peeks_nil, peeks_cons, flowR_rt, flowR_nx, endFn_dat, endFn_own, evE_k, evE_v, evE_glob, evE_bin, evE_neg, evE_cmp, evE_chain, evE_isN, evE_and, evE_or, evE_not, evE_ite, evE_tup, evE_lst, evE_ix, evE_sl, evE_isI, evE_call, evE_callK, evE_bi, evE_mth, evEs_nil, evEs_cons, evDs_nil, evDs_cons, evPart_nil, evPart_cons, evAnd_nil, evAnd_cons, evOr_nil, evOr_cons, evT_val, evT_and, evT_or, evT_not, evT_cmp, evT_chain, evT_isN, evTAnd_nil, evTAnd_cons, evTOr_nil, evTOr_cons, evIt_seq, evIt_rng, evIt_enum, evIt_zip, evTg_n, evTg_t, evTg_ix, evTgs_nil, evTgs_cons, evS_asg, evS_asgT, evS_par, evS_ex, evS_ret, evS_retN, evS_iff, evS_forF, evS_whl, evS_rai, evS_pass, evS_brk, evS_cont, evSs_nil, evSs_cons, evE_compF, ite_ap, join_some, bltn, arg1, arg2, lenB, allB, anyB, intB, absB, minB, maxB, tupB, lstB, dmB, binop, cmpop, ix_tup, ix_lst, ix_scr, slB, truth, itemsOf, rngB, store1_dat, store1_cell, store1_own0, store1_own1, parM, ixSet, mthB, ty_obj, ty_int, ty_bool, ty_str, ty_tuple, ty_list, ty_dict, isObj, isInt, isBl, isStr, isTup, isLst, isDct, write_ap, at_0, at_1, at_2, set_0, set_1, set_2, List.length_cons, List.length_nil, List.replicate, List.append_nil, List.cons_append, List.nil_append, List.getElem?_cons_zero, List.getElem?_cons_succ, List.set_cons_zero, List.set_cons_succ, Nat.sub_self, Nat.reduceAdd, Nat.reduceSub, if_true, if_false, Bool.false_eq_true, Bool.not_true, Bool.not_false, Tg.slots, Tgs.slots, wipe, decide_true, decide_false, Bool.and_true, Bool.true_and, Bool.and_false, Bool.false_and, mulOk_r, mulOk_l, pow15, pow60, Int.reduceLT, Int.reduceNeg, endFn_set, endFn_setO, mulOk_mod, deq_int, din_int, din_lot, deq_lot, deq_bl, permL, List.filterMap_cons, List.filterMap_nil, List.map_cons, List.map_nil, beq_self_eq_true, isTupD, ite_bool, ite_tf, ix_tab0, ix_tab1, F__law_same, B__law_same]
    | str b => cases h
    | tup xs =>
      have h : (decide (xs.length ≤ 1000000) && xs.all (nice n)) = true := h
      rw [Bool.and_eq_true] at h
      have hc : compM (compF (tg__law_same_1 (F__law_same n)) (cd__law_same_1 (F__law_same n)) (el__law_same_1 (F__law_same n)) [some (.dat (.tup xs)), some (.dat (.tup xs)), none, none, none]) (xs.map fun x => .tup [x, x]) st = .ok (xs.map fun _ => .bl true) st := by
        refine compM_map fun x hx => ?_
        simp only [run_ap, bindA_dat, bindA_own0, bindA_cell, bindA_own, bindA_nil, bind_ap, pure_ap, opt_some, guard_true, use_dat, use_own, peek_dat, peek_own, peeks_nil, peeks_cons, flowR_rt, flowR_nx, endFn_dat, endFn_own, evE_k, evE_v, evE_glob, evE_bin, evE_neg, evE_cmp, evE_chain, evE_isN, evE_and, evE_or, evE_not, evE_ite, evE_tup, evE_lst, evE_ix, evE_sl, evE_isI, evE_call, evE_callK, evE_bi, evE_mth, evEs_nil, evEs_cons, evDs_nil, evDs_cons, evPart_nil, evPart_cons, evAnd_nil, evAnd_cons, evOr_nil, evOr_cons, evT_val, evT_and, evT_or, evT_not, evT_cmp, evT_chain, evT_isN, evTAnd_nil, evTAnd_cons, evTOr_nil, evTOr_cons, evIt_seq, evIt_rng, evIt_enum, evIt_zip, evTg_n, evTg_t, evTg_ix, evTgs_nil, evTgs_cons, evS_asg, evS_asgT, evS_par, evS_ex, evS_ret, evS_retN, evS_iff, evS_forF, evS_whl, evS_rai, evS_pass, evS_brk, evS_cont, evSs_nil, evSs_cons, evE_compF, ite_ap, join_some, bltn, arg1, arg2, lenB, allB, anyB, intB, absB, minB, maxB, tupB, lstB, dmB, binop, cmpop, ix_tup, ix_lst, ix_scr, slB, truth, itemsOf, rngB, store1_dat, store1_cell, store1_own0, store1_own1, parM, ixSet, mthB, ty_obj, ty_int, ty_bool, ty_str, ty_tuple, ty_list, ty_dict, isObj, isInt, isBl, isStr, isTup, isLst, isDct, write_ap, at_0, at_1, at_2, set_0, set_1, set_2, List.length_cons, List.length_nil, List.replicate, List.append_nil, List.cons_append, List.nil_append, List.getElem?_cons_zero, List.getElem?_cons_succ, List.set_cons_zero, List.set_cons_succ, Nat.sub_self, Nat.reduceAdd, Nat.reduceSub, if_true, if_false, Bool.false_eq_true, Bool.not_true, Bool.not_false, Tg.slots, Tgs.slots, wipe, decide_true, decide_false, Bool.and_true, Bool.true_and, Bool.and_false, Bool.false_and, mulOk_r, mulOk_l, pow15, pow60, Int.reduceLT, Int.reduceNeg, endFn_set, endFn_setO, mulOk_mod, deq_int, din_int, din_lot, deq_lot, deq_bl, permL, List.filterMap_cons, List.filterMap_nil, List.map_cons, List.map_nil, beq_self_eq_true, isTupD, ite_bool, ite_tf, ix_tab0, ix_tab1, compF_ap, tg__law_same_1, cd__law_same_1, el__law_same_1, ih x st (List.all_eq_true.mp h.2 x hx)]
      have h4 : (xs.map fun _ => true).all id = true := by simp
      simp only [run_ap, bindA_dat, bindA_own0, bindA_cell, bindA_own, bindA_nil, bind_ap, pure_ap, opt_some, guard_true, use_dat, use_own, peek_dat, peek_own, peeks_nil, peeks_cons, flowR_rt, flowR_nx, endFn_dat, endFn_own, evE_k, evE_v, evE_glob, evE_bin, evE_neg, evE_cmp, evE_chain, evE_isN, evE_and, evE_or, evE_not, evE_ite, evE_tup, evE_lst, evE_ix, evE_sl, evE_isI, evE_call, evE_callK, evE_bi, evE_mth, evEs_nil, evEs_cons, evDs_nil, evDs_cons, evPart_nil, evPart_cons, evAnd_nil, evAnd_cons, evOr_nil, evOr_cons, evT_val, evT_and, evT_or, evT_not, evT_cmp, evT_chain, evT_isN, evTAnd_nil, evTAnd_cons, evTOr_nil, evTOr_cons, evIt_seq, evIt_rng, evIt_enum, evIt_zip, evTg_n, evTg_t, evTg_ix, evTgs_nil, evTgs_cons, evS_asg, evS_asgT, evS_par, evS_ex, evS_ret, evS_retN, evS_iff, evS_forF, evS_whl, evS_rai, evS_pass, evS_brk, evS_cont, evSs_nil, evSs_cons, evE_compF, ite_ap, join_some, bltn, arg1, arg2, lenB, allB, anyB, intB, absB, minB, maxB, tupB, lstB, dmB, binop, cmpop, ix_tup, ix_lst, ix_scr, slB, truth, itemsOf, rngB, store1_dat, store1_cell, store1_own0, store1_own1, parM, ixSet, mthB, ty_obj, ty_int, ty_bool, ty_str, ty_tuple, ty_list, ty_dict, isObj, isInt, isBl, isStr, isTup, isLst, isDct, write_ap, at_0, at_1, at_2, set_0, set_1, set_2, List.length_cons, List.length_nil, List.replicate, List.append_nil, List.cons_append, List.nil_append, List.getElem?_cons_zero, List.getElem?_cons_succ, List.set_cons_zero, List.set_cons_succ, Nat.sub_self, Nat.reduceAdd, Nat.reduceSub, if_true, if_false, Bool.false_eq_true, Bool.not_true, Bool.not_false, Tg.slots, Tgs.slots, wipe, decide_true, decide_false, Bool.and_true, Bool.true_and, Bool.and_false, Bool.false_and, mulOk_r, mulOk_l, pow15, pow60, Int.reduceLT, Int.reduceNeg, endFn_set, endFn_setO, mulOk_mod, deq_int, din_int, din_lot, deq_lot, deq_bl, permL, List.filterMap_cons, List.filterMap_nil, List.map_cons, List.map_nil, beq_self_eq_true, isTupD, ite_bool, ite_tf, ix_tab0, ix_tab1, F__law_same, B__law_same, zip_self, hc, blsOf_map (fun _ : D => true), h4]
    | _ => cases h
theorem lots_run (c : Nat) (b : Int) (hb : 1 ≤ b) (hb2 : b ≤ 1000) (ls : List (List Int)) (r1 r3 r4 r5 r6 r7 r8 r9 r10 r11 : Option R) (n : Nat) : ∀ (lo : Int) (p : List D) (s : Sto), PoolOk p → s[c]? = some ⟨.lst p, true⟩ →
    ∃ (ms : List (List Int)) (p' : List D), (∀ m ∈ ms, Lot b m) ∧ ms.length = n ∧ PoolOk p' ∧
    compM (compF tg__law_right_2 cd__law_right_2 el__law_right_2 [some (.cell c), r1, some (.dat (tabD b ls)), r3, r4, r5, r6, r7, r8, r9, r10, r11]) (rngD lo n) s = .ok (ms.map lotD) (s.set c ⟨.lst p', true⟩) := by
  induction n with
  | zero =>
    intro lo p s hp hc
    exact ⟨[], p, by simp, rfl, hp, by rw [set_same hc]; rfl⟩
  | succ n ih =>
    intro lo p s hp hc
    obtain ⟨l, p1, hl, hp1, e1⟩ := lot c p b s hp (by omega) (by omega) hc
    obtain ⟨ms, p2, h1, h2, hp2, e2⟩ := ih (lo + 1) p1 (s.set c ⟨.lst p1, true⟩) hp1 (get_set hc)
    rw [List.set_set] at e2
    refine ⟨l :: ms, p2, ?_, by simp [h2], hp2, ?_⟩
    · intro m hm
      rcases List.mem_cons.mp hm with rfl | hm
      · exact hl
      · exact h1 m hm
    · have e3 : compF tg__law_right_2 cd__law_right_2 el__law_right_2 [some (.cell c), r1, some (.dat (tabD b ls)), r3, r4, r5, r6, r7, r8, r9, r10, r11] (.int lo) s = .ok (some (lotD l)) (s.set c ⟨.lst p1, true⟩) := by
        simp only [run_ap, bindA_dat, bindA_own0, bindA_cell, bindA_own, bindA_nil, bind_ap, pure_ap, opt_some, guard_true, use_dat, use_own, peek_dat, peek_own, peeks_nil, peeks_cons, flowR_rt, flowR_nx, endFn_dat, endFn_own, evE_k, evE_v, evE_glob, evE_bin, evE_neg, evE_cmp, evE_chain, evE_isN, evE_and, evE_or, evE_not, evE_ite, evE_tup, evE_lst, evE_ix, evE_sl, evE_isI, evE_call, evE_callK, evE_bi, evE_mth, evEs_nil, evEs_cons, evDs_nil, evDs_cons, evPart_nil, evPart_cons, evAnd_nil, evAnd_cons, evOr_nil, evOr_cons, evT_val, evT_and, evT_or, evT_not, evT_cmp, evT_chain, evT_isN, evTAnd_nil, evTAnd_cons, evTOr_nil, evTOr_cons, evIt_seq, evIt_rng, evIt_enum, evIt_zip, evTg_n, evTg_t, evTg_ix, evTgs_nil, evTgs_cons, evS_asg, evS_asgT, evS_par, evS_ex, evS_ret, evS_retN, evS_iff, evS_forF, evS_whl, evS_rai, evS_pass, evS_brk, evS_cont, evSs_nil, evSs_cons, evE_compF, ite_ap, join_some, bltn, arg1, arg2, lenB, allB, anyB, intB, absB, minB, maxB, tupB, lstB, dmB, binop, cmpop, ix_tup, ix_lst, ix_scr, slB, truth, itemsOf, rngB, store1_dat, store1_cell, store1_own0, store1_own1, parM, ixSet, mthB, ty_obj, ty_int, ty_bool, ty_str, ty_tuple, ty_list, ty_dict, isObj, isInt, isBl, isStr, isTup, isLst, isDct, write_ap, at_0, at_1, at_2, set_0, set_1, set_2, List.length_cons, List.length_nil, List.replicate, List.append_nil, List.cons_append, List.nil_append, List.getElem?_cons_zero, List.getElem?_cons_succ, List.set_cons_zero, List.set_cons_succ, Nat.sub_self, Nat.reduceAdd, Nat.reduceSub, if_true, if_false, Bool.false_eq_true, Bool.not_true, Bool.not_false, Tg.slots, Tgs.slots, wipe, decide_true, decide_false, Bool.and_true, Bool.true_and, Bool.and_false, Bool.false_and, mulOk_r, mulOk_l, pow15, pow60, Int.reduceLT, Int.reduceNeg, endFn_set, endFn_setO, mulOk_mod, deq_int, din_int, din_lot, deq_lot, deq_bl, permL, List.filterMap_cons, List.filterMap_nil, List.map_cons, List.map_nil, beq_self_eq_true, isTupD, ite_bool, ite_tf, ix_tab0, ix_tab1, compF_ap, tg__law_right_2, cd__law_right_2, el__law_right_2, tabD, e1]
      simp only [rngD_succ, compM_cons, bind_ap, e3, e2, pure_ap, List.map_cons]
theorem due (b : Int) (ls : List (List Int)) (l : List Int) (hz : ls.length ≤ 1000) (r0 r1 r3 r5 r6 r7 r8 r9 r10 r11 : Option R) (s : Sto) :
    compM (compF tg__law_right_3 cd__law_right_3 el__law_right_3 [r0, r1, some (.dat (tabD b ls)), r3, some (.dat (lotD l)), r5, r6, r7, r8, r9, r10, r11]) ((seqI ls.length).map D.int) s = .ok ((occ ls l).map D.int) s := by
  refine compM_filt (p := fun i : Int => decide (ls.getD i.toNat [] = l)) fun i hi => ?_
  have h1 := mem_upTo.mp hi
  have h2 : (ls.map lotD)[i.toNat]? = some (lotD (ls.getD i.toNat [])) := by
    have : i.toNat < ls.length := by omega
    rw [List.getElem?_map, List.getD_eq_getElem?_getD, List.getElem?_eq_getElem this]
    rfl
  have h3 : at? (ls.map lotD) i = some (lotD (ls.getD i.toNat [])) := by
    have := at_nat h2
    rw [show ((i.toNat : Nat) : Int) = i by omega] at this
    exact this
  simp only [run_ap, bindA_dat, bindA_own0, bindA_cell, bindA_own, bindA_nil, bind_ap, pure_ap, opt_some, guard_true, use_dat, use_own, peek_dat, peek_own, peeks_nil, peeks_cons, flowR_rt, flowR_nx, endFn_dat, endFn_own, evE_k, evE_v, evE_glob, evE_bin, evE_neg, evE_cmp, evE_chain, evE_isN, evE_and, evE_or, evE_not, evE_ite, evE_tup, evE_lst, evE_ix, evE_sl, evE_isI, evE_call, evE_callK, evE_bi, evE_mth, evEs_nil, evEs_cons, evDs_nil, evDs_cons, evPart_nil, evPart_cons, evAnd_nil, evAnd_cons, evOr_nil, evOr_cons, evT_val, evT_and, evT_or, evT_not, evT_cmp, evT_chain, evT_isN, evTAnd_nil, evTAnd_cons, evTOr_nil, evTOr_cons, evIt_seq, evIt_rng, evIt_enum, evIt_zip, evTg_n, evTg_t, evTg_ix, evTgs_nil, evTgs_cons, evS_asg, evS_asgT, evS_par, evS_ex, evS_ret, evS_retN, evS_iff, evS_forF, evS_whl, evS_rai, evS_pass, evS_brk, evS_cont, evSs_nil, evSs_cons, evE_compF, ite_ap, join_some, bltn, arg1, arg2, lenB, allB, anyB, intB, absB, minB, maxB, tupB, lstB, dmB, binop, cmpop, ix_tup, ix_lst, ix_scr, slB, truth, itemsOf, rngB, store1_dat, store1_cell, store1_own0, store1_own1, parM, ixSet, mthB, ty_obj, ty_int, ty_bool, ty_str, ty_tuple, ty_list, ty_dict, isObj, isInt, isBl, isStr, isTup, isLst, isDct, write_ap, at_0, at_1, at_2, set_0, set_1, set_2, List.length_cons, List.length_nil, List.replicate, List.append_nil, List.cons_append, List.nil_append, List.getElem?_cons_zero, List.getElem?_cons_succ, List.set_cons_zero, List.set_cons_succ, Nat.sub_self, Nat.reduceAdd, Nat.reduceSub, if_true, if_false, Bool.false_eq_true, Bool.not_true, Bool.not_false, Tg.slots, Tgs.slots, wipe, decide_true, decide_false, Bool.and_true, Bool.true_and, Bool.and_false, Bool.false_and, mulOk_r, mulOk_l, pow15, pow60, Int.reduceLT, Int.reduceNeg, endFn_set, endFn_setO, mulOk_mod, deq_int, din_int, din_lot, deq_lot, deq_bl, permL, List.filterMap_cons, List.filterMap_nil, List.map_cons, List.map_nil, beq_self_eq_true, isTupD, ite_bool, ite_tf, ix_tab0, ix_tab1, compF_ap, tg__law_right_3, cd__law_right_3, el__law_right_3, tabD, h3, ite_res]
theorem nice_first (l : List Int) : nice 12 (firstD l) = true := by cases l <;> rfl
theorem glyph_run (b : Int) (ls : List (List Int)) (h : Tb 12 16 b ls) (i : Int) (r0 r3 r5 r6 r9 r10 r11 : Option R) (s : Sto) (gs : List (List Int)) : ∀ (r4 r7 r8 : Option R), (∀ g ∈ gs, Lot b g) → ∃ r4' r7',
    forM (forF ft__law_right_4 fb__law_right_4) (gs.map lotD) [r0, some (.dat (.int i)), some (.dat (tabD b ls)), r3, r4, r5, r6, r7, r8, r9, r10, r11] s = .ok (.nx [r0, some (.dat (.int i)), some (.dat (tabD b ls)), r3, r4', r5, r6, r7', r8, r9, r10, r11]) s := by
  induction gs with
  | nil => intro r4 r7 r8 _; exact ⟨r4, r7, rfl⟩
  | cons g gs ih =>
    intro r4 r7 r8 hg
    have hl := hg g (List.mem_cons_self ..)
    have hd := due b ls g (by have := h.most; omega) r0 (some (.dat (.int i))) r3 r5 r6 r7 r8 r9 r10 r11 s
    have g1 : (-(2 ^ 62) : Int) ≤ (ls.length : Int) := by omega
    have g2 : (ls.length : Int) ≤ 1000000 := by have := h.most; omega
    have hb : forF ft__law_right_4 fb__law_right_4 (lotD g) [r0, some (.dat (.int i)), some (.dat (tabD b ls)), r3, r4, r5, r6, r7, r8, r9, r10, r11] s = .ok (.nx [r0, some (.dat (.int i)), some (.dat (tabD b ls)), r3, some (.dat (lotD g)), r5, r6, some (.dat (.lst ((occ ls g).map D.int))), r8, r9, r10, r11]) s := by
      have hs := same 12 (firstD (occ ls g)) s (nice_first _)
      have e0 : tabD b ls = .tup [.int b, .tup (ls.map lotD)] := rfl
      have dg := digit_of b ls g h hl s
      rw [e0] at hd dg ⊢
      by_cases hi : i = 1
      · subst hi
        simp only [run_ap, bindA_dat, bindA_own0, bindA_cell, bindA_own, bindA_nil, bind_ap, pure_ap, opt_some, guard_true, use_dat, use_own, peek_dat, peek_own, peeks_nil, peeks_cons, flowR_rt, flowR_nx, endFn_dat, endFn_own, evE_k, evE_v, evE_glob, evE_bin, evE_neg, evE_cmp, evE_chain, evE_isN, evE_and, evE_or, evE_not, evE_ite, evE_tup, evE_lst, evE_ix, evE_sl, evE_isI, evE_call, evE_callK, evE_bi, evE_mth, evEs_nil, evEs_cons, evDs_nil, evDs_cons, evPart_nil, evPart_cons, evAnd_nil, evAnd_cons, evOr_nil, evOr_cons, evT_val, evT_and, evT_or, evT_not, evT_cmp, evT_chain, evT_isN, evTAnd_nil, evTAnd_cons, evTOr_nil, evTOr_cons, evIt_seq, evIt_rng, evIt_enum, evIt_zip, evTg_n, evTg_t, evTg_ix, evTgs_nil, evTgs_cons, evS_asg, evS_asgT, evS_par, evS_ex, evS_ret, evS_retN, evS_iff, evS_forF, evS_whl, evS_rai, evS_pass, evS_brk, evS_cont, evSs_nil, evSs_cons, evE_compF, ite_ap, join_some, bltn, arg1, arg2, lenB, allB, anyB, intB, absB, minB, maxB, tupB, lstB, dmB, binop, cmpop, ix_tup, ix_lst, ix_scr, slB, truth, itemsOf, rngB, store1_dat, store1_cell, store1_own0, store1_own1, parM, ixSet, mthB, ty_obj, ty_int, ty_bool, ty_str, ty_tuple, ty_list, ty_dict, isObj, isInt, isBl, isStr, isTup, isLst, isDct, write_ap, at_0, at_1, at_2, set_0, set_1, set_2, List.length_cons, List.length_nil, List.replicate, List.append_nil, List.cons_append, List.nil_append, List.getElem?_cons_zero, List.getElem?_cons_succ, List.set_cons_zero, List.set_cons_succ, Nat.sub_self, Nat.reduceAdd, Nat.reduceSub, if_true, if_false, Bool.false_eq_true, Bool.not_true, Bool.not_false, Tg.slots, Tgs.slots, wipe, decide_true, decide_false, Bool.and_true, Bool.true_and, Bool.and_false, Bool.false_and, mulOk_r, mulOk_l, pow15, pow60, Int.reduceLT, Int.reduceNeg, endFn_set, endFn_setO, mulOk_mod, deq_int, din_int, din_lot, deq_lot, deq_bl, permL, List.filterMap_cons, List.filterMap_nil, List.map_cons, List.map_nil, beq_self_eq_true, isTupD, ite_bool, ite_tf, ix_tab0, ix_tab1, forF_ap, ft__law_right_4, fb__law_right_4, List.length_map, g1, g2, Int.toNat_natCast, rng_upTo, hd, dg, deq_ints_nil]
        cases q : occ ls g with
        | nil =>
          rw [q] at hs
          simp only [run_ap, bindA_dat, bindA_own0, bindA_cell, bindA_own, bindA_nil, bind_ap, pure_ap, opt_some, guard_true, use_dat, use_own, peek_dat, peek_own, peeks_nil, peeks_cons, flowR_rt, flowR_nx, endFn_dat, endFn_own, evE_k, evE_v, evE_glob, evE_bin, evE_neg, evE_cmp, evE_chain, evE_isN, evE_and, evE_or, evE_not, evE_ite, evE_tup, evE_lst, evE_ix, evE_sl, evE_isI, evE_call, evE_callK, evE_bi, evE_mth, evEs_nil, evEs_cons, evDs_nil, evDs_cons, evPart_nil, evPart_cons, evAnd_nil, evAnd_cons, evOr_nil, evOr_cons, evT_val, evT_and, evT_or, evT_not, evT_cmp, evT_chain, evT_isN, evTAnd_nil, evTAnd_cons, evTOr_nil, evTOr_cons, evIt_seq, evIt_rng, evIt_enum, evIt_zip, evTg_n, evTg_t, evTg_ix, evTgs_nil, evTgs_cons, evS_asg, evS_asgT, evS_par, evS_ex, evS_ret, evS_retN, evS_iff, evS_forF, evS_whl, evS_rai, evS_pass, evS_brk, evS_cont, evSs_nil, evSs_cons, evE_compF, ite_ap, join_some, bltn, arg1, arg2, lenB, allB, anyB, intB, absB, minB, maxB, tupB, lstB, dmB, binop, cmpop, ix_tup, ix_lst, ix_scr, slB, truth, itemsOf, rngB, store1_dat, store1_cell, store1_own0, store1_own1, parM, ixSet, mthB, ty_obj, ty_int, ty_bool, ty_str, ty_tuple, ty_list, ty_dict, isObj, isInt, isBl, isStr, isTup, isLst, isDct, write_ap, at_0, at_1, at_2, set_0, set_1, set_2, List.length_cons, List.length_nil, List.replicate, List.append_nil, List.cons_append, List.nil_append, List.getElem?_cons_zero, List.getElem?_cons_succ, List.set_cons_zero, List.set_cons_succ, Nat.sub_self, Nat.reduceAdd, Nat.reduceSub, if_true, if_false, Bool.false_eq_true, Bool.not_true, Bool.not_false, Tg.slots, Tgs.slots, wipe, decide_true, decide_false, Bool.and_true, Bool.true_and, Bool.and_false, Bool.false_and, mulOk_r, mulOk_l, pow15, pow60, Int.reduceLT, Int.reduceNeg, endFn_set, endFn_setO, mulOk_mod, deq_int, din_int, din_lot, deq_lot, deq_bl, permL, List.filterMap_cons, List.filterMap_nil, List.map_cons, List.map_nil, beq_self_eq_true, isTupD, ite_bool, ite_tf, ix_tab0, ix_tab1, List.isEmpty_nil, firstD] at hs ⊢
          simp only [run_ap, bindA_dat, bindA_own0, bindA_cell, bindA_own, bindA_nil, bind_ap, pure_ap, opt_some, guard_true, use_dat, use_own, peek_dat, peek_own, peeks_nil, peeks_cons, flowR_rt, flowR_nx, endFn_dat, endFn_own, evE_k, evE_v, evE_glob, evE_bin, evE_neg, evE_cmp, evE_chain, evE_isN, evE_and, evE_or, evE_not, evE_ite, evE_tup, evE_lst, evE_ix, evE_sl, evE_isI, evE_call, evE_callK, evE_bi, evE_mth, evEs_nil, evEs_cons, evDs_nil, evDs_cons, evPart_nil, evPart_cons, evAnd_nil, evAnd_cons, evOr_nil, evOr_cons, evT_val, evT_and, evT_or, evT_not, evT_cmp, evT_chain, evT_isN, evTAnd_nil, evTAnd_cons, evTOr_nil, evTOr_cons, evIt_seq, evIt_rng, evIt_enum, evIt_zip, evTg_n, evTg_t, evTg_ix, evTgs_nil, evTgs_cons, evS_asg, evS_asgT, evS_par, evS_ex, evS_ret, evS_retN, evS_iff, evS_forF, evS_whl, evS_rai, evS_pass, evS_brk, evS_cont, evSs_nil, evSs_cons, evE_compF, ite_ap, join_some, bltn, arg1, arg2, lenB, allB, anyB, intB, absB, minB, maxB, tupB, lstB, dmB, binop, cmpop, ix_tup, ix_lst, ix_scr, slB, truth, itemsOf, rngB, store1_dat, store1_cell, store1_own0, store1_own1, parM, ixSet, mthB, ty_obj, ty_int, ty_bool, ty_str, ty_tuple, ty_list, ty_dict, isObj, isInt, isBl, isStr, isTup, isLst, isDct, write_ap, at_0, at_1, at_2, set_0, set_1, set_2, List.length_cons, List.length_nil, List.replicate, List.append_nil, List.cons_append, List.nil_append, List.getElem?_cons_zero, List.getElem?_cons_succ, List.set_cons_zero, List.set_cons_succ, Nat.sub_self, Nat.reduceAdd, Nat.reduceSub, if_true, if_false, Bool.false_eq_true, Bool.not_true, Bool.not_false, Tg.slots, Tgs.slots, wipe, decide_true, decide_false, Bool.and_true, Bool.true_and, Bool.and_false, Bool.false_and, mulOk_r, mulOk_l, pow15, pow60, Int.reduceLT, Int.reduceNeg, endFn_set, endFn_setO, mulOk_mod, deq_int, din_int, din_lot, deq_lot, deq_bl, permL, List.filterMap_cons, List.filterMap_nil, List.map_cons, List.map_nil, beq_self_eq_true, isTupD, ite_bool, ite_tf, ix_tab0, ix_tab1, hs]
        | cons j js =>
          rw [q] at hs
          simp only [run_ap, bindA_dat, bindA_own0, bindA_cell, bindA_own, bindA_nil, bind_ap, pure_ap, opt_some, guard_true, use_dat, use_own, peek_dat, peek_own, peeks_nil, peeks_cons, flowR_rt, flowR_nx, endFn_dat, endFn_own, evE_k, evE_v, evE_glob, evE_bin, evE_neg, evE_cmp, evE_chain, evE_isN, evE_and, evE_or, evE_not, evE_ite, evE_tup, evE_lst, evE_ix, evE_sl, evE_isI, evE_call, evE_callK, evE_bi, evE_mth, evEs_nil, evEs_cons, evDs_nil, evDs_cons, evPart_nil, evPart_cons, evAnd_nil, evAnd_cons, evOr_nil, evOr_cons, evT_val, evT_and, evT_or, evT_not, evT_cmp, evT_chain, evT_isN, evTAnd_nil, evTAnd_cons, evTOr_nil, evTOr_cons, evIt_seq, evIt_rng, evIt_enum, evIt_zip, evTg_n, evTg_t, evTg_ix, evTgs_nil, evTgs_cons, evS_asg, evS_asgT, evS_par, evS_ex, evS_ret, evS_retN, evS_iff, evS_forF, evS_whl, evS_rai, evS_pass, evS_brk, evS_cont, evSs_nil, evSs_cons, evE_compF, ite_ap, join_some, bltn, arg1, arg2, lenB, allB, anyB, intB, absB, minB, maxB, tupB, lstB, dmB, binop, cmpop, ix_tup, ix_lst, ix_scr, slB, truth, itemsOf, rngB, store1_dat, store1_cell, store1_own0, store1_own1, parM, ixSet, mthB, ty_obj, ty_int, ty_bool, ty_str, ty_tuple, ty_list, ty_dict, isObj, isInt, isBl, isStr, isTup, isLst, isDct, write_ap, at_0, at_1, at_2, set_0, set_1, set_2, List.length_cons, List.length_nil, List.replicate, List.append_nil, List.cons_append, List.nil_append, List.getElem?_cons_zero, List.getElem?_cons_succ, List.set_cons_zero, List.set_cons_succ, Nat.sub_self, Nat.reduceAdd, Nat.reduceSub, if_true, if_false, Bool.false_eq_true, Bool.not_true, Bool.not_false, Tg.slots, Tgs.slots, wipe, decide_true, decide_false, Bool.and_true, Bool.true_and, Bool.and_false, Bool.false_and, mulOk_r, mulOk_l, pow15, pow60, Int.reduceLT, Int.reduceNeg, endFn_set, endFn_setO, mulOk_mod, deq_int, din_int, din_lot, deq_lot, deq_bl, permL, List.filterMap_cons, List.filterMap_nil, List.map_cons, List.map_nil, beq_self_eq_true, isTupD, ite_bool, ite_tf, ix_tab0, ix_tab1, List.isEmpty_cons, firstD] at hs ⊢
          simp only [run_ap, bindA_dat, bindA_own0, bindA_cell, bindA_own, bindA_nil, bind_ap, pure_ap, opt_some, guard_true, use_dat, use_own, peek_dat, peek_own, peeks_nil, peeks_cons, flowR_rt, flowR_nx, endFn_dat, endFn_own, evE_k, evE_v, evE_glob, evE_bin, evE_neg, evE_cmp, evE_chain, evE_isN, evE_and, evE_or, evE_not, evE_ite, evE_tup, evE_lst, evE_ix, evE_sl, evE_isI, evE_call, evE_callK, evE_bi, evE_mth, evEs_nil, evEs_cons, evDs_nil, evDs_cons, evPart_nil, evPart_cons, evAnd_nil, evAnd_cons, evOr_nil, evOr_cons, evT_val, evT_and, evT_or, evT_not, evT_cmp, evT_chain, evT_isN, evTAnd_nil, evTAnd_cons, evTOr_nil, evTOr_cons, evIt_seq, evIt_rng, evIt_enum, evIt_zip, evTg_n, evTg_t, evTg_ix, evTgs_nil, evTgs_cons, evS_asg, evS_asgT, evS_par, evS_ex, evS_ret, evS_retN, evS_iff, evS_forF, evS_whl, evS_rai, evS_pass, evS_brk, evS_cont, evSs_nil, evSs_cons, evE_compF, ite_ap, join_some, bltn, arg1, arg2, lenB, allB, anyB, intB, absB, minB, maxB, tupB, lstB, dmB, binop, cmpop, ix_tup, ix_lst, ix_scr, slB, truth, itemsOf, rngB, store1_dat, store1_cell, store1_own0, store1_own1, parM, ixSet, mthB, ty_obj, ty_int, ty_bool, ty_str, ty_tuple, ty_list, ty_dict, isObj, isInt, isBl, isStr, isTup, isLst, isDct, write_ap, at_0, at_1, at_2, set_0, set_1, set_2, List.length_cons, List.length_nil, List.replicate, List.append_nil, List.cons_append, List.nil_append, List.getElem?_cons_zero, List.getElem?_cons_succ, List.set_cons_zero, List.set_cons_succ, Nat.sub_self, Nat.reduceAdd, Nat.reduceSub, if_true, if_false, Bool.false_eq_true, Bool.not_true, Bool.not_false, Tg.slots, Tgs.slots, wipe, decide_true, decide_false, Bool.and_true, Bool.true_and, Bool.and_false, Bool.false_and, mulOk_r, mulOk_l, pow15, pow60, Int.reduceLT, Int.reduceNeg, endFn_set, endFn_setO, mulOk_mod, deq_int, din_int, din_lot, deq_lot, deq_bl, permL, List.filterMap_cons, List.filterMap_nil, List.map_cons, List.map_nil, beq_self_eq_true, isTupD, ite_bool, ite_tf, ix_tab0, ix_tab1, hs]
      · simp only [run_ap, bindA_dat, bindA_own0, bindA_cell, bindA_own, bindA_nil, bind_ap, pure_ap, opt_some, guard_true, use_dat, use_own, peek_dat, peek_own, peeks_nil, peeks_cons, flowR_rt, flowR_nx, endFn_dat, endFn_own, evE_k, evE_v, evE_glob, evE_bin, evE_neg, evE_cmp, evE_chain, evE_isN, evE_and, evE_or, evE_not, evE_ite, evE_tup, evE_lst, evE_ix, evE_sl, evE_isI, evE_call, evE_callK, evE_bi, evE_mth, evEs_nil, evEs_cons, evDs_nil, evDs_cons, evPart_nil, evPart_cons, evAnd_nil, evAnd_cons, evOr_nil, evOr_cons, evT_val, evT_and, evT_or, evT_not, evT_cmp, evT_chain, evT_isN, evTAnd_nil, evTAnd_cons, evTOr_nil, evTOr_cons, evIt_seq, evIt_rng, evIt_enum, evIt_zip, evTg_n, evTg_t, evTg_ix, evTgs_nil, evTgs_cons, evS_asg, evS_asgT, evS_par, evS_ex, evS_ret, evS_retN, evS_iff, evS_forF, evS_whl, evS_rai, evS_pass, evS_brk, evS_cont, evSs_nil, evSs_cons, evE_compF, ite_ap, join_some, bltn, arg1, arg2, lenB, allB, anyB, intB, absB, minB, maxB, tupB, lstB, dmB, binop, cmpop, ix_tup, ix_lst, ix_scr, slB, truth, itemsOf, rngB, store1_dat, store1_cell, store1_own0, store1_own1, parM, ixSet, mthB, ty_obj, ty_int, ty_bool, ty_str, ty_tuple, ty_list, ty_dict, isObj, isInt, isBl, isStr, isTup, isLst, isDct, write_ap, at_0, at_1, at_2, set_0, set_1, set_2, List.length_cons, List.length_nil, List.replicate, List.append_nil, List.cons_append, List.nil_append, List.getElem?_cons_zero, List.getElem?_cons_succ, List.set_cons_zero, List.set_cons_succ, Nat.sub_self, Nat.reduceAdd, Nat.reduceSub, if_true, if_false, Bool.false_eq_true, Bool.not_true, Bool.not_false, Tg.slots, Tgs.slots, wipe, decide_true, decide_false, Bool.and_true, Bool.true_and, Bool.and_false, Bool.false_and, mulOk_r, mulOk_l, pow15, pow60, Int.reduceLT, Int.reduceNeg, endFn_set, endFn_setO, mulOk_mod, deq_int, din_int, din_lot, deq_lot, deq_bl, permL, List.filterMap_cons, List.filterMap_nil, List.map_cons, List.map_nil, beq_self_eq_true, isTupD, ite_bool, ite_tf, ix_tab0, ix_tab1, forF_ap, ft__law_right_4, fb__law_right_4, List.length_map, g1, g2, Int.toNat_natCast, rng_upTo, hd, hi, dg, deq_ints_nil]
        cases q : occ ls g with
        | nil =>
          rw [q] at hs
          simp only [run_ap, bindA_dat, bindA_own0, bindA_cell, bindA_own, bindA_nil, bind_ap, pure_ap, opt_some, guard_true, use_dat, use_own, peek_dat, peek_own, peeks_nil, peeks_cons, flowR_rt, flowR_nx, endFn_dat, endFn_own, evE_k, evE_v, evE_glob, evE_bin, evE_neg, evE_cmp, evE_chain, evE_isN, evE_and, evE_or, evE_not, evE_ite, evE_tup, evE_lst, evE_ix, evE_sl, evE_isI, evE_call, evE_callK, evE_bi, evE_mth, evEs_nil, evEs_cons, evDs_nil, evDs_cons, evPart_nil, evPart_cons, evAnd_nil, evAnd_cons, evOr_nil, evOr_cons, evT_val, evT_and, evT_or, evT_not, evT_cmp, evT_chain, evT_isN, evTAnd_nil, evTAnd_cons, evTOr_nil, evTOr_cons, evIt_seq, evIt_rng, evIt_enum, evIt_zip, evTg_n, evTg_t, evTg_ix, evTgs_nil, evTgs_cons, evS_asg, evS_asgT, evS_par, evS_ex, evS_ret, evS_retN, evS_iff, evS_forF, evS_whl, evS_rai, evS_pass, evS_brk, evS_cont, evSs_nil, evSs_cons, evE_compF, ite_ap, join_some, bltn, arg1, arg2, lenB, allB, anyB, intB, absB, minB, maxB, tupB, lstB, dmB, binop, cmpop, ix_tup, ix_lst, ix_scr, slB, truth, itemsOf, rngB, store1_dat, store1_cell, store1_own0, store1_own1, parM, ixSet, mthB, ty_obj, ty_int, ty_bool, ty_str, ty_tuple, ty_list, ty_dict, isObj, isInt, isBl, isStr, isTup, isLst, isDct, write_ap, at_0, at_1, at_2, set_0, set_1, set_2, List.length_cons, List.length_nil, List.replicate, List.append_nil, List.cons_append, List.nil_append, List.getElem?_cons_zero, List.getElem?_cons_succ, List.set_cons_zero, List.set_cons_succ, Nat.sub_self, Nat.reduceAdd, Nat.reduceSub, if_true, if_false, Bool.false_eq_true, Bool.not_true, Bool.not_false, Tg.slots, Tgs.slots, wipe, decide_true, decide_false, Bool.and_true, Bool.true_and, Bool.and_false, Bool.false_and, mulOk_r, mulOk_l, pow15, pow60, Int.reduceLT, Int.reduceNeg, endFn_set, endFn_setO, mulOk_mod, deq_int, din_int, din_lot, deq_lot, deq_bl, permL, List.filterMap_cons, List.filterMap_nil, List.map_cons, List.map_nil, beq_self_eq_true, isTupD, ite_bool, ite_tf, ix_tab0, ix_tab1, List.isEmpty_nil, firstD] at hs ⊢
          simp only [run_ap, bindA_dat, bindA_own0, bindA_cell, bindA_own, bindA_nil, bind_ap, pure_ap, opt_some, guard_true, use_dat, use_own, peek_dat, peek_own, peeks_nil, peeks_cons, flowR_rt, flowR_nx, endFn_dat, endFn_own, evE_k, evE_v, evE_glob, evE_bin, evE_neg, evE_cmp, evE_chain, evE_isN, evE_and, evE_or, evE_not, evE_ite, evE_tup, evE_lst, evE_ix, evE_sl, evE_isI, evE_call, evE_callK, evE_bi, evE_mth, evEs_nil, evEs_cons, evDs_nil, evDs_cons, evPart_nil, evPart_cons, evAnd_nil, evAnd_cons, evOr_nil, evOr_cons, evT_val, evT_and, evT_or, evT_not, evT_cmp, evT_chain, evT_isN, evTAnd_nil, evTAnd_cons, evTOr_nil, evTOr_cons, evIt_seq, evIt_rng, evIt_enum, evIt_zip, evTg_n, evTg_t, evTg_ix, evTgs_nil, evTgs_cons, evS_asg, evS_asgT, evS_par, evS_ex, evS_ret, evS_retN, evS_iff, evS_forF, evS_whl, evS_rai, evS_pass, evS_brk, evS_cont, evSs_nil, evSs_cons, evE_compF, ite_ap, join_some, bltn, arg1, arg2, lenB, allB, anyB, intB, absB, minB, maxB, tupB, lstB, dmB, binop, cmpop, ix_tup, ix_lst, ix_scr, slB, truth, itemsOf, rngB, store1_dat, store1_cell, store1_own0, store1_own1, parM, ixSet, mthB, ty_obj, ty_int, ty_bool, ty_str, ty_tuple, ty_list, ty_dict, isObj, isInt, isBl, isStr, isTup, isLst, isDct, write_ap, at_0, at_1, at_2, set_0, set_1, set_2, List.length_cons, List.length_nil, List.replicate, List.append_nil, List.cons_append, List.nil_append, List.getElem?_cons_zero, List.getElem?_cons_succ, List.set_cons_zero, List.set_cons_succ, Nat.sub_self, Nat.reduceAdd, Nat.reduceSub, if_true, if_false, Bool.false_eq_true, Bool.not_true, Bool.not_false, Tg.slots, Tgs.slots, wipe, decide_true, decide_false, Bool.and_true, Bool.true_and, Bool.and_false, Bool.false_and, mulOk_r, mulOk_l, pow15, pow60, Int.reduceLT, Int.reduceNeg, endFn_set, endFn_setO, mulOk_mod, deq_int, din_int, din_lot, deq_lot, deq_bl, permL, List.filterMap_cons, List.filterMap_nil, List.map_cons, List.map_nil, beq_self_eq_true, isTupD, ite_bool, ite_tf, ix_tab0, ix_tab1, hs]
        | cons j js =>
          rw [q] at hs
          simp only [run_ap, bindA_dat, bindA_own0, bindA_cell, bindA_own, bindA_nil, bind_ap, pure_ap, opt_some, guard_true, use_dat, use_own, peek_dat, peek_own, peeks_nil, peeks_cons, flowR_rt, flowR_nx, endFn_dat, endFn_own, evE_k, evE_v, evE_glob, evE_bin, evE_neg, evE_cmp, evE_chain, evE_isN, evE_and, evE_or, evE_not, evE_ite, evE_tup, evE_lst, evE_ix, evE_sl, evE_isI, evE_call, evE_callK, evE_bi, evE_mth, evEs_nil, evEs_cons, evDs_nil, evDs_cons, evPart_nil, evPart_cons, evAnd_nil, evAnd_cons, evOr_nil, evOr_cons, evT_val, evT_and, evT_or, evT_not, evT_cmp, evT_chain, evT_isN, evTAnd_nil, evTAnd_cons, evTOr_nil, evTOr_cons, evIt_seq, evIt_rng, evIt_enum, evIt_zip, evTg_n, evTg_t, evTg_ix, evTgs_nil, evTgs_cons, evS_asg, evS_asgT, evS_par, evS_ex, evS_ret, evS_retN, evS_iff, evS_forF, evS_whl, evS_rai, evS_pass, evS_brk, evS_cont, evSs_nil, evSs_cons, evE_compF, ite_ap, join_some, bltn, arg1, arg2, lenB, allB, anyB, intB, absB, minB, maxB, tupB, lstB, dmB, binop, cmpop, ix_tup, ix_lst, ix_scr, slB, truth, itemsOf, rngB, store1_dat, store1_cell, store1_own0, store1_own1, parM, ixSet, mthB, ty_obj, ty_int, ty_bool, ty_str, ty_tuple, ty_list, ty_dict, isObj, isInt, isBl, isStr, isTup, isLst, isDct, write_ap, at_0, at_1, at_2, set_0, set_1, set_2, List.length_cons, List.length_nil, List.replicate, List.append_nil, List.cons_append, List.nil_append, List.getElem?_cons_zero, List.getElem?_cons_succ, List.set_cons_zero, List.set_cons_succ, Nat.sub_self, Nat.reduceAdd, Nat.reduceSub, if_true, if_false, Bool.false_eq_true, Bool.not_true, Bool.not_false, Tg.slots, Tgs.slots, wipe, decide_true, decide_false, Bool.and_true, Bool.true_and, Bool.and_false, Bool.false_and, mulOk_r, mulOk_l, pow15, pow60, Int.reduceLT, Int.reduceNeg, endFn_set, endFn_setO, mulOk_mod, deq_int, din_int, din_lot, deq_lot, deq_bl, permL, List.filterMap_cons, List.filterMap_nil, List.map_cons, List.map_nil, beq_self_eq_true, isTupD, ite_bool, ite_tf, ix_tab0, ix_tab1, List.isEmpty_cons, firstD] at hs ⊢
          simp only [run_ap, bindA_dat, bindA_own0, bindA_cell, bindA_own, bindA_nil, bind_ap, pure_ap, opt_some, guard_true, use_dat, use_own, peek_dat, peek_own, peeks_nil, peeks_cons, flowR_rt, flowR_nx, endFn_dat, endFn_own, evE_k, evE_v, evE_glob, evE_bin, evE_neg, evE_cmp, evE_chain, evE_isN, evE_and, evE_or, evE_not, evE_ite, evE_tup, evE_lst, evE_ix, evE_sl, evE_isI, evE_call, evE_callK, evE_bi, evE_mth, evEs_nil, evEs_cons, evDs_nil, evDs_cons, evPart_nil, evPart_cons, evAnd_nil, evAnd_cons, evOr_nil, evOr_cons, evT_val, evT_and, evT_or, evT_not, evT_cmp, evT_chain, evT_isN, evTAnd_nil, evTAnd_cons, evTOr_nil, evTOr_cons, evIt_seq, evIt_rng, evIt_enum, evIt_zip, evTg_n, evTg_t, evTg_ix, evTgs_nil, evTgs_cons, evS_asg, evS_asgT, evS_par, evS_ex, evS_ret, evS_retN, evS_iff, evS_forF, evS_whl, evS_rai, evS_pass, evS_brk, evS_cont, evSs_nil, evSs_cons, evE_compF, ite_ap, join_some, bltn, arg1, arg2, lenB, allB, anyB, intB, absB, minB, maxB, tupB, lstB, dmB, binop, cmpop, ix_tup, ix_lst, ix_scr, slB, truth, itemsOf, rngB, store1_dat, store1_cell, store1_own0, store1_own1, parM, ixSet, mthB, ty_obj, ty_int, ty_bool, ty_str, ty_tuple, ty_list, ty_dict, isObj, isInt, isBl, isStr, isTup, isLst, isDct, write_ap, at_0, at_1, at_2, set_0, set_1, set_2, List.length_cons, List.length_nil, List.replicate, List.append_nil, List.cons_append, List.nil_append, List.getElem?_cons_zero, List.getElem?_cons_succ, List.set_cons_zero, List.set_cons_succ, Nat.sub_self, Nat.reduceAdd, Nat.reduceSub, if_true, if_false, Bool.false_eq_true, Bool.not_true, Bool.not_false, Tg.slots, Tgs.slots, wipe, decide_true, decide_false, Bool.and_true, Bool.true_and, Bool.and_false, Bool.false_and, mulOk_r, mulOk_l, pow15, pow60, Int.reduceLT, Int.reduceNeg, endFn_set, endFn_setO, mulOk_mod, deq_int, din_int, din_lot, deq_lot, deq_bl, permL, List.filterMap_cons, List.filterMap_nil, List.map_cons, List.map_nil, beq_self_eq_true, isTupD, ite_bool, ite_tf, ix_tab0, ix_tab1, hs]
    obtain ⟨r4', r7', ee⟩ := ih (some (.dat (lotD g))) (some (.dat (.lst ((occ ls g).map D.int)))) r8 fun x hx => hg x (List.mem_cons_of_mem _ hx)
    refine ⟨r4', r7', ?_⟩
    rw [List.map_cons, forM_step]
    simp only [bind_ap, hb, ee]
/-- the loop's turn: a table, maybe shifted -/
theorem shift_lot {b : Int} {l : List Int} (hb : 1 ≤ b) (h : Lot b l) : Lot (b + 2) (0 :: l.map (· + 1)) := by
  refine ⟨List.pairwise_cons.mpr ⟨fun x hx => ?_, ?_⟩, fun x hx => ?_⟩
  · obtain ⟨y, hy, rfl⟩ := List.mem_map.mp hx
    have := h.rng y hy
    omega
  · rw [List.pairwise_map]
    exact h.up.imp fun hxy => by omega
  · rcases List.mem_cons.mp hx with rfl | hx
    · omega
    · obtain ⟨y, hy, rfl⟩ := List.mem_map.mp hx
      have := h.rng y hy
      omega
theorem map_inj (l m : List Int) (h : l.map (· + 1) = m.map (· + 1)) : l = m := by
  exact (List.map_inj_right fun x y e => by omega).mp h
theorem nodup_map {ls : List (List Int)} (h : ls.Nodup) : (ls.map fun l => (0 : Int) :: l.map (· + 1)).Nodup := by
  induction ls with
  | nil => exact .nil
  | cons a ls ih =>
    have h' := List.nodup_cons.mp h
    rw [List.map_cons]
    refine List.nodup_cons.mpr ⟨fun hm => ?_, ih h'.2⟩
    obtain ⟨y, hy, e⟩ := List.mem_map.mp hm
    exact h'.1 (map_inj _ _ (List.cons.inj e).2 ▸ hy)
theorem shift_tb {b : Int} {ls : List (List Int)} (h : Tb 12 16 b ls) (hb : b < 11) : Tb 12 16 (b + 2) (ls.map fun l => (0 : Int) :: l.map (· + 1)) :=
  ⟨by have := h.lo; omega, by omega, by rw [List.length_map]; exact h.two, by rw [List.length_map]; exact h.most, nodup_map h.nd, fun l hl => by
    obtain ⟨m, hm, rfl⟩ := List.mem_map.mp hl
    exact shift_lot h.lo (h.lot m hm)⟩
theorem low_run (b : Int) (ls : List (List Int)) (h : Tb 12 16 b ls) (r0 r1 r3 r4 r5 r6 r7 r8 r9 r10 r11 : Option R) (s : Sto) :
    compM (compF tg__law_right_1 cd__law_right_1 el__law_right_1 [r0, r1, some (.dat (tabD b ls)), r3, r4, r5, r6, r7, r8, r9, r10, r11]) (ls.map lotD) s = .ok (ls.map fun l => lotD (0 :: l.map (· + 1))) s := by
  refine compM_map fun l hl => ?_
  have hi : compM (compF tg__law_right_0 cd__law_right_0 el__law_right_0 [r0, r1, some (.dat (tabD b ls)), r3, some (.dat (lotD l)), r5, r6, r7, r8, r9, r10, r11]) (l.map D.int) s = .ok (l.map fun x => .int (x + 1)) s := by
    refine compM_map fun x hx => ?_
    simp only [run_ap, bindA_dat, bindA_own0, bindA_cell, bindA_own, bindA_nil, bind_ap, pure_ap, opt_some, guard_true, use_dat, use_own, peek_dat, peek_own, peeks_nil, peeks_cons, flowR_rt, flowR_nx, endFn_dat, endFn_own, evE_k, evE_v, evE_glob, evE_bin, evE_neg, evE_cmp, evE_chain, evE_isN, evE_and, evE_or, evE_not, evE_ite, evE_tup, evE_lst, evE_ix, evE_sl, evE_isI, evE_call, evE_callK, evE_bi, evE_mth, evEs_nil, evEs_cons, evDs_nil, evDs_cons, evPart_nil, evPart_cons, evAnd_nil, evAnd_cons, evOr_nil, evOr_cons, evT_val, evT_and, evT_or, evT_not, evT_cmp, evT_chain, evT_isN, evTAnd_nil, evTAnd_cons, evTOr_nil, evTOr_cons, evIt_seq, evIt_rng, evIt_enum, evIt_zip, evTg_n, evTg_t, evTg_ix, evTgs_nil, evTgs_cons, evS_asg, evS_asgT, evS_par, evS_ex, evS_ret, evS_retN, evS_iff, evS_forF, evS_whl, evS_rai, evS_pass, evS_brk, evS_cont, evSs_nil, evSs_cons, evE_compF, ite_ap, join_some, bltn, arg1, arg2, lenB, allB, anyB, intB, absB, minB, maxB, tupB, lstB, dmB, binop, cmpop, ix_tup, ix_lst, ix_scr, slB, truth, itemsOf, rngB, store1_dat, store1_cell, store1_own0, store1_own1, parM, ixSet, mthB, ty_obj, ty_int, ty_bool, ty_str, ty_tuple, ty_list, ty_dict, isObj, isInt, isBl, isStr, isTup, isLst, isDct, write_ap, at_0, at_1, at_2, set_0, set_1, set_2, List.length_cons, List.length_nil, List.replicate, List.append_nil, List.cons_append, List.nil_append, List.getElem?_cons_zero, List.getElem?_cons_succ, List.set_cons_zero, List.set_cons_succ, Nat.sub_self, Nat.reduceAdd, Nat.reduceSub, if_true, if_false, Bool.false_eq_true, Bool.not_true, Bool.not_false, Tg.slots, Tgs.slots, wipe, decide_true, decide_false, Bool.and_true, Bool.true_and, Bool.and_false, Bool.false_and, mulOk_r, mulOk_l, pow15, pow60, Int.reduceLT, Int.reduceNeg, endFn_set, endFn_setO, mulOk_mod, deq_int, din_int, din_lot, deq_lot, deq_bl, permL, List.filterMap_cons, List.filterMap_nil, List.map_cons, List.map_nil, beq_self_eq_true, isTupD, ite_bool, ite_tf, ix_tab0, ix_tab1, compF_ap, tg__law_right_0, cd__law_right_0, el__law_right_0]
  have g : lenOk (0 + 1 + l.length) = true := len_ok (by
    have := (h.lot l hl).len (by have := h.lo; omega)
    have := h.hi
    omega)
  have e0 : lotD l = .tup (l.map D.int) := rfl
  rw [e0] at hi ⊢
  simp only [run_ap, bindA_dat, bindA_own0, bindA_cell, bindA_own, bindA_nil, bind_ap, pure_ap, opt_some, guard_true, use_dat, use_own, peek_dat, peek_own, peeks_nil, peeks_cons, flowR_rt, flowR_nx, endFn_dat, endFn_own, evE_k, evE_v, evE_glob, evE_bin, evE_neg, evE_cmp, evE_chain, evE_isN, evE_and, evE_or, evE_not, evE_ite, evE_tup, evE_lst, evE_ix, evE_sl, evE_isI, evE_call, evE_callK, evE_bi, evE_mth, evEs_nil, evEs_cons, evDs_nil, evDs_cons, evPart_nil, evPart_cons, evAnd_nil, evAnd_cons, evOr_nil, evOr_cons, evT_val, evT_and, evT_or, evT_not, evT_cmp, evT_chain, evT_isN, evTAnd_nil, evTAnd_cons, evTOr_nil, evTOr_cons, evIt_seq, evIt_rng, evIt_enum, evIt_zip, evTg_n, evTg_t, evTg_ix, evTgs_nil, evTgs_cons, evS_asg, evS_asgT, evS_par, evS_ex, evS_ret, evS_retN, evS_iff, evS_forF, evS_whl, evS_rai, evS_pass, evS_brk, evS_cont, evSs_nil, evSs_cons, evE_compF, ite_ap, join_some, bltn, arg1, arg2, lenB, allB, anyB, intB, absB, minB, maxB, tupB, lstB, dmB, binop, cmpop, ix_tup, ix_lst, ix_scr, slB, truth, itemsOf, rngB, store1_dat, store1_cell, store1_own0, store1_own1, parM, ixSet, mthB, ty_obj, ty_int, ty_bool, ty_str, ty_tuple, ty_list, ty_dict, isObj, isInt, isBl, isStr, isTup, isLst, isDct, write_ap, at_0, at_1, at_2, set_0, set_1, set_2, List.length_cons, List.length_nil, List.replicate, List.append_nil, List.cons_append, List.nil_append, List.getElem?_cons_zero, List.getElem?_cons_succ, List.set_cons_zero, List.set_cons_succ, Nat.sub_self, Nat.reduceAdd, Nat.reduceSub, if_true, if_false, Bool.false_eq_true, Bool.not_true, Bool.not_false, Tg.slots, Tgs.slots, wipe, decide_true, decide_false, Bool.and_true, Bool.true_and, Bool.and_false, Bool.false_and, mulOk_r, mulOk_l, pow15, pow60, Int.reduceLT, Int.reduceNeg, endFn_set, endFn_setO, mulOk_mod, deq_int, din_int, din_lot, deq_lot, deq_bl, permL, List.filterMap_cons, List.filterMap_nil, List.map_cons, List.map_nil, beq_self_eq_true, isTupD, ite_bool, ite_tf, ix_tab0, ix_tab1, compF_ap, tg__law_right_1, cd__law_right_1, el__law_right_1, hi, List.length_map]
  have g' : lenOk (1 + l.length) = true := by rw [← g]
  simp only [run_ap, bindA_dat, bindA_own0, bindA_cell, bindA_own, bindA_nil, bind_ap, pure_ap, opt_some, guard_true, use_dat, use_own, peek_dat, peek_own, peeks_nil, peeks_cons, flowR_rt, flowR_nx, endFn_dat, endFn_own, evE_k, evE_v, evE_glob, evE_bin, evE_neg, evE_cmp, evE_chain, evE_isN, evE_and, evE_or, evE_not, evE_ite, evE_tup, evE_lst, evE_ix, evE_sl, evE_isI, evE_call, evE_callK, evE_bi, evE_mth, evEs_nil, evEs_cons, evDs_nil, evDs_cons, evPart_nil, evPart_cons, evAnd_nil, evAnd_cons, evOr_nil, evOr_cons, evT_val, evT_and, evT_or, evT_not, evT_cmp, evT_chain, evT_isN, evTAnd_nil, evTAnd_cons, evTOr_nil, evTOr_cons, evIt_seq, evIt_rng, evIt_enum, evIt_zip, evTg_n, evTg_t, evTg_ix, evTgs_nil, evTgs_cons, evS_asg, evS_asgT, evS_par, evS_ex, evS_ret, evS_retN, evS_iff, evS_forF, evS_whl, evS_rai, evS_pass, evS_brk, evS_cont, evSs_nil, evSs_cons, evE_compF, ite_ap, join_some, bltn, arg1, arg2, lenB, allB, anyB, intB, absB, minB, maxB, tupB, lstB, dmB, binop, cmpop, ix_tup, ix_lst, ix_scr, slB, truth, itemsOf, rngB, store1_dat, store1_cell, store1_own0, store1_own1, parM, ixSet, mthB, ty_obj, ty_int, ty_bool, ty_str, ty_tuple, ty_list, ty_dict, isObj, isInt, isBl, isStr, isTup, isLst, isDct, write_ap, at_0, at_1, at_2, set_0, set_1, set_2, List.length_cons, List.length_nil, List.replicate, List.append_nil, List.cons_append, List.nil_append, List.getElem?_cons_zero, List.getElem?_cons_succ, List.set_cons_zero, List.set_cons_succ, Nat.sub_self, Nat.reduceAdd, Nat.reduceSub, if_true, if_false, Bool.false_eq_true, Bool.not_true, Bool.not_false, Tg.slots, Tgs.slots, wipe, decide_true, decide_false, Bool.and_true, Bool.true_and, Bool.and_false, Bool.false_and, mulOk_r, mulOk_l, pow15, pow60, Int.reduceLT, Int.reduceNeg, endFn_set, endFn_setO, mulOk_mod, deq_int, din_int, din_lot, deq_lot, deq_bl, permL, List.filterMap_cons, List.filterMap_nil, List.map_cons, List.map_nil, beq_self_eq_true, isTupD, ite_bool, ite_tf, ix_tab0, ix_tab1, g', lotD, List.map_map]
  rfl
end K04
set_option maxHeartbeats 4000000
namespace K04
open PySem DB
def shiftL (l : List Int) : List Int := 0 :: l.map (· + 1)
theorem low_run' (b : Int) (ls : List (List Int)) (h : Tb 12 16 b ls) (r0 r1 r3 r4 r5 r6 r7 r8 r9 r10 r11 : Option R) (s : Sto) :
    compM (compF tg__law_right_1 cd__law_right_1 el__law_right_1 [r0, r1, some (.dat (tabD b ls)), r3, r4, r5, r6, r7, r8, r9, r10, r11]) (ls.map lotD) s = .ok ((ls.map shiftL).map lotD) s := by
  rw [low_run b ls h, List.map_map]
  rfl
theorem lit_run (b : Int) (ls : List (List Int)) (r0 r1 r3 r4 r5 r6 r7 r8 r9 r10 r11 : Option R) (s : Sto) :
    compM (compF tg__law_right_6 cd__law_right_6 el__law_right_6 [r0, r1, some (.dat (tabD b ls)), r3, r4, r5, r6, r7, r8, r9, r10, r11]) ((seqI b.toNat).map D.int) s = .ok ((litL b ls).map D.int) s := by
  refine compM_filt (p := fun i : Int => (ls.map fun l => decide (i ∈ l)).all id) fun i hi => ?_
  have h2 : compM (compF tg__law_right_5 cd__law_right_5 el__law_right_5 [r0, r1, some (.dat (tabD b ls)), r3, r4, some (.dat (.int i)), r6, r7, r8, r9, r10, r11]) (ls.map lotD) s = .ok (ls.map fun l => .bl (decide (i ∈ l))) s := by
    refine compM_map fun l hl => ?_
    simp only [run_ap, bindA_dat, bindA_own0, bindA_cell, bindA_own, bindA_nil, bind_ap, pure_ap, opt_some, guard_true, use_dat, use_own, peek_dat, peek_own, peeks_nil, peeks_cons, flowR_rt, flowR_nx, endFn_dat, endFn_own, evE_k, evE_v, evE_glob, evE_bin, evE_neg, evE_cmp, evE_chain, evE_isN, evE_and, evE_or, evE_not, evE_ite, evE_tup, evE_lst, evE_ix, evE_sl, evE_isI, evE_call, evE_callK, evE_bi, evE_mth, evEs_nil, evEs_cons, evDs_nil, evDs_cons, evPart_nil, evPart_cons, evAnd_nil, evAnd_cons, evOr_nil, evOr_cons, evT_val, evT_and, evT_or, evT_not, evT_cmp, evT_chain, evT_isN, evTAnd_nil, evTAnd_cons, evTOr_nil, evTOr_cons, evIt_seq, evIt_rng, evIt_enum, evIt_zip, evTg_n, evTg_t, evTg_ix, evTgs_nil, evTgs_cons, evS_asg, evS_asgT, evS_par, evS_ex, evS_ret, evS_retN, evS_iff, evS_forF, evS_whl, evS_rai, evS_pass, evS_brk, evS_cont, evSs_nil, evSs_cons, evE_compF, ite_ap, join_some, bltn, arg1, arg2, lenB, allB, anyB, intB, absB, minB, maxB, tupB, lstB, dmB, binop, cmpop, ix_tup, ix_lst, ix_scr, slB, truth, itemsOf, rngB, store1_dat, store1_cell, store1_own0, store1_own1, parM, ixSet, mthB, ty_obj, ty_int, ty_bool, ty_str, ty_tuple, ty_list, ty_dict, isObj, isInt, isBl, isStr, isTup, isLst, isDct, write_ap, at_0, at_1, at_2, set_0, set_1, set_2, List.length_cons, List.length_nil, List.replicate, List.append_nil, List.cons_append, List.nil_append, List.getElem?_cons_zero, List.getElem?_cons_succ, List.set_cons_zero, List.set_cons_succ, Nat.sub_self, Nat.reduceAdd, Nat.reduceSub, if_true, if_false, Bool.false_eq_true, Bool.not_true, Bool.not_false, Tg.slots, Tgs.slots, wipe, decide_true, decide_false, Bool.and_true, Bool.true_and, Bool.and_false, Bool.false_and, mulOk_r, mulOk_l, pow15, pow60, Int.reduceLT, Int.reduceNeg, endFn_set, endFn_setO, mulOk_mod, deq_int, din_int, din_lot, deq_lot, deq_bl, permL, List.filterMap_cons, List.filterMap_nil, List.map_cons, List.map_nil, beq_self_eq_true, isTupD, ite_bool, ite_tf, ix_tab0, ix_tab1, compF_ap, tg__law_right_5, cd__law_right_5, el__law_right_5, lotD]
  simp only [run_ap, bindA_dat, bindA_own0, bindA_cell, bindA_own, bindA_nil, bind_ap, pure_ap, opt_some, guard_true, use_dat, use_own, peek_dat, peek_own, peeks_nil, peeks_cons, flowR_rt, flowR_nx, endFn_dat, endFn_own, evE_k, evE_v, evE_glob, evE_bin, evE_neg, evE_cmp, evE_chain, evE_isN, evE_and, evE_or, evE_not, evE_ite, evE_tup, evE_lst, evE_ix, evE_sl, evE_isI, evE_call, evE_callK, evE_bi, evE_mth, evEs_nil, evEs_cons, evDs_nil, evDs_cons, evPart_nil, evPart_cons, evAnd_nil, evAnd_cons, evOr_nil, evOr_cons, evT_val, evT_and, evT_or, evT_not, evT_cmp, evT_chain, evT_isN, evTAnd_nil, evTAnd_cons, evTOr_nil, evTOr_cons, evIt_seq, evIt_rng, evIt_enum, evIt_zip, evTg_n, evTg_t, evTg_ix, evTgs_nil, evTgs_cons, evS_asg, evS_asgT, evS_par, evS_ex, evS_ret, evS_retN, evS_iff, evS_forF, evS_whl, evS_rai, evS_pass, evS_brk, evS_cont, evSs_nil, evSs_cons, evE_compF, ite_ap, join_some, bltn, arg1, arg2, lenB, allB, anyB, intB, absB, minB, maxB, tupB, lstB, dmB, binop, cmpop, ix_tup, ix_lst, ix_scr, slB, truth, itemsOf, rngB, store1_dat, store1_cell, store1_own0, store1_own1, parM, ixSet, mthB, ty_obj, ty_int, ty_bool, ty_str, ty_tuple, ty_list, ty_dict, isObj, isInt, isBl, isStr, isTup, isLst, isDct, write_ap, at_0, at_1, at_2, set_0, set_1, set_2, List.length_cons, List.length_nil, List.replicate, List.append_nil, List.cons_append, List.nil_append, List.getElem?_cons_zero, List.getElem?_cons_succ, List.set_cons_zero, List.set_cons_succ, Nat.sub_self, Nat.reduceAdd, Nat.reduceSub, if_true, if_false, Bool.false_eq_true, Bool.not_true, Bool.not_false, Tg.slots, Tgs.slots, wipe, decide_true, decide_false, Bool.and_true, Bool.true_and, Bool.and_false, Bool.false_and, mulOk_r, mulOk_l, pow15, pow60, Int.reduceLT, Int.reduceNeg, endFn_set, endFn_setO, mulOk_mod, deq_int, din_int, din_lot, deq_lot, deq_bl, permL, List.filterMap_cons, List.filterMap_nil, List.map_cons, List.map_nil, beq_self_eq_true, isTupD, ite_bool, ite_tf, ix_tab0, ix_tab1, compF_ap, tg__law_right_6, cd__law_right_6, el__law_right_6, h2, blsOf_map (fun l : List Int => decide (i ∈ l)), ite_res]
theorem dark_run (b : Int) (ls : List (List Int)) (r0 r1 r3 r4 r5 r6 r7 r8 r9 r10 r11 : Option R) (s : Sto) :
    compM (compF tg__law_right_8 cd__law_right_8 el__law_right_8 [r0, r1, some (.dat (tabD b ls)), r3, r4, r5, r6, r7, r8, r9, r10, r11]) ((seqI b.toNat).map D.int) s = .ok ((darkL b ls).map D.int) s := by
  refine compM_filt (p := fun i : Int => !(ls.map fun l => decide (i ∈ l)).any id) fun i hi => ?_
  have h2 : compM (compF tg__law_right_7 cd__law_right_7 el__law_right_7 [r0, r1, some (.dat (tabD b ls)), r3, r4, some (.dat (.int i)), r6, r7, r8, r9, r10, r11]) (ls.map lotD) s = .ok (ls.map fun l => .bl (decide (i ∈ l))) s := by
    refine compM_map fun l hl => ?_
    simp only [run_ap, bindA_dat, bindA_own0, bindA_cell, bindA_own, bindA_nil, bind_ap, pure_ap, opt_some, guard_true, use_dat, use_own, peek_dat, peek_own, peeks_nil, peeks_cons, flowR_rt, flowR_nx, endFn_dat, endFn_own, evE_k, evE_v, evE_glob, evE_bin, evE_neg, evE_cmp, evE_chain, evE_isN, evE_and, evE_or, evE_not, evE_ite, evE_tup, evE_lst, evE_ix, evE_sl, evE_isI, evE_call, evE_callK, evE_bi, evE_mth, evEs_nil, evEs_cons, evDs_nil, evDs_cons, evPart_nil, evPart_cons, evAnd_nil, evAnd_cons, evOr_nil, evOr_cons, evT_val, evT_and, evT_or, evT_not, evT_cmp, evT_chain, evT_isN, evTAnd_nil, evTAnd_cons, evTOr_nil, evTOr_cons, evIt_seq, evIt_rng, evIt_enum, evIt_zip, evTg_n, evTg_t, evTg_ix, evTgs_nil, evTgs_cons, evS_asg, evS_asgT, evS_par, evS_ex, evS_ret, evS_retN, evS_iff, evS_forF, evS_whl, evS_rai, evS_pass, evS_brk, evS_cont, evSs_nil, evSs_cons, evE_compF, ite_ap, join_some, bltn, arg1, arg2, lenB, allB, anyB, intB, absB, minB, maxB, tupB, lstB, dmB, binop, cmpop, ix_tup, ix_lst, ix_scr, slB, truth, itemsOf, rngB, store1_dat, store1_cell, store1_own0, store1_own1, parM, ixSet, mthB, ty_obj, ty_int, ty_bool, ty_str, ty_tuple, ty_list, ty_dict, isObj, isInt, isBl, isStr, isTup, isLst, isDct, write_ap, at_0, at_1, at_2, set_0, set_1, set_2, List.length_cons, List.length_nil, List.replicate, List.append_nil, List.cons_append, List.nil_append, List.getElem?_cons_zero, List.getElem?_cons_succ, List.set_cons_zero, List.set_cons_succ, Nat.sub_self, Nat.reduceAdd, Nat.reduceSub, if_true, if_false, Bool.false_eq_true, Bool.not_true, Bool.not_false, Tg.slots, Tgs.slots, wipe, decide_true, decide_false, Bool.and_true, Bool.true_and, Bool.and_false, Bool.false_and, mulOk_r, mulOk_l, pow15, pow60, Int.reduceLT, Int.reduceNeg, endFn_set, endFn_setO, mulOk_mod, deq_int, din_int, din_lot, deq_lot, deq_bl, permL, List.filterMap_cons, List.filterMap_nil, List.map_cons, List.map_nil, beq_self_eq_true, isTupD, ite_bool, ite_tf, ix_tab0, ix_tab1, compF_ap, tg__law_right_7, cd__law_right_7, el__law_right_7, lotD]
  simp only [run_ap, bindA_dat, bindA_own0, bindA_cell, bindA_own, bindA_nil, bind_ap, pure_ap, opt_some, guard_true, use_dat, use_own, peek_dat, peek_own, peeks_nil, peeks_cons, flowR_rt, flowR_nx, endFn_dat, endFn_own, evE_k, evE_v, evE_glob, evE_bin, evE_neg, evE_cmp, evE_chain, evE_isN, evE_and, evE_or, evE_not, evE_ite, evE_tup, evE_lst, evE_ix, evE_sl, evE_isI, evE_call, evE_callK, evE_bi, evE_mth, evEs_nil, evEs_cons, evDs_nil, evDs_cons, evPart_nil, evPart_cons, evAnd_nil, evAnd_cons, evOr_nil, evOr_cons, evT_val, evT_and, evT_or, evT_not, evT_cmp, evT_chain, evT_isN, evTAnd_nil, evTAnd_cons, evTOr_nil, evTOr_cons, evIt_seq, evIt_rng, evIt_enum, evIt_zip, evTg_n, evTg_t, evTg_ix, evTgs_nil, evTgs_cons, evS_asg, evS_asgT, evS_par, evS_ex, evS_ret, evS_retN, evS_iff, evS_forF, evS_whl, evS_rai, evS_pass, evS_brk, evS_cont, evSs_nil, evSs_cons, evE_compF, ite_ap, join_some, bltn, arg1, arg2, lenB, allB, anyB, intB, absB, minB, maxB, tupB, lstB, dmB, binop, cmpop, ix_tup, ix_lst, ix_scr, slB, truth, itemsOf, rngB, store1_dat, store1_cell, store1_own0, store1_own1, parM, ixSet, mthB, ty_obj, ty_int, ty_bool, ty_str, ty_tuple, ty_list, ty_dict, isObj, isInt, isBl, isStr, isTup, isLst, isDct, write_ap, at_0, at_1, at_2, set_0, set_1, set_2, List.length_cons, List.length_nil, List.replicate, List.append_nil, List.cons_append, List.nil_append, List.getElem?_cons_zero, List.getElem?_cons_succ, List.set_cons_zero, List.set_cons_succ, Nat.sub_self, Nat.reduceAdd, Nat.reduceSub, if_true, if_false, Bool.false_eq_true, Bool.not_true, Bool.not_false, Tg.slots, Tgs.slots, wipe, decide_true, decide_false, Bool.and_true, Bool.true_and, Bool.and_false, Bool.false_and, mulOk_r, mulOk_l, pow15, pow60, Int.reduceLT, Int.reduceNeg, endFn_set, endFn_setO, mulOk_mod, deq_int, din_int, din_lot, deq_lot, deq_bl, permL, List.filterMap_cons, List.filterMap_nil, List.map_cons, List.map_nil, beq_self_eq_true, isTupD, ite_bool, ite_tf, ix_tab0, ix_tab1, compF_ap, tg__law_right_8, cd__law_right_8, el__law_right_8, h2, blsOf_map (fun l : List Int => decide (i ∈ l)), ite_res]
theorem lit_len (b : Int) (ls : List (List Int)) (h : Tb 12 16 b ls) : (litL b ls).length ≤ 1000000 ∧ (darkL b ls).length ≤ 1000000 := by
  have h1 := List.length_filter_le (fun i => (ls.map fun l => decide (i ∈ l)).all id) (seqI b.toNat)
  have h2 := List.length_filter_le (fun i => !(ls.map fun l => decide (i ∈ l)).any id) (seqI b.toNat)
  rw [len_seqI] at h1 h2
  have := h.hi
  unfold litL darkL
  omega
def tl9 : Ss := match fb__law_right_9 with
  | .cons _ (.cons _ t) => t
  | t => t
theorem tail9 (c : Nat) (i b : Int) (ls : List (List Int)) (h : Tb 12 16 b ls) (p : List D) (s : Sto) (hp : PoolOk p) (hc : s[c]? = some ⟨.lst p, true⟩) (r3 r4 r5 r6 r7 r8 r9 r10 r11 : Option R) : ∃ p' r4' r7' r9' r10' r11', PoolOk p' ∧
    evSs tl9 [some (.cell c), some (.dat (.int i)), some (.dat (tabD b ls)), r3, r4, r5, r6, r7, r8, r9, r10, r11] s = .ok (.nx [some (.cell c), some (.dat (.int i)), some (.dat (tabD b ls)), r3, r4', r5, r6, r7', r8, r9', r10', r11']) (s.set c ⟨.lst p', true⟩) := by
  have hlo := h.lo
  have hhi := h.hi
  have hmo := h.most
  obtain ⟨ms, p2, m1, m2, hp2, e2⟩ := lots_run c b h.lo (by omega) ls (some (.dat (.int i))) r3 r4 r5 r6 r7 r8 r9 r10 r11 6 0 p s hp hc
  obtain ⟨r4', r7', e3⟩ := glyph_run b ls h i (some (.cell c)) r3 r5 r6 r9 r10 r11 (s.set c ⟨.lst p2, true⟩) (ls ++ ms) r4 r7 r8 fun g hg => by
    rcases List.mem_append.mp hg with hg | hg
    · exact h.lot g hg
    · exact m1 g hg
  have g0 : (-(2 ^ 62) : Int) ≤ 6 := by decide
  have g0' : (6 : Int) ≤ 1000000 := by decide
  have g1 : (-(2 ^ 62) : Int) ≤ b := by omega
  have g2 : b ≤ 1000000 := by omega
  have g3 : lenOk (ls.length + ms.length) = true := len_ok (by omega)
  obtain ⟨l1, l2⟩ := lit_len b ls h
  have nt : nice 12 (.tup [lotD (litL b ls), lotD (darkL b ls)]) = true := by
    show (decide (([lotD (litL b ls), lotD (darkL b ls)] : List D).length ≤ 1000000) && (nice 11 (lotD (litL b ls)) && (nice 11 (lotD (darkL b ls)) && true))) = true
    rw [nice_lot 9 _ l1, nice_lot 9 _ l2]
    rfl
  have hs := same 12 _ (s.set c ⟨.lst p2, true⟩) nt
  have hal := always_lit b ls h (s.set c ⟨.lst p2, true⟩)
  have had := always_dark b ls h (s.set c ⟨.lst p2, true⟩)
  refine ⟨p2, r4', r7', some (.dat (lotD (litL b ls))), some (.dat (lotD (darkL b ls))), some (.dat (.tup [lotD (litL b ls), lotD (darkL b ls)])), hp2, ?_⟩
  have h6 : (6 : Int).toNat = 6 := rfl
  by_cases hi : i = 1
  · subst hi
    simp only [run_ap, bindA_dat, bindA_own0, bindA_cell, bindA_own, bindA_nil, bind_ap, pure_ap, opt_some, guard_true, use_dat, use_own, peek_dat, peek_own, peeks_nil, peeks_cons, flowR_rt, flowR_nx, endFn_dat, endFn_own, evE_k, evE_v, evE_glob, evE_bin, evE_neg, evE_cmp, evE_chain, evE_isN, evE_and, evE_or, evE_not, evE_ite, evE_tup, evE_lst, evE_ix, evE_sl, evE_isI, evE_call, evE_callK, evE_bi, evE_mth, evEs_nil, evEs_cons, evDs_nil, evDs_cons, evPart_nil, evPart_cons, evAnd_nil, evAnd_cons, evOr_nil, evOr_cons, evT_val, evT_and, evT_or, evT_not, evT_cmp, evT_chain, evT_isN, evTAnd_nil, evTAnd_cons, evTOr_nil, evTOr_cons, evIt_seq, evIt_rng, evIt_enum, evIt_zip, evTg_n, evTg_t, evTg_ix, evTgs_nil, evTgs_cons, evS_asg, evS_asgT, evS_par, evS_ex, evS_ret, evS_retN, evS_iff, evS_forF, evS_whl, evS_rai, evS_pass, evS_brk, evS_cont, evSs_nil, evSs_cons, evE_compF, ite_ap, join_some, bltn, arg1, arg2, lenB, allB, anyB, intB, absB, minB, maxB, tupB, lstB, dmB, binop, cmpop, ix_tup, ix_lst, ix_scr, slB, truth, itemsOf, rngB, store1_dat, store1_cell, store1_own0, store1_own1, parM, ixSet, mthB, ty_obj, ty_int, ty_bool, ty_str, ty_tuple, ty_list, ty_dict, isObj, isInt, isBl, isStr, isTup, isLst, isDct, write_ap, at_0, at_1, at_2, set_0, set_1, set_2, List.length_cons, List.length_nil, List.replicate, List.append_nil, List.cons_append, List.nil_append, List.getElem?_cons_zero, List.getElem?_cons_succ, List.set_cons_zero, List.set_cons_succ, Nat.sub_self, Nat.reduceAdd, Nat.reduceSub, if_true, if_false, Bool.false_eq_true, Bool.not_true, Bool.not_false, Tg.slots, Tgs.slots, wipe, decide_true, decide_false, Bool.and_true, Bool.true_and, Bool.and_false, Bool.false_and, mulOk_r, mulOk_l, pow15, pow60, Int.reduceLT, Int.reduceNeg, endFn_set, endFn_setO, mulOk_mod, deq_int, din_int, din_lot, deq_lot, deq_bl, permL, List.filterMap_cons, List.filterMap_nil, List.map_cons, List.map_nil, beq_self_eq_true, isTupD, ite_bool, ite_tf, ix_tab0, ix_tab1, tl9, fb__law_right_9, g0, g0', h6, e2, List.length_map, g3, ← List.map_append, e3, g1, g2, rng_upTo b.toNat, lit_run, dark_run, lot_fold, hal, had, hs]
  · simp only [run_ap, bindA_dat, bindA_own0, bindA_cell, bindA_own, bindA_nil, bind_ap, pure_ap, opt_some, guard_true, use_dat, use_own, peek_dat, peek_own, peeks_nil, peeks_cons, flowR_rt, flowR_nx, endFn_dat, endFn_own, evE_k, evE_v, evE_glob, evE_bin, evE_neg, evE_cmp, evE_chain, evE_isN, evE_and, evE_or, evE_not, evE_ite, evE_tup, evE_lst, evE_ix, evE_sl, evE_isI, evE_call, evE_callK, evE_bi, evE_mth, evEs_nil, evEs_cons, evDs_nil, evDs_cons, evPart_nil, evPart_cons, evAnd_nil, evAnd_cons, evOr_nil, evOr_cons, evT_val, evT_and, evT_or, evT_not, evT_cmp, evT_chain, evT_isN, evTAnd_nil, evTAnd_cons, evTOr_nil, evTOr_cons, evIt_seq, evIt_rng, evIt_enum, evIt_zip, evTg_n, evTg_t, evTg_ix, evTgs_nil, evTgs_cons, evS_asg, evS_asgT, evS_par, evS_ex, evS_ret, evS_retN, evS_iff, evS_forF, evS_whl, evS_rai, evS_pass, evS_brk, evS_cont, evSs_nil, evSs_cons, evE_compF, ite_ap, join_some, bltn, arg1, arg2, lenB, allB, anyB, intB, absB, minB, maxB, tupB, lstB, dmB, binop, cmpop, ix_tup, ix_lst, ix_scr, slB, truth, itemsOf, rngB, store1_dat, store1_cell, store1_own0, store1_own1, parM, ixSet, mthB, ty_obj, ty_int, ty_bool, ty_str, ty_tuple, ty_list, ty_dict, isObj, isInt, isBl, isStr, isTup, isLst, isDct, write_ap, at_0, at_1, at_2, set_0, set_1, set_2, List.length_cons, List.length_nil, List.replicate, List.append_nil, List.cons_append, List.nil_append, List.getElem?_cons_zero, List.getElem?_cons_succ, List.set_cons_zero, List.set_cons_succ, Nat.sub_self, Nat.reduceAdd, Nat.reduceSub, if_true, if_false, Bool.false_eq_true, Bool.not_true, Bool.not_false, Tg.slots, Tgs.slots, wipe, decide_true, decide_false, Bool.and_true, Bool.true_and, Bool.and_false, Bool.false_and, mulOk_r, mulOk_l, pow15, pow60, Int.reduceLT, Int.reduceNeg, endFn_set, endFn_setO, mulOk_mod, deq_int, din_int, din_lot, deq_lot, deq_bl, permL, List.filterMap_cons, List.filterMap_nil, List.map_cons, List.map_nil, beq_self_eq_true, isTupD, ite_bool, ite_tf, ix_tab0, ix_tab1, tl9, fb__law_right_9, g0, g0', h6, e2, List.length_map, g3, ← List.map_append, e3, g1, g2, rng_upTo b.toNat, lit_run, dark_run, lot_fold, hal, had, hs, hi]
end K04
set_option maxHeartbeats 4000000
namespace K04
open PySem DB
theorem fb9 : fb__law_right_9 = .cons (.asg false 2 (.call F__law_table 4 (.cons (.v 0) (.cons (.k (.int 12)) (.cons (.k (.int 16)) .nil)))))
  (.cons (.iff (.cmp .eq (.bin .mod (.bi .int (.cons (.v 1) .nil)) (.k (.int 4))) (.k (.int 3))) (.cons (.asg false 3 (.bi .tuple (.cons (.comp (tg__law_right_1) (.seq (.ix (.v 2) (.k (.int 1)))) (cd__law_right_1) (el__law_right_1)) .nil)))
  (.cons (.asg false 2 (.ite (.cmp .lt (.ix (.v 2) (.k (.int 0))) (.k (.int 11))) (.tup (.cons (.bi .min (.cons (.k (.int 12)) (.cons (.bin .add (.ix (.v 2) (.k (.int 0))) (.k (.int 2))) .nil))) (.cons (.v 3) .nil))) (.v 2)))
  .nil)) .nil) tl9) := rfl
theorem turn (c : Nat) (i : Int) (p : List D) (s : Sto) (hp : PoolOk p) (hc : s[c]? = some ⟨.lst p, true⟩) (r1 r2 r3 r4 r5 r6 r7 r8 r9 r10 r11 : Option R) : ∃ p' r2' r3' r4' r7' r9' r10' r11', PoolOk p' ∧
    forF ft__law_right_9 fb__law_right_9 (.int i) [some (.cell c), r1, r2, r3, r4, r5, r6, r7, r8, r9, r10, r11] s = .ok (.nx [some (.cell c), some (.dat (.int i)), r2', r3', r4', r5, r6, r7', r8, r9', r10', r11']) (s.set c ⟨.lst p', true⟩) := by
  obtain ⟨b, ls, p1, h, hp1, e1⟩ := table c p 12 16 s hp (by decide) (by decide) (by decide) (by decide) hc
  have hc1 : (s.set c ⟨.lst p1, true⟩)[c]? = some ⟨.lst p1, true⟩ := get_set hc
  have e1 : runFn F__law_table [.cell c, .dat (.int 12), .dat (.int 16)] s = .ok (.dat (tabD b ls)) (s.set c ⟨.lst p1, true⟩) := e1
  by_cases h3 : i % 4 = 3
  · by_cases hb : b < 11
    · have h' := shift_tb h hb
      have hm : (if b + 2 < 12 then b + 2 else 12) = b + 2 := by split <;> omega
      obtain ⟨p2, r4', r7', r9', r10', r11', hp2, e2⟩ := tail9 c i (b + 2) (ls.map shiftL) h' p1 (s.set c ⟨.lst p1, true⟩) hp1 hc1 (some (.dat (.tup ((ls.map shiftL).map lotD)))) r4 r5 r6 r7 r8 r9 r10 r11
      rw [List.set_set] at e2
      refine ⟨p2, some (.dat (tabD (b + 2) (ls.map shiftL))), some (.dat (.tup ((ls.map shiftL).map lotD))), r4', r7', r9', r10', r11', hp2, ?_⟩
      simp only [run_ap, bindA_dat, bindA_own0, bindA_cell, bindA_own, bindA_nil, bind_ap, pure_ap, opt_some, guard_true, use_dat, use_own, peek_dat, peek_own, peeks_nil, peeks_cons, flowR_rt, flowR_nx, endFn_dat, endFn_own, evE_k, evE_v, evE_glob, evE_bin, evE_neg, evE_cmp, evE_chain, evE_isN, evE_and, evE_or, evE_not, evE_ite, evE_tup, evE_lst, evE_ix, evE_sl, evE_isI, evE_call, evE_callK, evE_bi, evE_mth, evEs_nil, evEs_cons, evDs_nil, evDs_cons, evPart_nil, evPart_cons, evAnd_nil, evAnd_cons, evOr_nil, evOr_cons, evT_val, evT_and, evT_or, evT_not, evT_cmp, evT_chain, evT_isN, evTAnd_nil, evTAnd_cons, evTOr_nil, evTOr_cons, evIt_seq, evIt_rng, evIt_enum, evIt_zip, evTg_n, evTg_t, evTg_ix, evTgs_nil, evTgs_cons, evS_asg, evS_asgT, evS_par, evS_ex, evS_ret, evS_retN, evS_iff, evS_forF, evS_whl, evS_rai, evS_pass, evS_brk, evS_cont, evSs_nil, evSs_cons, evE_compF, ite_ap, join_some, bltn, arg1, arg2, lenB, allB, anyB, intB, absB, minB, maxB, tupB, lstB, dmB, binop, cmpop, ix_tup, ix_lst, ix_scr, slB, truth, itemsOf, rngB, store1_dat, store1_cell, store1_own0, store1_own1, parM, ixSet, mthB, ty_obj, ty_int, ty_bool, ty_str, ty_tuple, ty_list, ty_dict, isObj, isInt, isBl, isStr, isTup, isLst, isDct, write_ap, at_0, at_1, at_2, set_0, set_1, set_2, List.length_cons, List.length_nil, List.replicate, List.append_nil, List.cons_append, List.nil_append, List.getElem?_cons_zero, List.getElem?_cons_succ, List.set_cons_zero, List.set_cons_succ, Nat.sub_self, Nat.reduceAdd, Nat.reduceSub, if_true, if_false, Bool.false_eq_true, Bool.not_true, Bool.not_false, Tg.slots, Tgs.slots, wipe, decide_true, decide_false, Bool.and_true, Bool.true_and, Bool.and_false, Bool.false_and, mulOk_r, mulOk_l, pow15, pow60, Int.reduceLT, Int.reduceNeg, endFn_set, endFn_setO, mulOk_mod, deq_int, din_int, din_lot, deq_lot, deq_bl, permL, List.filterMap_cons, List.filterMap_nil, List.map_cons, List.map_nil, beq_self_eq_true, isTupD, ite_bool, ite_tf, ix_tab0, ix_tab1, forF_ap, ft__law_right_9, fb9, e1, h3, low_run' b ls h, hb, hm, tab_fold, e2]
    · obtain ⟨p2, r4', r7', r9', r10', r11', hp2, e2⟩ := tail9 c i b ls h p1 (s.set c ⟨.lst p1, true⟩) hp1 hc1 (some (.dat (.tup ((ls.map shiftL).map lotD)))) r4 r5 r6 r7 r8 r9 r10 r11
      rw [List.set_set] at e2
      refine ⟨p2, some (.dat (tabD b ls)), some (.dat (.tup ((ls.map shiftL).map lotD))), r4', r7', r9', r10', r11', hp2, ?_⟩
      simp only [run_ap, bindA_dat, bindA_own0, bindA_cell, bindA_own, bindA_nil, bind_ap, pure_ap, opt_some, guard_true, use_dat, use_own, peek_dat, peek_own, peeks_nil, peeks_cons, flowR_rt, flowR_nx, endFn_dat, endFn_own, evE_k, evE_v, evE_glob, evE_bin, evE_neg, evE_cmp, evE_chain, evE_isN, evE_and, evE_or, evE_not, evE_ite, evE_tup, evE_lst, evE_ix, evE_sl, evE_isI, evE_call, evE_callK, evE_bi, evE_mth, evEs_nil, evEs_cons, evDs_nil, evDs_cons, evPart_nil, evPart_cons, evAnd_nil, evAnd_cons, evOr_nil, evOr_cons, evT_val, evT_and, evT_or, evT_not, evT_cmp, evT_chain, evT_isN, evTAnd_nil, evTAnd_cons, evTOr_nil, evTOr_cons, evIt_seq, evIt_rng, evIt_enum, evIt_zip, evTg_n, evTg_t, evTg_ix, evTgs_nil, evTgs_cons, evS_asg, evS_asgT, evS_par, evS_ex, evS_ret, evS_retN, evS_iff, evS_forF, evS_whl, evS_rai, evS_pass, evS_brk, evS_cont, evSs_nil, evSs_cons, evE_compF, ite_ap, join_some, bltn, arg1, arg2, lenB, allB, anyB, intB, absB, minB, maxB, tupB, lstB, dmB, binop, cmpop, ix_tup, ix_lst, ix_scr, slB, truth, itemsOf, rngB, store1_dat, store1_cell, store1_own0, store1_own1, parM, ixSet, mthB, ty_obj, ty_int, ty_bool, ty_str, ty_tuple, ty_list, ty_dict, isObj, isInt, isBl, isStr, isTup, isLst, isDct, write_ap, at_0, at_1, at_2, set_0, set_1, set_2, List.length_cons, List.length_nil, List.replicate, List.append_nil, List.cons_append, List.nil_append, List.getElem?_cons_zero, List.getElem?_cons_succ, List.set_cons_zero, List.set_cons_succ, Nat.sub_self, Nat.reduceAdd, Nat.reduceSub, if_true, if_false, Bool.false_eq_true, Bool.not_true, Bool.not_false, Tg.slots, Tgs.slots, wipe, decide_true, decide_false, Bool.and_true, Bool.true_and, Bool.and_false, Bool.false_and, mulOk_r, mulOk_l, pow15, pow60, Int.reduceLT, Int.reduceNeg, endFn_set, endFn_setO, mulOk_mod, deq_int, din_int, din_lot, deq_lot, deq_bl, permL, List.filterMap_cons, List.filterMap_nil, List.map_cons, List.map_nil, beq_self_eq_true, isTupD, ite_bool, ite_tf, ix_tab0, ix_tab1, forF_ap, ft__law_right_9, fb9, e1, h3, low_run' b ls h, hb, e2]
  · obtain ⟨p2, r4', r7', r9', r10', r11', hp2, e2⟩ := tail9 c i b ls h p1 (s.set c ⟨.lst p1, true⟩) hp1 hc1 r3 r4 r5 r6 r7 r8 r9 r10 r11
    rw [List.set_set] at e2
    refine ⟨p2, some (.dat (tabD b ls)), r3, r4', r7', r9', r10', r11', hp2, ?_⟩
    simp only [run_ap, bindA_dat, bindA_own0, bindA_cell, bindA_own, bindA_nil, bind_ap, pure_ap, opt_some, guard_true, use_dat, use_own, peek_dat, peek_own, peeks_nil, peeks_cons, flowR_rt, flowR_nx, endFn_dat, endFn_own, evE_k, evE_v, evE_glob, evE_bin, evE_neg, evE_cmp, evE_chain, evE_isN, evE_and, evE_or, evE_not, evE_ite, evE_tup, evE_lst, evE_ix, evE_sl, evE_isI, evE_call, evE_callK, evE_bi, evE_mth, evEs_nil, evEs_cons, evDs_nil, evDs_cons, evPart_nil, evPart_cons, evAnd_nil, evAnd_cons, evOr_nil, evOr_cons, evT_val, evT_and, evT_or, evT_not, evT_cmp, evT_chain, evT_isN, evTAnd_nil, evTAnd_cons, evTOr_nil, evTOr_cons, evIt_seq, evIt_rng, evIt_enum, evIt_zip, evTg_n, evTg_t, evTg_ix, evTgs_nil, evTgs_cons, evS_asg, evS_asgT, evS_par, evS_ex, evS_ret, evS_retN, evS_iff, evS_forF, evS_whl, evS_rai, evS_pass, evS_brk, evS_cont, evSs_nil, evSs_cons, evE_compF, ite_ap, join_some, bltn, arg1, arg2, lenB, allB, anyB, intB, absB, minB, maxB, tupB, lstB, dmB, binop, cmpop, ix_tup, ix_lst, ix_scr, slB, truth, itemsOf, rngB, store1_dat, store1_cell, store1_own0, store1_own1, parM, ixSet, mthB, ty_obj, ty_int, ty_bool, ty_str, ty_tuple, ty_list, ty_dict, isObj, isInt, isBl, isStr, isTup, isLst, isDct, write_ap, at_0, at_1, at_2, set_0, set_1, set_2, List.length_cons, List.length_nil, List.replicate, List.append_nil, List.cons_append, List.nil_append, List.getElem?_cons_zero, List.getElem?_cons_succ, List.set_cons_zero, List.set_cons_succ, Nat.sub_self, Nat.reduceAdd, Nat.reduceSub, if_true, if_false, Bool.false_eq_true, Bool.not_true, Bool.not_false, Tg.slots, Tgs.slots, wipe, decide_true, decide_false, Bool.and_true, Bool.true_and, Bool.and_false, Bool.false_and, mulOk_r, mulOk_l, pow15, pow60, Int.reduceLT, Int.reduceNeg, endFn_set, endFn_setO, mulOk_mod, deq_int, din_int, din_lot, deq_lot, deq_bl, permL, List.filterMap_cons, List.filterMap_nil, List.map_cons, List.map_nil, beq_self_eq_true, isTupD, ite_bool, ite_tf, ix_tab0, ix_tab1, forF_ap, ft__law_right_9, fb9, e1, h3, e2]
theorem turns (c : Nat) (n : Nat) : ∀ (lo : Int) (p : List D) (s : Sto) (r1 r2 r3 r4 r5 r6 r7 r8 r9 r10 r11 : Option R), PoolOk p → s[c]? = some ⟨.lst p, true⟩ → ∃ p' env', PoolOk p' ∧
    forM (forF ft__law_right_9 fb__law_right_9) (rngD lo n) [some (.cell c), r1, r2, r3, r4, r5, r6, r7, r8, r9, r10, r11] s = .ok (.nx env') (s.set c ⟨.lst p', true⟩) := by
  induction n with
  | zero =>
    intro lo p s r1 r2 r3 r4 r5 r6 r7 r8 r9 r10 r11 hp hc
    exact ⟨p, _, hp, by rw [set_same hc]; rfl⟩
  | succ n ih =>
    intro lo p s r1 r2 r3 r4 r5 r6 r7 r8 r9 r10 r11 hp hc
    obtain ⟨p1, r2', r3', r4', r7', r9', r10', r11', hp1, e1⟩ := turn c lo p s hp hc r1 r2 r3 r4 r5 r6 r7 r8 r9 r10 r11
    obtain ⟨p2, env', hp2, e2⟩ := ih (lo + 1) p1 (s.set c ⟨.lst p1, true⟩) (some (.dat (.int lo))) r2' r3' r4' r5 r6 r7' r8 r9' r10' r11' hp1 (get_set hc)
    rw [List.set_set] at e2
    refine ⟨p2, env', hp2, ?_⟩
    rw [rngD_succ, forM_step]
    simp only [bind_ap, e1, e2]
theorem tb3 : Tb 12 16 3 [[], [0, 1], [1, 2]] := ⟨by decide, by decide, by decide, by decide, by decide, by
  intro l hl
  simp only [List.mem_cons, List.not_mem_nil, or_false] at hl
  rcases hl with rfl | rfl | rfl <;> exact ⟨by decide, by decide⟩⟩
theorem tb2 : Tb 12 16 2 [[], [1]] := ⟨by decide, by decide, by decide, by decide, by decide, by
  intro l hl
  simp only [List.mem_cons, List.not_mem_nil, or_false] at hl
  rcases hl with rfl | rfl <;> exact ⟨by decide, by decide⟩⟩
theorem right (p : List D) (st : Sto) (hp : PoolOk p) : runFn F__law_right [.own (.lst p)] st = .ok (.dat (.bl true)) st := by
  have hc : (st ++ [(⟨.lst p, true⟩ : Cel)])[st.length]? = some ⟨.lst p, true⟩ := by rw [List.getElem?_append_right (Nat.le_refl _), Nat.sub_self]; rfl
  obtain ⟨p', env', hp', e⟩ := turns st.length 20 0 p (st ++ [(⟨.lst p, true⟩ : Cel)]) none none none none none none none none none none none hp hc
  have g0 : (-(2 ^ 62) : Int) ≤ 20 := by decide
  have g1 : (20 : Int) ≤ 1000000 := by decide
  have h20 : (20 : Int).toNat = 20 := rfl
  have d1 := digit_of 3 [[], [0, 1], [1, 2]] [0] tb3 ⟨by decide, by decide⟩
  have d2 := always_dark 2 [[], [1]] tb2
  have q1 : firstD (occ [[], [0, 1], [1, 2]] [0]) = .non := by kernel_rfl
  have q2 : darkL 2 [[], [1]] = [0] := by decide +kernel
  rw [q1] at d1
  rw [q2] at d2
  have hs := fun s => same 12 (.tup [.non, .tup [.int 0]]) s (by decide +kernel)
  simp only [tabD, lotD, List.map_cons, List.map_nil] at d1 d2
  simp only [run_ap, bindA_dat, bindA_own0, bindA_cell, bindA_own, bindA_nil, bind_ap, pure_ap, opt_some, guard_true, use_dat, use_own, peek_dat, peek_own, peeks_nil, peeks_cons, flowR_rt, flowR_nx, endFn_dat, endFn_own, evE_k, evE_v, evE_glob, evE_bin, evE_neg, evE_cmp, evE_chain, evE_isN, evE_and, evE_or, evE_not, evE_ite, evE_tup, evE_lst, evE_ix, evE_sl, evE_isI, evE_call, evE_callK, evE_bi, evE_mth, evEs_nil, evEs_cons, evDs_nil, evDs_cons, evPart_nil, evPart_cons, evAnd_nil, evAnd_cons, evOr_nil, evOr_cons, evT_val, evT_and, evT_or, evT_not, evT_cmp, evT_chain, evT_isN, evTAnd_nil, evTAnd_cons, evTOr_nil, evTOr_cons, evIt_seq, evIt_rng, evIt_enum, evIt_zip, evTg_n, evTg_t, evTg_ix, evTgs_nil, evTgs_cons, evS_asg, evS_asgT, evS_par, evS_ex, evS_ret, evS_retN, evS_iff, evS_forF, evS_whl, evS_rai, evS_pass, evS_brk, evS_cont, evSs_nil, evSs_cons, evE_compF, ite_ap, join_some, bltn, arg1, arg2, lenB, allB, anyB, intB, absB, minB, maxB, tupB, lstB, dmB, binop, cmpop, ix_tup, ix_lst, ix_scr, slB, truth, itemsOf, rngB, store1_dat, store1_cell, store1_own0, store1_own1, parM, ixSet, mthB, ty_obj, ty_int, ty_bool, ty_str, ty_tuple, ty_list, ty_dict, isObj, isInt, isBl, isStr, isTup, isLst, isDct, write_ap, at_0, at_1, at_2, set_0, set_1, set_2, List.length_cons, List.length_nil, List.replicate, List.append_nil, List.cons_append, List.nil_append, List.getElem?_cons_zero, List.getElem?_cons_succ, List.set_cons_zero, List.set_cons_succ, Nat.sub_self, Nat.reduceAdd, Nat.reduceSub, if_true, if_false, Bool.false_eq_true, Bool.not_true, Bool.not_false, Tg.slots, Tgs.slots, wipe, decide_true, decide_false, Bool.and_true, Bool.true_and, Bool.and_false, Bool.false_and, mulOk_r, mulOk_l, pow15, pow60, Int.reduceLT, Int.reduceNeg, endFn_set, endFn_setO, mulOk_mod, deq_int, din_int, din_lot, deq_lot, deq_bl, permL, List.filterMap_cons, List.filterMap_nil, List.map_cons, List.map_nil, beq_self_eq_true, isTupD, ite_bool, ite_tf, ix_tab0, ix_tab1, F__law_right, B__law_right, g0, g1, h20, e, d1, d2, hs, endFn_dat']
  congr 1
  apply List.ext_getElem?
  intro k
  by_cases hk : k < st.length
  · rw [List.getElem?_take_of_lt hk, get_ne (by omega), List.getElem?_append_left hk]
  · rw [List.getElem?_eq_none (by rw [List.length_take]; omega), List.getElem?_eq_none (by omega)]
theorem pool_run (r0 r1 r2 : Option R) (s : Sto) (ns : List Int) : ∀ (x : Int) (r4 : Option R), ∃ (x' : Int) (r4' : Option R),
    forM (forF ft__law_pool_0 fb__law_pool_0) (ns.map D.int) [r0, r1, r2, some (.dat (.int x)), r4] s = .ok (.nx [r0, r1, r2, some (.dat (.int x')), r4']) s := by
  induction ns with
  | nil => intro x r4; exact ⟨x, r4, rfl⟩
  | cons n ns ih =>
    intro x r4
    have hb : ∃ y, forF ft__law_pool_0 fb__law_pool_0 (.int n) [r0, r1, r2, some (.dat (.int x)), r4] s = .ok (.nx [r0, r1, r2, some (.dat (.int y)), some (.dat (.int n))]) s := by
      simp only [run_ap, bindA_dat, bindA_own0, bindA_cell, bindA_own, bindA_nil, bind_ap, pure_ap, opt_some, guard_true, use_dat, use_own, peek_dat, peek_own, peeks_nil, peeks_cons, flowR_rt, flowR_nx, endFn_dat, endFn_own, evE_k, evE_v, evE_glob, evE_bin, evE_neg, evE_cmp, evE_chain, evE_isN, evE_and, evE_or, evE_not, evE_ite, evE_tup, evE_lst, evE_ix, evE_sl, evE_isI, evE_call, evE_callK, evE_bi, evE_mth, evEs_nil, evEs_cons, evDs_nil, evDs_cons, evPart_nil, evPart_cons, evAnd_nil, evAnd_cons, evOr_nil, evOr_cons, evT_val, evT_and, evT_or, evT_not, evT_cmp, evT_chain, evT_isN, evTAnd_nil, evTAnd_cons, evTOr_nil, evTOr_cons, evIt_seq, evIt_rng, evIt_enum, evIt_zip, evTg_n, evTg_t, evTg_ix, evTgs_nil, evTgs_cons, evS_asg, evS_asgT, evS_par, evS_ex, evS_ret, evS_retN, evS_iff, evS_forF, evS_whl, evS_rai, evS_pass, evS_brk, evS_cont, evSs_nil, evSs_cons, evE_compF, ite_ap, join_some, bltn, arg1, arg2, lenB, allB, anyB, intB, absB, minB, maxB, tupB, lstB, dmB, binop, cmpop, ix_tup, ix_lst, ix_scr, slB, truth, itemsOf, rngB, store1_dat, store1_cell, store1_own0, store1_own1, parM, ixSet, mthB, ty_obj, ty_int, ty_bool, ty_str, ty_tuple, ty_list, ty_dict, isObj, isInt, isBl, isStr, isTup, isLst, isDct, write_ap, at_0, at_1, at_2, set_0, set_1, set_2, List.length_cons, List.length_nil, List.replicate, List.append_nil, List.cons_append, List.nil_append, List.getElem?_cons_zero, List.getElem?_cons_succ, List.set_cons_zero, List.set_cons_succ, Nat.sub_self, Nat.reduceAdd, Nat.reduceSub, if_true, if_false, Bool.false_eq_true, Bool.not_true, Bool.not_false, Tg.slots, Tgs.slots, wipe, decide_true, decide_false, Bool.and_true, Bool.true_and, Bool.and_false, Bool.false_and, mulOk_r, mulOk_l, pow15, pow60, Int.reduceLT, Int.reduceNeg, endFn_set, endFn_setO, mulOk_mod, deq_int, din_int, din_lot, deq_lot, deq_bl, permL, List.filterMap_cons, List.filterMap_nil, List.map_cons, List.map_nil, beq_self_eq_true, isTupD, ite_bool, ite_tf, ix_tab0, ix_tab1, forF_ap, ft__law_pool_0, fb__law_pool_0]
      exact ⟨_, rfl⟩
    obtain ⟨y, hb⟩ := hb
    obtain ⟨x', r4', e⟩ := ih y (some (.dat (.int n)))
    refine ⟨x', r4', ?_⟩
    rw [List.map_cons, forM_step]
    simp only [bind_ap, hb, e]
theorem pool (ns : List Int) (lap : Int) (h0 : 0 ≤ lap) (st : Sto) : ∃ p, PoolOk p ∧ runFn F__law_pool [.dat (.scr (ns.map D.int)), .dat (.int lap)] st = .ok (.own (.lst p)) st := by
  have hcut : cut (ns.map D.int) none (some 12) = (ns.take 12).map D.int := by
    rw [show (some (12 : Int)) = some ((12 : Nat) : Int) from rfl, cut_to, List.map_take]
  have key : ∀ (x : Int) (x' : Int) (r4' : Option R), forM (forF ft__law_pool_0 fb__law_pool_0) ((ns.take 12).map D.int) [some (.dat (.scr (ns.map D.int))), some (.dat (.int lap)), some (.dat (.int x)), some (.dat (.int (89939 + 6823 * lap))), none] st = .ok (.nx [some (.dat (.scr (ns.map D.int))), some (.dat (.int lap)), some (.dat (.int x)), some (.dat (.int x')), r4']) st →
      (if lap < (ns.length : Int) then at? (ns.map D.int) lap = some (.int x) else 4491 * lap + 859 = x) → ∃ p, PoolOk p ∧ runFn F__law_pool [.dat (.scr (ns.map D.int)), .dat (.int lap)] st = .ok (.own (.lst p)) st := by
    intro x x' r4' e hx
    have fin : ∃ v : Int, (0 ≤ v ∧ v < 10 ^ 60) ∧ ∃ q : Int, runFn F__law_pool [.dat (.scr (ns.map D.int)), .dat (.int lap)] st = .ok (.own (.lst [.int v, .int q, .int 0])) st := by
      by_cases hl : lap < (ns.length : Int)
      · rw [if_pos hl] at hx
        by_cases h1 : x < 0
        · refine ⟨(-x) % 10 ^ 60, ⟨Int.emod_nonneg _ (by decide), Int.emod_lt_of_pos _ (by decide)⟩, ?_⟩
          simp only [run_ap, bindA_dat, bindA_own0, bindA_cell, bindA_own, bindA_nil, bind_ap, pure_ap, opt_some, guard_true, use_dat, use_own, peek_dat, peek_own, peeks_nil, peeks_cons, flowR_rt, flowR_nx, endFn_dat, endFn_own, evE_k, evE_v, evE_glob, evE_bin, evE_neg, evE_cmp, evE_chain, evE_isN, evE_and, evE_or, evE_not, evE_ite, evE_tup, evE_lst, evE_ix, evE_sl, evE_isI, evE_call, evE_callK, evE_bi, evE_mth, evEs_nil, evEs_cons, evDs_nil, evDs_cons, evPart_nil, evPart_cons, evAnd_nil, evAnd_cons, evOr_nil, evOr_cons, evT_val, evT_and, evT_or, evT_not, evT_cmp, evT_chain, evT_isN, evTAnd_nil, evTAnd_cons, evTOr_nil, evTOr_cons, evIt_seq, evIt_rng, evIt_enum, evIt_zip, evTg_n, evTg_t, evTg_ix, evTgs_nil, evTgs_cons, evS_asg, evS_asgT, evS_par, evS_ex, evS_ret, evS_retN, evS_iff, evS_forF, evS_whl, evS_rai, evS_pass, evS_brk, evS_cont, evSs_nil, evSs_cons, evE_compF, ite_ap, join_some, bltn, arg1, arg2, lenB, allB, anyB, intB, absB, minB, maxB, tupB, lstB, dmB, binop, cmpop, ix_tup, ix_lst, ix_scr, slB, truth, itemsOf, rngB, store1_dat, store1_cell, store1_own0, store1_own1, parM, ixSet, mthB, ty_obj, ty_int, ty_bool, ty_str, ty_tuple, ty_list, ty_dict, isObj, isInt, isBl, isStr, isTup, isLst, isDct, write_ap, at_0, at_1, at_2, set_0, set_1, set_2, List.length_cons, List.length_nil, List.replicate, List.append_nil, List.cons_append, List.nil_append, List.getElem?_cons_zero, List.getElem?_cons_succ, List.set_cons_zero, List.set_cons_succ, Nat.sub_self, Nat.reduceAdd, Nat.reduceSub, if_true, if_false, Bool.false_eq_true, Bool.not_true, Bool.not_false, Tg.slots, Tgs.slots, wipe, decide_true, decide_false, Bool.and_true, Bool.true_and, Bool.and_false, Bool.false_and, mulOk_r, mulOk_l, pow15, pow60, Int.reduceLT, Int.reduceNeg, endFn_set, endFn_setO, mulOk_mod, deq_int, din_int, din_lot, deq_lot, deq_bl, permL, List.filterMap_cons, List.filterMap_nil, List.map_cons, List.map_nil, beq_self_eq_true, isTupD, ite_bool, ite_tf, ix_tab0, ix_tab1, F__law_pool, B__law_pool, List.length_map, hl, hx, hcut, e, h1, Int.reduceToNat, Int.reducePow]
          exact ⟨_, rfl⟩
        · by_cases h2 : 1000000000000000 ≤ x
          · refine ⟨x % 10 ^ 60, ⟨Int.emod_nonneg _ (by decide), Int.emod_lt_of_pos _ (by decide)⟩, ?_⟩
            simp only [run_ap, bindA_dat, bindA_own0, bindA_cell, bindA_own, bindA_nil, bind_ap, pure_ap, opt_some, guard_true, use_dat, use_own, peek_dat, peek_own, peeks_nil, peeks_cons, flowR_rt, flowR_nx, endFn_dat, endFn_own, evE_k, evE_v, evE_glob, evE_bin, evE_neg, evE_cmp, evE_chain, evE_isN, evE_and, evE_or, evE_not, evE_ite, evE_tup, evE_lst, evE_ix, evE_sl, evE_isI, evE_call, evE_callK, evE_bi, evE_mth, evEs_nil, evEs_cons, evDs_nil, evDs_cons, evPart_nil, evPart_cons, evAnd_nil, evAnd_cons, evOr_nil, evOr_cons, evT_val, evT_and, evT_or, evT_not, evT_cmp, evT_chain, evT_isN, evTAnd_nil, evTAnd_cons, evTOr_nil, evTOr_cons, evIt_seq, evIt_rng, evIt_enum, evIt_zip, evTg_n, evTg_t, evTg_ix, evTgs_nil, evTgs_cons, evS_asg, evS_asgT, evS_par, evS_ex, evS_ret, evS_retN, evS_iff, evS_forF, evS_whl, evS_rai, evS_pass, evS_brk, evS_cont, evSs_nil, evSs_cons, evE_compF, ite_ap, join_some, bltn, arg1, arg2, lenB, allB, anyB, intB, absB, minB, maxB, tupB, lstB, dmB, binop, cmpop, ix_tup, ix_lst, ix_scr, slB, truth, itemsOf, rngB, store1_dat, store1_cell, store1_own0, store1_own1, parM, ixSet, mthB, ty_obj, ty_int, ty_bool, ty_str, ty_tuple, ty_list, ty_dict, isObj, isInt, isBl, isStr, isTup, isLst, isDct, write_ap, at_0, at_1, at_2, set_0, set_1, set_2, List.length_cons, List.length_nil, List.replicate, List.append_nil, List.cons_append, List.nil_append, List.getElem?_cons_zero, List.getElem?_cons_succ, List.set_cons_zero, List.set_cons_succ, Nat.sub_self, Nat.reduceAdd, Nat.reduceSub, if_true, if_false, Bool.false_eq_true, Bool.not_true, Bool.not_false, Tg.slots, Tgs.slots, wipe, decide_true, decide_false, Bool.and_true, Bool.true_and, Bool.and_false, Bool.false_and, mulOk_r, mulOk_l, pow15, pow60, Int.reduceLT, Int.reduceNeg, endFn_set, endFn_setO, mulOk_mod, deq_int, din_int, din_lot, deq_lot, deq_bl, permL, List.filterMap_cons, List.filterMap_nil, List.map_cons, List.map_nil, beq_self_eq_true, isTupD, ite_bool, ite_tf, ix_tab0, ix_tab1, F__law_pool, B__law_pool, List.length_map, hl, hx, hcut, e, h1, h2, Int.reduceToNat, Int.reducePow]
            exact ⟨_, rfl⟩
          · refine ⟨0, ⟨by decide, by decide⟩, ?_⟩
            simp only [run_ap, bindA_dat, bindA_own0, bindA_cell, bindA_own, bindA_nil, bind_ap, pure_ap, opt_some, guard_true, use_dat, use_own, peek_dat, peek_own, peeks_nil, peeks_cons, flowR_rt, flowR_nx, endFn_dat, endFn_own, evE_k, evE_v, evE_glob, evE_bin, evE_neg, evE_cmp, evE_chain, evE_isN, evE_and, evE_or, evE_not, evE_ite, evE_tup, evE_lst, evE_ix, evE_sl, evE_isI, evE_call, evE_callK, evE_bi, evE_mth, evEs_nil, evEs_cons, evDs_nil, evDs_cons, evPart_nil, evPart_cons, evAnd_nil, evAnd_cons, evOr_nil, evOr_cons, evT_val, evT_and, evT_or, evT_not, evT_cmp, evT_chain, evT_isN, evTAnd_nil, evTAnd_cons, evTOr_nil, evTOr_cons, evIt_seq, evIt_rng, evIt_enum, evIt_zip, evTg_n, evTg_t, evTg_ix, evTgs_nil, evTgs_cons, evS_asg, evS_asgT, evS_par, evS_ex, evS_ret, evS_retN, evS_iff, evS_forF, evS_whl, evS_rai, evS_pass, evS_brk, evS_cont, evSs_nil, evSs_cons, evE_compF, ite_ap, join_some, bltn, arg1, arg2, lenB, allB, anyB, intB, absB, minB, maxB, tupB, lstB, dmB, binop, cmpop, ix_tup, ix_lst, ix_scr, slB, truth, itemsOf, rngB, store1_dat, store1_cell, store1_own0, store1_own1, parM, ixSet, mthB, ty_obj, ty_int, ty_bool, ty_str, ty_tuple, ty_list, ty_dict, isObj, isInt, isBl, isStr, isTup, isLst, isDct, write_ap, at_0, at_1, at_2, set_0, set_1, set_2, List.length_cons, List.length_nil, List.replicate, List.append_nil, List.cons_append, List.nil_append, List.getElem?_cons_zero, List.getElem?_cons_succ, List.set_cons_zero, List.set_cons_succ, Nat.sub_self, Nat.reduceAdd, Nat.reduceSub, if_true, if_false, Bool.false_eq_true, Bool.not_true, Bool.not_false, Tg.slots, Tgs.slots, wipe, decide_true, decide_false, Bool.and_true, Bool.true_and, Bool.and_false, Bool.false_and, mulOk_r, mulOk_l, pow15, pow60, Int.reduceLT, Int.reduceNeg, endFn_set, endFn_setO, mulOk_mod, deq_int, din_int, din_lot, deq_lot, deq_bl, permL, List.filterMap_cons, List.filterMap_nil, List.map_cons, List.map_nil, beq_self_eq_true, isTupD, ite_bool, ite_tf, ix_tab0, ix_tab1, F__law_pool, B__law_pool, List.length_map, hl, hx, hcut, e, h1, h2, Int.reduceToNat, Int.reducePow]
            exact ⟨_, rfl⟩
      · rw [if_neg hl] at hx
        by_cases h1 : x < 0
        · refine ⟨(-x) % 10 ^ 60, ⟨Int.emod_nonneg _ (by decide), Int.emod_lt_of_pos _ (by decide)⟩, ?_⟩
          simp only [run_ap, bindA_dat, bindA_own0, bindA_cell, bindA_own, bindA_nil, bind_ap, pure_ap, opt_some, guard_true, use_dat, use_own, peek_dat, peek_own, peeks_nil, peeks_cons, flowR_rt, flowR_nx, endFn_dat, endFn_own, evE_k, evE_v, evE_glob, evE_bin, evE_neg, evE_cmp, evE_chain, evE_isN, evE_and, evE_or, evE_not, evE_ite, evE_tup, evE_lst, evE_ix, evE_sl, evE_isI, evE_call, evE_callK, evE_bi, evE_mth, evEs_nil, evEs_cons, evDs_nil, evDs_cons, evPart_nil, evPart_cons, evAnd_nil, evAnd_cons, evOr_nil, evOr_cons, evT_val, evT_and, evT_or, evT_not, evT_cmp, evT_chain, evT_isN, evTAnd_nil, evTAnd_cons, evTOr_nil, evTOr_cons, evIt_seq, evIt_rng, evIt_enum, evIt_zip, evTg_n, evTg_t, evTg_ix, evTgs_nil, evTgs_cons, evS_asg, evS_asgT, evS_par, evS_ex, evS_ret, evS_retN, evS_iff, evS_forF, evS_whl, evS_rai, evS_pass, evS_brk, evS_cont, evSs_nil, evSs_cons, evE_compF, ite_ap, join_some, bltn, arg1, arg2, lenB, allB, anyB, intB, absB, minB, maxB, tupB, lstB, dmB, binop, cmpop, ix_tup, ix_lst, ix_scr, slB, truth, itemsOf, rngB, store1_dat, store1_cell, store1_own0, store1_own1, parM, ixSet, mthB, ty_obj, ty_int, ty_bool, ty_str, ty_tuple, ty_list, ty_dict, isObj, isInt, isBl, isStr, isTup, isLst, isDct, write_ap, at_0, at_1, at_2, set_0, set_1, set_2, List.length_cons, List.length_nil, List.replicate, List.append_nil, List.cons_append, List.nil_append, List.getElem?_cons_zero, List.getElem?_cons_succ, List.set_cons_zero, List.set_cons_succ, Nat.sub_self, Nat.reduceAdd, Nat.reduceSub, if_true, if_false, Bool.false_eq_true, Bool.not_true, Bool.not_false, Tg.slots, Tgs.slots, wipe, decide_true, decide_false, Bool.and_true, Bool.true_and, Bool.and_false, Bool.false_and, mulOk_r, mulOk_l, pow15, pow60, Int.reduceLT, Int.reduceNeg, endFn_set, endFn_setO, mulOk_mod, deq_int, din_int, din_lot, deq_lot, deq_bl, permL, List.filterMap_cons, List.filterMap_nil, List.map_cons, List.map_nil, beq_self_eq_true, isTupD, ite_bool, ite_tf, ix_tab0, ix_tab1, F__law_pool, B__law_pool, List.length_map, hl, hx, hcut, e, h1, Int.reduceToNat, Int.reducePow]
          exact ⟨_, rfl⟩
        · by_cases h2 : 1000000000000000 ≤ x
          · refine ⟨x % 10 ^ 60, ⟨Int.emod_nonneg _ (by decide), Int.emod_lt_of_pos _ (by decide)⟩, ?_⟩
            simp only [run_ap, bindA_dat, bindA_own0, bindA_cell, bindA_own, bindA_nil, bind_ap, pure_ap, opt_some, guard_true, use_dat, use_own, peek_dat, peek_own, peeks_nil, peeks_cons, flowR_rt, flowR_nx, endFn_dat, endFn_own, evE_k, evE_v, evE_glob, evE_bin, evE_neg, evE_cmp, evE_chain, evE_isN, evE_and, evE_or, evE_not, evE_ite, evE_tup, evE_lst, evE_ix, evE_sl, evE_isI, evE_call, evE_callK, evE_bi, evE_mth, evEs_nil, evEs_cons, evDs_nil, evDs_cons, evPart_nil, evPart_cons, evAnd_nil, evAnd_cons, evOr_nil, evOr_cons, evT_val, evT_and, evT_or, evT_not, evT_cmp, evT_chain, evT_isN, evTAnd_nil, evTAnd_cons, evTOr_nil, evTOr_cons, evIt_seq, evIt_rng, evIt_enum, evIt_zip, evTg_n, evTg_t, evTg_ix, evTgs_nil, evTgs_cons, evS_asg, evS_asgT, evS_par, evS_ex, evS_ret, evS_retN, evS_iff, evS_forF, evS_whl, evS_rai, evS_pass, evS_brk, evS_cont, evSs_nil, evSs_cons, evE_compF, ite_ap, join_some, bltn, arg1, arg2, lenB, allB, anyB, intB, absB, minB, maxB, tupB, lstB, dmB, binop, cmpop, ix_tup, ix_lst, ix_scr, slB, truth, itemsOf, rngB, store1_dat, store1_cell, store1_own0, store1_own1, parM, ixSet, mthB, ty_obj, ty_int, ty_bool, ty_str, ty_tuple, ty_list, ty_dict, isObj, isInt, isBl, isStr, isTup, isLst, isDct, write_ap, at_0, at_1, at_2, set_0, set_1, set_2, List.length_cons, List.length_nil, List.replicate, List.append_nil, List.cons_append, List.nil_append, List.getElem?_cons_zero, List.getElem?_cons_succ, List.set_cons_zero, List.set_cons_succ, Nat.sub_self, Nat.reduceAdd, Nat.reduceSub, if_true, if_false, Bool.false_eq_true, Bool.not_true, Bool.not_false, Tg.slots, Tgs.slots, wipe, decide_true, decide_false, Bool.and_true, Bool.true_and, Bool.and_false, Bool.false_and, mulOk_r, mulOk_l, pow15, pow60, Int.reduceLT, Int.reduceNeg, endFn_set, endFn_setO, mulOk_mod, deq_int, din_int, din_lot, deq_lot, deq_bl, permL, List.filterMap_cons, List.filterMap_nil, List.map_cons, List.map_nil, beq_self_eq_true, isTupD, ite_bool, ite_tf, ix_tab0, ix_tab1, F__law_pool, B__law_pool, List.length_map, hl, hx, hcut, e, h1, h2, Int.reduceToNat, Int.reducePow]
            exact ⟨_, rfl⟩
          · refine ⟨0, ⟨by decide, by decide⟩, ?_⟩
            simp only [run_ap, bindA_dat, bindA_own0, bindA_cell, bindA_own, bindA_nil, bind_ap, pure_ap, opt_some, guard_true, use_dat, use_own, peek_dat, peek_own, peeks_nil, peeks_cons, flowR_rt, flowR_nx, endFn_dat, endFn_own, evE_k, evE_v, evE_glob, evE_bin, evE_neg, evE_cmp, evE_chain, evE_isN, evE_and, evE_or, evE_not, evE_ite, evE_tup, evE_lst, evE_ix, evE_sl, evE_isI, evE_call, evE_callK, evE_bi, evE_mth, evEs_nil, evEs_cons, evDs_nil, evDs_cons, evPart_nil, evPart_cons, evAnd_nil, evAnd_cons, evOr_nil, evOr_cons, evT_val, evT_and, evT_or, evT_not, evT_cmp, evT_chain, evT_isN, evTAnd_nil, evTAnd_cons, evTOr_nil, evTOr_cons, evIt_seq, evIt_rng, evIt_enum, evIt_zip, evTg_n, evTg_t, evTg_ix, evTgs_nil, evTgs_cons, evS_asg, evS_asgT, evS_par, evS_ex, evS_ret, evS_retN, evS_iff, evS_forF, evS_whl, evS_rai, evS_pass, evS_brk, evS_cont, evSs_nil, evSs_cons, evE_compF, ite_ap, join_some, bltn, arg1, arg2, lenB, allB, anyB, intB, absB, minB, maxB, tupB, lstB, dmB, binop, cmpop, ix_tup, ix_lst, ix_scr, slB, truth, itemsOf, rngB, store1_dat, store1_cell, store1_own0, store1_own1, parM, ixSet, mthB, ty_obj, ty_int, ty_bool, ty_str, ty_tuple, ty_list, ty_dict, isObj, isInt, isBl, isStr, isTup, isLst, isDct, write_ap, at_0, at_1, at_2, set_0, set_1, set_2, List.length_cons, List.length_nil, List.replicate, List.append_nil, List.cons_append, List.nil_append, List.getElem?_cons_zero, List.getElem?_cons_succ, List.set_cons_zero, List.set_cons_succ, Nat.sub_self, Nat.reduceAdd, Nat.reduceSub, if_true, if_false, Bool.false_eq_true, Bool.not_true, Bool.not_false, Tg.slots, Tgs.slots, wipe, decide_true, decide_false, Bool.and_true, Bool.true_and, Bool.and_false, Bool.false_and, mulOk_r, mulOk_l, pow15, pow60, Int.reduceLT, Int.reduceNeg, endFn_set, endFn_setO, mulOk_mod, deq_int, din_int, din_lot, deq_lot, deq_bl, permL, List.filterMap_cons, List.filterMap_nil, List.map_cons, List.map_nil, beq_self_eq_true, isTupD, ite_bool, ite_tf, ix_tab0, ix_tab1, F__law_pool, B__law_pool, List.length_map, hl, hx, hcut, e, h1, h2, Int.reduceToNat, Int.reducePow]
            exact ⟨_, rfl⟩
    obtain ⟨v, ⟨v0, v1⟩, q, hq⟩ := fin
    exact ⟨_, ⟨v, q, 0, rfl, v0, v1⟩, hq⟩
  by_cases hl : lap < (ns.length : Int)
  · have hx : at? (ns.map D.int) lap = some (.int ns[lap.toNat]!) := by
      have : (ns.map D.int)[lap.toNat]? = some (.int ns[lap.toNat]!) := by
        have : lap.toNat < ns.length := by omega
        rw [List.getElem?_map, List.getElem?_eq_getElem this, getElem!_pos ns lap.toNat this]
        rfl
      have q := at_nat this
      rw [show ((lap.toNat : Nat) : Int) = lap by omega] at q
      exact q
    obtain ⟨x', r4', e⟩ := pool_run (some (.dat (.scr (ns.map D.int)))) (some (.dat (.int lap))) (some (.dat (.int ns[lap.toNat]!))) st (ns.take 12) (89939 + 6823 * lap) none
    exact key _ x' r4' e (by rw [if_pos hl]; exact hx)
  · obtain ⟨x', r4', e⟩ := pool_run (some (.dat (.scr (ns.map D.int)))) (some (.dat (.int lap))) (some (.dat (.int (4491 * lap + 859)))) st (ns.take 12) (89939 + 6823 * lap) none
    exact key _ x' r4' e (by rw [if_neg hl])
theorem law (ns : List Int) (h : ns.length ≤ 63) : ∃ st', runFn F_law [.dat (.scr (ns.map D.int))] [] = .ok (.dat (.bl true)) st' := by
  have hm : ∃ m : Nat, m ≤ 2 ∧ (if (if (2 : Int) < (ns.length : Int) then 2 else (ns.length : Int)) > 1 then (if (2 : Int) < (ns.length : Int) then 2 else (ns.length : Int)) else 1) = (m : Int) := by
    by_cases h2 : (2 : Int) < (ns.length : Int)
    · exact ⟨2, by omega, by rw [if_pos h2]; rfl⟩
    · rw [if_neg h2]
      by_cases h1 : (ns.length : Int) > 1
      · exact ⟨ns.length, by omega, by rw [if_pos h1]⟩
      · exact ⟨1, by omega, by rw [if_neg h1]; rfl⟩
  obtain ⟨m, hm2, hm⟩ := hm
  have hc : compM (compF tg_law_0 cd_law_0 el_law_0 [some (.dat (.scr (ns.map D.int))), none]) ((seqI m).map D.int) [] = .ok ((seqI m).map fun _ => .bl true) [] := by
    refine compM_map fun i hi => ?_
    have hi' := mem_upTo.mp hi
    obtain ⟨p, hp, e⟩ := pool ns i hi'.1 []
    have e2 := right p [] hp
    simp only [run_ap, bindA_dat, bindA_own0, bindA_cell, bindA_own, bindA_nil, bind_ap, pure_ap, opt_some, guard_true, use_dat, use_own, peek_dat, peek_own, peeks_nil, peeks_cons, flowR_rt, flowR_nx, endFn_dat, endFn_own, evE_k, evE_v, evE_glob, evE_bin, evE_neg, evE_cmp, evE_chain, evE_isN, evE_and, evE_or, evE_not, evE_ite, evE_tup, evE_lst, evE_ix, evE_sl, evE_isI, evE_call, evE_callK, evE_bi, evE_mth, evEs_nil, evEs_cons, evDs_nil, evDs_cons, evPart_nil, evPart_cons, evAnd_nil, evAnd_cons, evOr_nil, evOr_cons, evT_val, evT_and, evT_or, evT_not, evT_cmp, evT_chain, evT_isN, evTAnd_nil, evTAnd_cons, evTOr_nil, evTOr_cons, evIt_seq, evIt_rng, evIt_enum, evIt_zip, evTg_n, evTg_t, evTg_ix, evTgs_nil, evTgs_cons, evS_asg, evS_asgT, evS_par, evS_ex, evS_ret, evS_retN, evS_iff, evS_forF, evS_whl, evS_rai, evS_pass, evS_brk, evS_cont, evSs_nil, evSs_cons, evE_compF, ite_ap, join_some, bltn, arg1, arg2, lenB, allB, anyB, intB, absB, minB, maxB, tupB, lstB, dmB, binop, cmpop, ix_tup, ix_lst, ix_scr, slB, truth, itemsOf, rngB, store1_dat, store1_cell, store1_own0, store1_own1, parM, ixSet, mthB, ty_obj, ty_int, ty_bool, ty_str, ty_tuple, ty_list, ty_dict, isObj, isInt, isBl, isStr, isTup, isLst, isDct, write_ap, at_0, at_1, at_2, set_0, set_1, set_2, List.length_cons, List.length_nil, List.replicate, List.append_nil, List.cons_append, List.nil_append, List.getElem?_cons_zero, List.getElem?_cons_succ, List.set_cons_zero, List.set_cons_succ, Nat.sub_self, Nat.reduceAdd, Nat.reduceSub, if_true, if_false, Bool.false_eq_true, Bool.not_true, Bool.not_false, Tg.slots, Tgs.slots, wipe, decide_true, decide_false, Bool.and_true, Bool.true_and, Bool.and_false, Bool.false_and, mulOk_r, mulOk_l, pow15, pow60, Int.reduceLT, Int.reduceNeg, endFn_set, endFn_setO, mulOk_mod, deq_int, din_int, din_lot, deq_lot, deq_bl, permL, List.filterMap_cons, List.filterMap_nil, List.map_cons, List.map_nil, beq_self_eq_true, isTupD, ite_bool, ite_tf, ix_tab0, ix_tab1, compF_ap, tg_law_0, cd_law_0, el_law_0, e, e2]
  have g1 : (-(2 ^ 62) : Int) ≤ (m : Int) := by omega
  have g2 : (m : Int) ≤ 1000000 := by omega
  have h4 : ((seqI m).map fun _ => true).all id = true := by simp
  refine ⟨[], ?_⟩
  have e0 : endFn (List.length ([] : Sto)) (.dat (.bl true)) [] = .ok (.dat (.bl true)) [] := rfl
  simp only [run_ap, bindA_dat, bindA_own0, bindA_cell, bindA_own, bindA_nil, bind_ap, pure_ap, opt_some, guard_true, use_dat, use_own, peek_dat, peek_own, peeks_nil, peeks_cons, flowR_rt, flowR_nx, endFn_dat, endFn_own, evE_k, evE_v, evE_glob, evE_bin, evE_neg, evE_cmp, evE_chain, evE_isN, evE_and, evE_or, evE_not, evE_ite, evE_tup, evE_lst, evE_ix, evE_sl, evE_isI, evE_call, evE_callK, evE_bi, evE_mth, evEs_nil, evEs_cons, evDs_nil, evDs_cons, evPart_nil, evPart_cons, evAnd_nil, evAnd_cons, evOr_nil, evOr_cons, evT_val, evT_and, evT_or, evT_not, evT_cmp, evT_chain, evT_isN, evTAnd_nil, evTAnd_cons, evTOr_nil, evTOr_cons, evIt_seq, evIt_rng, evIt_enum, evIt_zip, evTg_n, evTg_t, evTg_ix, evTgs_nil, evTgs_cons, evS_asg, evS_asgT, evS_par, evS_ex, evS_ret, evS_retN, evS_iff, evS_forF, evS_whl, evS_rai, evS_pass, evS_brk, evS_cont, evSs_nil, evSs_cons, evE_compF, ite_ap, join_some, bltn, arg1, arg2, lenB, allB, anyB, intB, absB, minB, maxB, tupB, lstB, dmB, binop, cmpop, ix_tup, ix_lst, ix_scr, slB, truth, itemsOf, rngB, store1_dat, store1_cell, store1_own0, store1_own1, parM, ixSet, mthB, ty_obj, ty_int, ty_bool, ty_str, ty_tuple, ty_list, ty_dict, isObj, isInt, isBl, isStr, isTup, isLst, isDct, write_ap, at_0, at_1, at_2, set_0, set_1, set_2, List.length_cons, List.length_nil, List.replicate, List.append_nil, List.cons_append, List.nil_append, List.getElem?_cons_zero, List.getElem?_cons_succ, List.set_cons_zero, List.set_cons_succ, Nat.sub_self, Nat.reduceAdd, Nat.reduceSub, if_true, if_false, Bool.false_eq_true, Bool.not_true, Bool.not_false, Tg.slots, Tgs.slots, wipe, decide_true, decide_false, Bool.and_true, Bool.true_and, Bool.and_false, Bool.false_and, mulOk_r, mulOk_l, pow15, pow60, Int.reduceLT, Int.reduceNeg, endFn_set, endFn_setO, mulOk_mod, deq_int, din_int, din_lot, deq_lot, deq_bl, permL, List.filterMap_cons, List.filterMap_nil, List.map_cons, List.map_nil, beq_self_eq_true, isTupD, ite_bool, ite_tf, ix_tab0, ix_tab1, F_law, B_law, List.length_map, hm, g1, g2, Int.toNat_natCast, rng_upTo, hc, blsOf_map (fun _ : Int => true), h4, e0]
  rfl
end K04
set_option maxHeartbeats 0
namespace K04
open PySem PySem.Spec PyProof.Rows L2 DB
def top (i : Nat) : Stmt := PySem.Challenge.pw_darkbars_k04_whole_digits_of_glyphs_and.main.body.getD i (.Pass ⟨0, 0, 0, 0⟩)
def d__law_same : Dn := ⟨"_law_same", defArgs (top 36), defBody (top 36), defScope (top 36), ["told", "due"], ["told", "due", "key", "x", "y"], []⟩
def d__law_below : Dn := ⟨"_law_below", defArgs (top 32), defBody (top 32), defScope (top 32), ["pool", "many"], ["pool", "many", "figure", "stirred"], []⟩
def d__law_lot : Dn := ⟨"_law_lot", defArgs (top 33), defBody (top 33), defScope (top 33), ["pool", "bars"], ["pool", "bars", "bar"], []⟩
def d__law_order : Dn := ⟨"_law_order", defArgs (top 35), defBody (top 35), defScope (top 35), ["pool", "some"], ["pool", "some", "left", "found", "lap"], []⟩
def d__law_table : Dn := ⟨"_law_table", defArgs (top 34), defBody (top 34), defScope (top 34), ["pool", "most", "glyphs"], ["pool", "most", "glyphs", "bars", "found", "lap", "lot"], []⟩
def d_is_tuple_up_to : Dn := ⟨"is_tuple_up_to", defArgs (top 8), defBody (top 8), defScope (top 8), ["value", "low", "high"], ["value", "low", "high"], []⟩
def d_are_unlike : Dn := ⟨"are_unlike", defArgs (top 12), defBody (top 12), defScope (top 12), ["values"], ["values", "at", "value"], []⟩
def d_is_tuple_of : Dn := ⟨"is_tuple_of", defArgs (top 9), defBody (top 9), defScope (top 9), ["value", "many"], ["value", "many"], []⟩
def d_is_pair : Dn := ⟨"is_pair", defArgs (top 10), defBody (top 10), defScope (top 10), ["value"], ["value"], []⟩
def d_is_whole : Dn := ⟨"is_whole", defArgs (top 5), defBody (top 5), defScope (top 5), ["value"], ["value"], []⟩
def d_is_between : Dn := ⟨"is_between", defArgs (top 6), defBody (top 6), defScope (top 6), ["value", "low", "high"], ["value", "low", "high"], []⟩
def d_are_rising : Dn := ⟨"are_rising", defArgs (top 11), defBody (top 11), defScope (top 11), ["values"], ["values", "one", "two"], []⟩
def d_is_up_to : Dn := ⟨"is_up_to", defArgs (top 7), defBody (top 7), defScope (top 7), ["value", "most"], ["value", "most"], []⟩
def d_is_lot_of : Dn := ⟨"is_lot_of", defArgs (top 17), defBody (top 17), defScope (top 17), ["bars", "value"], ["bars", "value", "bar"], []⟩
def d_is_table_of : Dn := ⟨"is_table_of", defArgs (top 18), defBody (top 18), defScope (top 18), ["value"], ["value", "glyph"], []⟩
def d_check_table : Dn := ⟨"check_table", defArgs (top 19), defBody (top 19), defScope (top 19), ["table"], ["table"], []⟩
def d_glyphs_of : Dn := ⟨"glyphs_of", defArgs (top 22), defBody (top 22), defScope (top 22), ["table"], ["table"], []⟩
def d_digit_by : Dn := ⟨"digit_by", defArgs (top 23), defBody (top 23), defScope (top 23), ["table", "glyph"], ["table", "glyph", "found", "digit", "each"], []⟩
def d_digit_of : Dn := ⟨"digit_of", defArgs (top 27), defBody (top 27), defScope (top 27), ["table", "glyph"], ["table", "glyph"], [⟨0, ["glyph", "table"], [], [1, 0]⟩]⟩
def d_bars_of : Dn := ⟨"bars_of", defArgs (top 21), defBody (top 21), defScope (top 21), ["table"], ["table"], []⟩
def d_missing_bars : Dn := ⟨"missing_bars", defArgs (top 25), defBody (top 25), defScope (top 25), ["table"], ["table", "bar", "glyph"], []⟩
def d_always_dark : Dn := ⟨"always_dark", defArgs (top 29), defBody (top 29), defScope (top 29), ["table"], ["table"], [⟨0, ["table"], [], [0]⟩]⟩
def d_common_bars : Dn := ⟨"common_bars", defArgs (top 24), defBody (top 24), defScope (top 24), ["table"], ["table", "bar", "glyph"], []⟩
def d_always_lit : Dn := ⟨"always_lit", defArgs (top 28), defBody (top 28), defScope (top 28), ["table"], ["table"], [⟨0, ["table"], [], [0]⟩]⟩
def d__law_right : Dn := ⟨"_law_right", defArgs (top 37), defBody (top 37), defScope (top 37), ["pool"], ["pool", "lap", "table", "low", "glyph", "bar", "each", "due", "digit", "lit", "dark", "told"], []⟩
def d__law_pool : Dn := ⟨"_law_pool", defArgs (top 31), defBody (top 31), defScope (top 31), ["script", "lap"], ["script", "lap", "cell", "stirred", "each"], []⟩
def d_law : Dn := ⟨"law", defArgs (top 38), defBody (top 38), defScope (top 38), ["script"], ["script", "lap"], []⟩
def DS : List Dn := [d__law_same, d__law_below, d__law_lot, d__law_order, d__law_table, d_is_tuple_up_to, d_are_unlike, d_is_tuple_of, d_is_pair, d_is_whole, d_is_between, d_are_rising, d_is_up_to, d_is_lot_of, d_is_table_of, d_check_table, d_glyphs_of, d_digit_by, d_digit_of, d_bars_of, d_missing_bars, d_always_dark, d_common_bars, d_always_lit, d__law_right, d__law_pool, d_law]
def GL : List (Str × D) := [("MOST_BARS", G_MOST_BARS), ("LEAST_GLYPHS", G_LEAST_GLYPHS), ("MOST_GLYPHS", G_MOST_GLYPHS)]
def NS : List Str := ["_law_same", "_law_below", "_law_lot", "_law_order", "_law_table", "is_tuple_up_to", "are_unlike", "is_tuple_of", "is_pair", "is_whole", "is_between", "are_rising", "is_up_to", "is_lot_of", "is_table_of", "check_table", "glyphs_of", "digit_by", "digit_of", "bars_of", "missing_bars", "always_dark", "common_bars", "always_lit", "_law_right", "_law_pool", "law"]
theorem gl_MOST_BARS : (("MOST_BARS" : Str), G_MOST_BARS) ∈ GL := List.mem_of_getElem? (i := 0) rfl
theorem gl_LEAST_GLYPHS : (("LEAST_GLYPHS" : Str), G_LEAST_GLYPHS) ∈ GL := List.mem_of_getElem? (i := 1) rfl
theorem gl_MOST_GLYPHS : (("MOST_GLYPHS" : Str), G_MOST_GLYPHS) ∈ GL := List.mem_of_getElem? (i := 2) rfl
theorem kw_digit_of_0 : kwOk DS 18 0 ["glyph", "table"] [] [1, 0] := ⟨d_digit_of, rfl, List.mem_of_getElem? (i := 0) rfl⟩
theorem kw_always_dark_0 : kwOk DS 21 0 ["table"] [] [0] := ⟨d_always_dark, rfl, List.mem_of_getElem? (i := 0) rfl⟩
theorem kw_always_lit_0 : kwOk DS 23 0 ["table"] [] [0] := ⟨d_always_lit, rfl, List.mem_of_getElem? (i := 0) rfl⟩
theorem sc__law_same : C8.scC d__law_same.N d__law_same.ps d__law_same.scope = true := by decide +kernel
theorem ag__law_same (self : Fn) : agSs ⟨d__law_same.N, d__law_same.scope, none, NS⟩ (B__law_same self) d__law_same.body = true := by kernel_rfl
theorem good__law_same : ∀ (n k : Nat), n + 0 ≤ k → GoodF DS GL k 0 (F__law_same n)
  | 0, 0, _ => ⟨d__law_same, rfl⟩
  | 0, _ + 1, _ => ⟨d__law_same, rfl⟩
  | n + 1, 0, h => absurd h (by omega)
  | n + 1, k + 1, h => by
    have hself := good__law_same n k (by omega)
    refine ⟨d__law_same, rfl, rfl, rfl, sc__law_same, ag__law_same _, ?_⟩
    simp only [B__law_same, KnSs, KnS, KnE, KnEs, KnT, KnTs, KnIt, KnTg, KnTgs, and_true, true_and, hself, tg__law_same_0, cd__law_same_0, el__law_same_0, tg__law_same_1, cd__law_same_1, el__law_same_1]
theorem sc__law_below : C8.scC d__law_below.N d__law_below.ps d__law_below.scope = true := by decide +kernel
theorem ag__law_below : agSs ⟨d__law_below.N, d__law_below.scope, none, NS⟩ B__law_below d__law_below.body = true := by kernel_rfl
theorem good__law_below (k : Nat) (h : 1 ≤ k) : GoodF DS GL k 1 F__law_below := by
  obtain ⟨k, rfl⟩ : ∃ j, k = j + 1 := ⟨k - 1, by omega⟩
  refine ⟨d__law_below, rfl, rfl, rfl, sc__law_below, ag__law_below, ?_⟩
  simp only [B__law_below, KnSs, KnS, KnE, KnEs, KnT, KnTs, KnIt, KnTg, KnTgs, and_true, true_and, and_true]
theorem sc__law_lot : C8.scC d__law_lot.N d__law_lot.ps d__law_lot.scope = true := by decide +kernel
theorem ag__law_lot : agSs ⟨d__law_lot.N, d__law_lot.scope, none, NS⟩ B__law_lot d__law_lot.body = true := by kernel_rfl
theorem good__law_lot (k : Nat) (h : 2 ≤ k) : GoodF DS GL k 2 F__law_lot := by
  obtain ⟨k, rfl⟩ : ∃ j, k = j + 1 := ⟨k - 1, by omega⟩
  refine ⟨d__law_lot, rfl, rfl, rfl, sc__law_lot, ag__law_lot, ?_⟩
  simp only [B__law_lot, KnSs, KnS, KnE, KnEs, KnT, KnTs, KnIt, KnTg, KnTgs, and_true, true_and, good__law_below k (by omega), tg__law_lot_0, cd__law_lot_0, el__law_lot_0]
theorem sc__law_order : C8.scC d__law_order.N d__law_order.ps d__law_order.scope = true := by decide +kernel
theorem ag__law_order : agSs ⟨d__law_order.N, d__law_order.scope, none, NS⟩ B__law_order d__law_order.body = true := by kernel_rfl
theorem good__law_order (k : Nat) (h : 2 ≤ k) : GoodF DS GL k 3 F__law_order := by
  obtain ⟨k, rfl⟩ : ∃ j, k = j + 1 := ⟨k - 1, by omega⟩
  refine ⟨d__law_order, rfl, rfl, rfl, sc__law_order, ag__law_order, ?_⟩
  simp only [B__law_order, KnSs, KnS, KnE, KnEs, KnT, KnTs, KnIt, KnTg, KnTgs, and_true, true_and, good__law_below k (by omega), ft__law_order_0, fb__law_order_0]
theorem sc__law_table : C8.scC d__law_table.N d__law_table.ps d__law_table.scope = true := by decide +kernel
theorem ag__law_table : agSs ⟨d__law_table.N, d__law_table.scope, none, NS⟩ B__law_table d__law_table.body = true := by kernel_rfl
theorem good__law_table (k : Nat) (h : 3 ≤ k) : GoodF DS GL k 4 F__law_table := by
  obtain ⟨k, rfl⟩ : ∃ j, k = j + 1 := ⟨k - 1, by omega⟩
  refine ⟨d__law_table, rfl, rfl, rfl, sc__law_table, ag__law_table, ?_⟩
  simp only [B__law_table, KnSs, KnS, KnE, KnEs, KnT, KnTs, KnIt, KnTg, KnTgs, and_true, true_and, good__law_below k (by omega), good__law_lot k (by omega), good__law_order k (by omega), ft__law_table_0, fb__law_table_0, ft__law_table_1, fb__law_table_1]
theorem sc_is_tuple_up_to : C8.scC d_is_tuple_up_to.N d_is_tuple_up_to.ps d_is_tuple_up_to.scope = true := by decide +kernel
theorem ag_is_tuple_up_to : agSs ⟨d_is_tuple_up_to.N, d_is_tuple_up_to.scope, none, NS⟩ B_is_tuple_up_to d_is_tuple_up_to.body = true := by kernel_rfl
theorem good_is_tuple_up_to (k : Nat) (h : 1 ≤ k) : GoodF DS GL k 5 F_is_tuple_up_to := by
  obtain ⟨k, rfl⟩ : ∃ j, k = j + 1 := ⟨k - 1, by omega⟩
  refine ⟨d_is_tuple_up_to, rfl, rfl, rfl, sc_is_tuple_up_to, ag_is_tuple_up_to, ?_⟩
  simp only [B_is_tuple_up_to, KnSs, KnS, KnE, KnEs, KnT, KnTs, KnIt, KnTg, KnTgs, and_true, true_and, and_true]
theorem sc_are_unlike : C8.scC d_are_unlike.N d_are_unlike.ps d_are_unlike.scope = true := by decide +kernel
theorem ag_are_unlike : agSs ⟨d_are_unlike.N, d_are_unlike.scope, none, NS⟩ B_are_unlike d_are_unlike.body = true := by kernel_rfl
theorem good_are_unlike (k : Nat) (h : 1 ≤ k) : GoodF DS GL k 6 F_are_unlike := by
  obtain ⟨k, rfl⟩ : ∃ j, k = j + 1 := ⟨k - 1, by omega⟩
  refine ⟨d_are_unlike, rfl, rfl, rfl, sc_are_unlike, ag_are_unlike, ?_⟩
  simp only [B_are_unlike, KnSs, KnS, KnE, KnEs, KnT, KnTs, KnIt, KnTg, KnTgs, and_true, true_and, tg_are_unlike_0, cd_are_unlike_0, el_are_unlike_0]
theorem sc_is_tuple_of : C8.scC d_is_tuple_of.N d_is_tuple_of.ps d_is_tuple_of.scope = true := by decide +kernel
theorem ag_is_tuple_of : agSs ⟨d_is_tuple_of.N, d_is_tuple_of.scope, none, NS⟩ B_is_tuple_of d_is_tuple_of.body = true := by kernel_rfl
theorem good_is_tuple_of (k : Nat) (h : 2 ≤ k) : GoodF DS GL k 7 F_is_tuple_of := by
  obtain ⟨k, rfl⟩ : ∃ j, k = j + 1 := ⟨k - 1, by omega⟩
  refine ⟨d_is_tuple_of, rfl, rfl, rfl, sc_is_tuple_of, ag_is_tuple_of, ?_⟩
  simp only [B_is_tuple_of, KnSs, KnS, KnE, KnEs, KnT, KnTs, KnIt, KnTg, KnTgs, and_true, true_and, good_is_tuple_up_to k (by omega)]
theorem sc_is_pair : C8.scC d_is_pair.N d_is_pair.ps d_is_pair.scope = true := by decide +kernel
theorem ag_is_pair : agSs ⟨d_is_pair.N, d_is_pair.scope, none, NS⟩ B_is_pair d_is_pair.body = true := by kernel_rfl
theorem good_is_pair (k : Nat) (h : 3 ≤ k) : GoodF DS GL k 8 F_is_pair := by
  obtain ⟨k, rfl⟩ : ∃ j, k = j + 1 := ⟨k - 1, by omega⟩
  refine ⟨d_is_pair, rfl, rfl, rfl, sc_is_pair, ag_is_pair, ?_⟩
  simp only [B_is_pair, KnSs, KnS, KnE, KnEs, KnT, KnTs, KnIt, KnTg, KnTgs, and_true, true_and, good_is_tuple_of k (by omega)]
theorem sc_is_whole : C8.scC d_is_whole.N d_is_whole.ps d_is_whole.scope = true := by decide +kernel
theorem ag_is_whole : agSs ⟨d_is_whole.N, d_is_whole.scope, none, NS⟩ B_is_whole d_is_whole.body = true := by kernel_rfl
theorem good_is_whole (k : Nat) (h : 1 ≤ k) : GoodF DS GL k 9 F_is_whole := by
  obtain ⟨k, rfl⟩ : ∃ j, k = j + 1 := ⟨k - 1, by omega⟩
  refine ⟨d_is_whole, rfl, rfl, rfl, sc_is_whole, ag_is_whole, ?_⟩
  simp only [B_is_whole, KnSs, KnS, KnE, KnEs, KnT, KnTs, KnIt, KnTg, KnTgs, and_true, true_and, and_true]
theorem sc_is_between : C8.scC d_is_between.N d_is_between.ps d_is_between.scope = true := by decide +kernel
theorem ag_is_between : agSs ⟨d_is_between.N, d_is_between.scope, none, NS⟩ B_is_between d_is_between.body = true := by kernel_rfl
theorem good_is_between (k : Nat) (h : 2 ≤ k) : GoodF DS GL k 10 F_is_between := by
  obtain ⟨k, rfl⟩ : ∃ j, k = j + 1 := ⟨k - 1, by omega⟩
  refine ⟨d_is_between, rfl, rfl, rfl, sc_is_between, ag_is_between, ?_⟩
  simp only [B_is_between, KnSs, KnS, KnE, KnEs, KnT, KnTs, KnIt, KnTg, KnTgs, and_true, true_and, good_is_whole k (by omega)]
theorem sc_are_rising : C8.scC d_are_rising.N d_are_rising.ps d_are_rising.scope = true := by decide +kernel
theorem ag_are_rising : agSs ⟨d_are_rising.N, d_are_rising.scope, none, NS⟩ B_are_rising d_are_rising.body = true := by kernel_rfl
theorem good_are_rising (k : Nat) (h : 1 ≤ k) : GoodF DS GL k 11 F_are_rising := by
  obtain ⟨k, rfl⟩ : ∃ j, k = j + 1 := ⟨k - 1, by omega⟩
  refine ⟨d_are_rising, rfl, rfl, rfl, sc_are_rising, ag_are_rising, ?_⟩
  simp only [B_are_rising, KnSs, KnS, KnE, KnEs, KnT, KnTs, KnIt, KnTg, KnTgs, and_true, true_and, tg_are_rising_0, cd_are_rising_0, el_are_rising_0]
theorem sc_is_up_to : C8.scC d_is_up_to.N d_is_up_to.ps d_is_up_to.scope = true := by decide +kernel
theorem ag_is_up_to : agSs ⟨d_is_up_to.N, d_is_up_to.scope, none, NS⟩ B_is_up_to d_is_up_to.body = true := by kernel_rfl
theorem good_is_up_to (k : Nat) (h : 3 ≤ k) : GoodF DS GL k 12 F_is_up_to := by
  obtain ⟨k, rfl⟩ : ∃ j, k = j + 1 := ⟨k - 1, by omega⟩
  refine ⟨d_is_up_to, rfl, rfl, rfl, sc_is_up_to, ag_is_up_to, ?_⟩
  simp only [B_is_up_to, KnSs, KnS, KnE, KnEs, KnT, KnTs, KnIt, KnTg, KnTgs, and_true, true_and, good_is_between k (by omega)]
theorem sc_is_lot_of : C8.scC d_is_lot_of.N d_is_lot_of.ps d_is_lot_of.scope = true := by decide +kernel
theorem ag_is_lot_of : agSs ⟨d_is_lot_of.N, d_is_lot_of.scope, none, NS⟩ B_is_lot_of d_is_lot_of.body = true := by kernel_rfl
theorem good_is_lot_of (k : Nat) (h : 4 ≤ k) : GoodF DS GL k 13 F_is_lot_of := by
  obtain ⟨k, rfl⟩ : ∃ j, k = j + 1 := ⟨k - 1, by omega⟩
  refine ⟨d_is_lot_of, rfl, rfl, rfl, sc_is_lot_of, ag_is_lot_of, ?_⟩
  simp only [B_is_lot_of, KnSs, KnS, KnE, KnEs, KnT, KnTs, KnIt, KnTg, KnTgs, and_true, true_and, good_is_tuple_up_to k (by omega), good_is_up_to k (by omega), good_are_rising k (by omega), tg_is_lot_of_0, cd_is_lot_of_0, el_is_lot_of_0]
theorem sc_is_table_of : C8.scC d_is_table_of.N d_is_table_of.ps d_is_table_of.scope = true := by decide +kernel
theorem ag_is_table_of : agSs ⟨d_is_table_of.N, d_is_table_of.scope, none, NS⟩ B_is_table_of d_is_table_of.body = true := by kernel_rfl
theorem good_is_table_of (k : Nat) (h : 5 ≤ k) : GoodF DS GL k 14 F_is_table_of := by
  obtain ⟨k, rfl⟩ : ∃ j, k = j + 1 := ⟨k - 1, by omega⟩
  refine ⟨d_is_table_of, rfl, rfl, rfl, sc_is_table_of, ag_is_table_of, ?_⟩
  simp only [B_is_table_of, KnSs, KnS, KnE, KnEs, KnT, KnTs, KnIt, KnTg, KnTgs, and_true, true_and, good_is_pair k (by omega), good_is_between k (by omega), good_is_tuple_up_to k (by omega), good_is_lot_of k (by omega), good_are_unlike k (by omega), tg_is_table_of_0, cd_is_table_of_0, el_is_table_of_0, gl_MOST_BARS, gl_LEAST_GLYPHS, gl_MOST_GLYPHS]
theorem sc_check_table : C8.scC d_check_table.N d_check_table.ps d_check_table.scope = true := by decide +kernel
theorem ag_check_table : agSs ⟨d_check_table.N, d_check_table.scope, none, NS⟩ B_check_table d_check_table.body = true := by kernel_rfl
theorem good_check_table (k : Nat) (h : 6 ≤ k) : GoodF DS GL k 15 F_check_table := by
  obtain ⟨k, rfl⟩ : ∃ j, k = j + 1 := ⟨k - 1, by omega⟩
  refine ⟨d_check_table, rfl, rfl, rfl, sc_check_table, ag_check_table, ?_⟩
  simp only [B_check_table, KnSs, KnS, KnE, KnEs, KnT, KnTs, KnIt, KnTg, KnTgs, and_true, true_and, good_is_table_of k (by omega)]
theorem sc_glyphs_of : C8.scC d_glyphs_of.N d_glyphs_of.ps d_glyphs_of.scope = true := by decide +kernel
theorem ag_glyphs_of : agSs ⟨d_glyphs_of.N, d_glyphs_of.scope, none, NS⟩ B_glyphs_of d_glyphs_of.body = true := by kernel_rfl
theorem good_glyphs_of (k : Nat) (h : 1 ≤ k) : GoodF DS GL k 16 F_glyphs_of := by
  obtain ⟨k, rfl⟩ : ∃ j, k = j + 1 := ⟨k - 1, by omega⟩
  refine ⟨d_glyphs_of, rfl, rfl, rfl, sc_glyphs_of, ag_glyphs_of, ?_⟩
  simp only [B_glyphs_of, KnSs, KnS, KnE, KnEs, KnT, KnTs, KnIt, KnTg, KnTgs, and_true, true_and, and_true]
theorem sc_digit_by : C8.scC d_digit_by.N d_digit_by.ps d_digit_by.scope = true := by decide +kernel
theorem ag_digit_by : agSs ⟨d_digit_by.N, d_digit_by.scope, none, NS⟩ B_digit_by d_digit_by.body = true := by kernel_rfl
theorem good_digit_by (k : Nat) (h : 2 ≤ k) : GoodF DS GL k 17 F_digit_by := by
  obtain ⟨k, rfl⟩ : ∃ j, k = j + 1 := ⟨k - 1, by omega⟩
  refine ⟨d_digit_by, rfl, rfl, rfl, sc_digit_by, ag_digit_by, ?_⟩
  simp only [B_digit_by, KnSs, KnS, KnE, KnEs, KnT, KnTs, KnIt, KnTg, KnTgs, and_true, true_and, good_glyphs_of k (by omega), tg_digit_by_0, cd_digit_by_0, el_digit_by_0]
theorem sc_digit_of : C8.scC d_digit_of.N d_digit_of.ps d_digit_of.scope = true := by decide +kernel
theorem ag_digit_of : agSs ⟨d_digit_of.N, d_digit_of.scope, none, NS⟩ B_digit_of d_digit_of.body = true := by kernel_rfl
theorem good_digit_of (k : Nat) (h : 7 ≤ k) : GoodF DS GL k 18 F_digit_of := by
  obtain ⟨k, rfl⟩ : ∃ j, k = j + 1 := ⟨k - 1, by omega⟩
  refine ⟨d_digit_of, rfl, rfl, rfl, sc_digit_of, ag_digit_of, ?_⟩
  simp only [B_digit_of, KnSs, KnS, KnE, KnEs, KnT, KnTs, KnIt, KnTg, KnTgs, and_true, true_and, good_check_table k (by omega), good_is_lot_of k (by omega), good_digit_by k (by omega)]
theorem sc_bars_of : C8.scC d_bars_of.N d_bars_of.ps d_bars_of.scope = true := by decide +kernel
theorem ag_bars_of : agSs ⟨d_bars_of.N, d_bars_of.scope, none, NS⟩ B_bars_of d_bars_of.body = true := by kernel_rfl
theorem good_bars_of (k : Nat) (h : 1 ≤ k) : GoodF DS GL k 19 F_bars_of := by
  obtain ⟨k, rfl⟩ : ∃ j, k = j + 1 := ⟨k - 1, by omega⟩
  refine ⟨d_bars_of, rfl, rfl, rfl, sc_bars_of, ag_bars_of, ?_⟩
  simp only [B_bars_of, KnSs, KnS, KnE, KnEs, KnT, KnTs, KnIt, KnTg, KnTgs, and_true, true_and, and_true]
theorem sc_missing_bars : C8.scC d_missing_bars.N d_missing_bars.ps d_missing_bars.scope = true := by decide +kernel
theorem ag_missing_bars : agSs ⟨d_missing_bars.N, d_missing_bars.scope, none, NS⟩ B_missing_bars d_missing_bars.body = true := by kernel_rfl
theorem good_missing_bars (k : Nat) (h : 2 ≤ k) : GoodF DS GL k 20 F_missing_bars := by
  obtain ⟨k, rfl⟩ : ∃ j, k = j + 1 := ⟨k - 1, by omega⟩
  refine ⟨d_missing_bars, rfl, rfl, rfl, sc_missing_bars, ag_missing_bars, ?_⟩
  simp only [B_missing_bars, KnSs, KnS, KnE, KnEs, KnT, KnTs, KnIt, KnTg, KnTgs, and_true, true_and, good_glyphs_of k (by omega), good_bars_of k (by omega), tg_missing_bars_0, cd_missing_bars_0, el_missing_bars_0, tg_missing_bars_1, cd_missing_bars_1, el_missing_bars_1]
theorem sc_always_dark : C8.scC d_always_dark.N d_always_dark.ps d_always_dark.scope = true := by decide +kernel
theorem ag_always_dark : agSs ⟨d_always_dark.N, d_always_dark.scope, none, NS⟩ B_always_dark d_always_dark.body = true := by kernel_rfl
theorem good_always_dark (k : Nat) (h : 7 ≤ k) : GoodF DS GL k 21 F_always_dark := by
  obtain ⟨k, rfl⟩ : ∃ j, k = j + 1 := ⟨k - 1, by omega⟩
  refine ⟨d_always_dark, rfl, rfl, rfl, sc_always_dark, ag_always_dark, ?_⟩
  simp only [B_always_dark, KnSs, KnS, KnE, KnEs, KnT, KnTs, KnIt, KnTg, KnTgs, and_true, true_and, good_check_table k (by omega), good_missing_bars k (by omega)]
theorem sc_common_bars : C8.scC d_common_bars.N d_common_bars.ps d_common_bars.scope = true := by decide +kernel
theorem ag_common_bars : agSs ⟨d_common_bars.N, d_common_bars.scope, none, NS⟩ B_common_bars d_common_bars.body = true := by kernel_rfl
theorem good_common_bars (k : Nat) (h : 2 ≤ k) : GoodF DS GL k 22 F_common_bars := by
  obtain ⟨k, rfl⟩ : ∃ j, k = j + 1 := ⟨k - 1, by omega⟩
  refine ⟨d_common_bars, rfl, rfl, rfl, sc_common_bars, ag_common_bars, ?_⟩
  simp only [B_common_bars, KnSs, KnS, KnE, KnEs, KnT, KnTs, KnIt, KnTg, KnTgs, and_true, true_and, good_glyphs_of k (by omega), good_bars_of k (by omega), tg_common_bars_0, cd_common_bars_0, el_common_bars_0, tg_common_bars_1, cd_common_bars_1, el_common_bars_1]
theorem sc_always_lit : C8.scC d_always_lit.N d_always_lit.ps d_always_lit.scope = true := by decide +kernel
theorem ag_always_lit : agSs ⟨d_always_lit.N, d_always_lit.scope, none, NS⟩ B_always_lit d_always_lit.body = true := by kernel_rfl
theorem good_always_lit (k : Nat) (h : 7 ≤ k) : GoodF DS GL k 23 F_always_lit := by
  obtain ⟨k, rfl⟩ : ∃ j, k = j + 1 := ⟨k - 1, by omega⟩
  refine ⟨d_always_lit, rfl, rfl, rfl, sc_always_lit, ag_always_lit, ?_⟩
  simp only [B_always_lit, KnSs, KnS, KnE, KnEs, KnT, KnTs, KnIt, KnTg, KnTgs, and_true, true_and, good_check_table k (by omega), good_common_bars k (by omega)]
theorem sc__law_right : C8.scC d__law_right.N d__law_right.ps d__law_right.scope = true := by decide +kernel
theorem ag__law_right : agSs ⟨d__law_right.N, d__law_right.scope, none, NS⟩ B__law_right d__law_right.body = true := by kernel_rfl
theorem good__law_right (k : Nat) (h : 13 ≤ k) : GoodF DS GL k 24 F__law_right := by
  obtain ⟨k, rfl⟩ : ∃ j, k = j + 1 := ⟨k - 1, by omega⟩
  refine ⟨d__law_right, rfl, rfl, rfl, sc__law_right, ag__law_right, ?_⟩
  simp only [B__law_right, KnSs, KnS, KnE, KnEs, KnT, KnTs, KnIt, KnTg, KnTgs, and_true, true_and, good__law_table k (by omega), good__law_lot k (by omega), good__law_same 12 k (by omega), good_digit_of k (by omega), good_always_lit k (by omega), good_always_dark k (by omega), tg__law_right_0, cd__law_right_0, el__law_right_0, tg__law_right_1, cd__law_right_1, el__law_right_1, tg__law_right_2, cd__law_right_2, el__law_right_2, tg__law_right_3, cd__law_right_3, el__law_right_3, ft__law_right_4, fb__law_right_4, tg__law_right_5, cd__law_right_5, el__law_right_5, tg__law_right_6, cd__law_right_6, el__law_right_6, tg__law_right_7, cd__law_right_7, el__law_right_7, tg__law_right_8, cd__law_right_8, el__law_right_8, ft__law_right_9, fb__law_right_9, kw_digit_of_0, kw_always_lit_0, kw_always_dark_0]
theorem sc__law_pool : C8.scC d__law_pool.N d__law_pool.ps d__law_pool.scope = true := by decide +kernel
theorem ag__law_pool : agSs ⟨d__law_pool.N, d__law_pool.scope, none, NS⟩ B__law_pool d__law_pool.body = true := by kernel_rfl
theorem good__law_pool (k : Nat) (h : 1 ≤ k) : GoodF DS GL k 25 F__law_pool := by
  obtain ⟨k, rfl⟩ : ∃ j, k = j + 1 := ⟨k - 1, by omega⟩
  refine ⟨d__law_pool, rfl, rfl, rfl, sc__law_pool, ag__law_pool, ?_⟩
  simp only [B__law_pool, KnSs, KnS, KnE, KnEs, KnT, KnTs, KnIt, KnTg, KnTgs, and_true, true_and, ft__law_pool_0, fb__law_pool_0]
theorem sc_law : C8.scC d_law.N d_law.ps d_law.scope = true := by decide +kernel
theorem ag_law : agSs ⟨d_law.N, d_law.scope, none, NS⟩ B_law d_law.body = true := by kernel_rfl
theorem good_law (k : Nat) (h : 14 ≤ k) : GoodF DS GL k 26 F_law := by
  obtain ⟨k, rfl⟩ : ∃ j, k = j + 1 := ⟨k - 1, by omega⟩
  refine ⟨d_law, rfl, rfl, rfl, sc_law, ag_law, ?_⟩
  simp only [B_law, KnSs, KnS, KnE, KnEs, KnT, KnTs, KnIt, KnTg, KnTgs, and_true, true_and, good__law_right k (by omega), good__law_pool k (by omega), tg_law_0, cd_law_0, el_law_0]
def mkD (x : Str) (st : Stmt) (dv : List He.Dv) : He.DefD := ⟨(x, none), x, x, defArgs st, defBody st, defScope st, dv, []⟩
def hfn : List He.DefD := [mkD "_law_same" (top 36) [], mkD "_law_below" (top 32) [], mkD "_law_lot" (top 33) [], mkD "_law_order" (top 35) [], mkD "_law_table" (top 34) [], mkD "is_tuple_up_to" (top 8) [], mkD "are_unlike" (top 12) [], mkD "is_tuple_of" (top 9) [], mkD "is_pair" (top 10) [], mkD "is_whole" (top 5) [], mkD "is_between" (top 6) [], mkD "are_rising" (top 11) [], mkD "is_up_to" (top 7) [], mkD "is_lot_of" (top 17) [], mkD "is_table_of" (top 18) [], mkD "check_table" (top 19) [], mkD "glyphs_of" (top 22) [], mkD "digit_by" (top 23) [], mkD "digit_of" (top 27) [], mkD "bars_of" (top 21) [], mkD "missing_bars" (top 25) [], mkD "always_dark" (top 29) [], mkD "common_bars" (top 24) [], mkD "always_lit" (top 28) [], mkD "_law_right" (top 37) [], mkD "_law_pool" (top 31) [], mkD "law" (top 38) []]
def hfa : List He.Fa := [.glo "_law_same", .glo "_law_below", .glo "_law_lot", .glo "_law_order", .glo "_law_table", .glo "is_tuple_up_to", .glo "are_unlike", .glo "is_tuple_of", .glo "is_pair", .glo "is_whole", .glo "is_between", .glo "are_rising", .glo "is_up_to", .glo "is_lot_of", .glo "is_table_of", .glo "check_table", .glo "glyphs_of", .glo "digit_by", .glo "digit_of", .glo "bars_of", .glo "missing_bars", .glo "always_dark", .glo "common_bars", .glo "always_lit", .glo "_law_right", .glo "_law_pool", .glo "law", .free "len", .free "all", .free "any", .free "int", .free "abs", .free "min", .free "max", .free "tuple", .free "list", .free "range", .free "enumerate", .free "zip", .free "isinstance", .free "bool", .free "str", .free "dict", .free "divmod", .int "MOST_BARS" 12, .int "LEAST_GLYPHS" 2, .int "MOST_GLYPHS" 16]
abbrev R : PySem.W.OpenRow := PySem.W.OpenLaw.row PySem.Challenge.rw_darkbars_k04_whole_digits_of_glyphs_and
abbrev hk : PySem.W.Hook := He.hookD 4 hfa hfn
def ob (s : PySem.W.SharedT) : He.AlD := He.obsDG 4 hfa hfn (HandSHeadRun.getT s)
theorem ob_eq (s : PySem.W.SharedT) : ob s = hk.obs s.abs := He.obsDG_eq (HandSHeadRun.getT_eq s)
def loose0 : List Str := ["BarError", "InvalidTable", "InvalidLook", "is_whole", "is_between", "is_up_to", "is_tuple_up_to", "is_tuple_of", "is_pair", "are_rising", "are_unlike", "MOST_BARS", "LEAST_GLYPHS", "MOST_GLYPHS", "is_lot_of", "is_table_of", "check_table", "bars_of", "glyphs_of", "digit_by", "common_bars", "missing_bars", "digit_of", "always_lit"]
def loose1 : List Str := ["always_dark", "_law_pool", "_law_below", "_law_lot", "_law_table", "_law_order", "_law_same", "_law_right"]
def loose : List Str := loose0 ++ loose1
theorem run (w : World) : HandSHeadRun.RunEq R (PySem.W.view R.prog [38]) hk ob 20000 loose w := by
  intro os
  kernel_rfl
theorem wo {K : PySem.W.Frag} {h : Heap} {mg : Str → Option Value} (X : K.In h) (G : h.Ns mainGlobals mg) (c : He.SaysD hfa hfn K) : Wo K mg DS GL := by
  refine ⟨?_, ?_, ?_⟩
  · intro x hx
    simp only [freeNames, List.mem_cons, List.not_mem_nil, or_false] at hx
    rcases hx with rfl | rfl | rfl | rfl | rfl | rfl | rfl | rfl | rfl | rfl | rfl | rfl | rfl | rfl | rfl | rfl | rfl
    · exact He.free_ok X G (c.fact 27 (f := .free "len") rfl)
    · exact He.free_ok X G (c.fact 28 (f := .free "all") rfl)
    · exact He.free_ok X G (c.fact 29 (f := .free "any") rfl)
    · exact He.free_ok X G (c.fact 30 (f := .free "int") rfl)
    · exact He.free_ok X G (c.fact 31 (f := .free "abs") rfl)
    · exact He.free_ok X G (c.fact 32 (f := .free "min") rfl)
    · exact He.free_ok X G (c.fact 33 (f := .free "max") rfl)
    · exact He.free_ok X G (c.fact 34 (f := .free "tuple") rfl)
    · exact He.free_ok X G (c.fact 35 (f := .free "list") rfl)
    · exact He.free_ok X G (c.fact 36 (f := .free "range") rfl)
    · exact He.free_ok X G (c.fact 37 (f := .free "enumerate") rfl)
    · exact He.free_ok X G (c.fact 38 (f := .free "zip") rfl)
    · exact He.free_ok X G (c.fact 39 (f := .free "isinstance") rfl)
    · exact He.free_ok X G (c.fact 40 (f := .free "bool") rfl)
    · exact He.free_ok X G (c.fact 41 (f := .free "str") rfl)
    · exact He.free_ok X G (c.fact 42 (f := .free "dict") rfl)
    · exact He.free_ok X G (c.fact 43 (f := .free "divmod") rfl)
  · intro p hp
    simp only [GL, List.mem_cons, List.not_mem_nil, or_false] at hp
    rcases hp with rfl | rfl | rfl
    · obtain ⟨t, e⟩ := He.int_ok X G (c.fact 44 (f := .int "MOST_BARS" 12) rfl)
      exact ⟨_, .int 12, e, ⟨t, rfl⟩, fun F => .int _⟩
    · obtain ⟨t, e⟩ := He.int_ok X G (c.fact 45 (f := .int "LEAST_GLYPHS" 2) rfl)
      exact ⟨_, .int 2, e, ⟨t, rfl⟩, fun F => .int _⟩
    · obtain ⟨t, e⟩ := He.int_ok X G (c.fact 46 (f := .int "MOST_GLYPHS" 16) rfl)
      exact ⟨_, .int 16, e, ⟨t, rfl⟩, fun F => .int _⟩
  · intro d hd
    simp only [DS, List.mem_cons, List.not_mem_nil, or_false] at hd
    rcases hd with rfl | rfl | rfl | rfl | rfl | rfl | rfl | rfl | rfl | rfl | rfl | rfl | rfl | rfl | rfl | rfl | rfl | rfl | rfl | rfl | rfl | rfl | rfl | rfl | rfl | rfl | rfl
    · obtain ⟨fd, FD⟩ := c.def_ 0 (d := mkD "_law_same" (top 36) []) rfl
      refine ⟨_, fd, [], [], He.glo_ok X G (c.fact 0 (f := .glo "_law_same") rfl), FD, FunD.bindsN FD fun _ _ _ _ _ _ us hl => match us, hl with | [_, _], _ => rfl, fun z => absurd z (by decide +kernel), fun q hq => ?_⟩
      cases hq
    · obtain ⟨fd, FD⟩ := c.def_ 1 (d := mkD "_law_below" (top 32) []) rfl
      refine ⟨_, fd, [], [], He.glo_ok X G (c.fact 1 (f := .glo "_law_below") rfl), FD, FunD.bindsN FD fun _ _ _ _ _ _ us hl => match us, hl with | [_, _], _ => rfl, fun z => absurd z (by decide +kernel), fun q hq => ?_⟩
      cases hq
    · obtain ⟨fd, FD⟩ := c.def_ 2 (d := mkD "_law_lot" (top 33) []) rfl
      refine ⟨_, fd, [], [], He.glo_ok X G (c.fact 2 (f := .glo "_law_lot") rfl), FD, FunD.bindsN FD fun _ _ _ _ _ _ us hl => match us, hl with | [_, _], _ => rfl, fun z => absurd z (by decide +kernel), fun q hq => ?_⟩
      cases hq
    · obtain ⟨fd, FD⟩ := c.def_ 3 (d := mkD "_law_order" (top 35) []) rfl
      refine ⟨_, fd, [], [], He.glo_ok X G (c.fact 3 (f := .glo "_law_order") rfl), FD, FunD.bindsN FD fun _ _ _ _ _ _ us hl => match us, hl with | [_, _], _ => rfl, fun z => absurd z (by decide +kernel), fun q hq => ?_⟩
      cases hq
    · obtain ⟨fd, FD⟩ := c.def_ 4 (d := mkD "_law_table" (top 34) []) rfl
      refine ⟨_, fd, [], [], He.glo_ok X G (c.fact 4 (f := .glo "_law_table") rfl), FD, FunD.bindsN FD fun _ _ _ _ _ _ us hl => match us, hl with | [_, _, _], _ => rfl, fun z => absurd z (by decide +kernel), fun q hq => ?_⟩
      cases hq
    · obtain ⟨fd, FD⟩ := c.def_ 5 (d := mkD "is_tuple_up_to" (top 8) []) rfl
      refine ⟨_, fd, [], [], He.glo_ok X G (c.fact 5 (f := .glo "is_tuple_up_to") rfl), FD, FunD.bindsN FD fun _ _ _ _ _ _ us hl => match us, hl with | [_, _, _], _ => rfl, fun z => absurd z (by decide +kernel), fun q hq => ?_⟩
      cases hq
    · obtain ⟨fd, FD⟩ := c.def_ 6 (d := mkD "are_unlike" (top 12) []) rfl
      refine ⟨_, fd, [], [], He.glo_ok X G (c.fact 6 (f := .glo "are_unlike") rfl), FD, FunD.bindsN FD fun _ _ _ _ _ _ us hl => match us, hl with | [_], _ => rfl, fun z => absurd z (by decide +kernel), fun q hq => ?_⟩
      cases hq
    · obtain ⟨fd, FD⟩ := c.def_ 7 (d := mkD "is_tuple_of" (top 9) []) rfl
      refine ⟨_, fd, [], [], He.glo_ok X G (c.fact 7 (f := .glo "is_tuple_of") rfl), FD, FunD.bindsN FD fun _ _ _ _ _ _ us hl => match us, hl with | [_, _], _ => rfl, fun z => absurd z (by decide +kernel), fun q hq => ?_⟩
      cases hq
    · obtain ⟨fd, FD⟩ := c.def_ 8 (d := mkD "is_pair" (top 10) []) rfl
      refine ⟨_, fd, [], [], He.glo_ok X G (c.fact 8 (f := .glo "is_pair") rfl), FD, FunD.bindsN FD fun _ _ _ _ _ _ us hl => match us, hl with | [_], _ => rfl, fun z => absurd z (by decide +kernel), fun q hq => ?_⟩
      cases hq
    · obtain ⟨fd, FD⟩ := c.def_ 9 (d := mkD "is_whole" (top 5) []) rfl
      refine ⟨_, fd, [], [], He.glo_ok X G (c.fact 9 (f := .glo "is_whole") rfl), FD, FunD.bindsN FD fun _ _ _ _ _ _ us hl => match us, hl with | [_], _ => rfl, fun z => absurd z (by decide +kernel), fun q hq => ?_⟩
      cases hq
    · obtain ⟨fd, FD⟩ := c.def_ 10 (d := mkD "is_between" (top 6) []) rfl
      refine ⟨_, fd, [], [], He.glo_ok X G (c.fact 10 (f := .glo "is_between") rfl), FD, FunD.bindsN FD fun _ _ _ _ _ _ us hl => match us, hl with | [_, _, _], _ => rfl, fun z => absurd z (by decide +kernel), fun q hq => ?_⟩
      cases hq
    · obtain ⟨fd, FD⟩ := c.def_ 11 (d := mkD "are_rising" (top 11) []) rfl
      refine ⟨_, fd, [], [], He.glo_ok X G (c.fact 11 (f := .glo "are_rising") rfl), FD, FunD.bindsN FD fun _ _ _ _ _ _ us hl => match us, hl with | [_], _ => rfl, fun z => absurd z (by decide +kernel), fun q hq => ?_⟩
      cases hq
    · obtain ⟨fd, FD⟩ := c.def_ 12 (d := mkD "is_up_to" (top 7) []) rfl
      refine ⟨_, fd, [], [], He.glo_ok X G (c.fact 12 (f := .glo "is_up_to") rfl), FD, FunD.bindsN FD fun _ _ _ _ _ _ us hl => match us, hl with | [_, _], _ => rfl, fun z => absurd z (by decide +kernel), fun q hq => ?_⟩
      cases hq
    · obtain ⟨fd, FD⟩ := c.def_ 13 (d := mkD "is_lot_of" (top 17) []) rfl
      refine ⟨_, fd, [], [], He.glo_ok X G (c.fact 13 (f := .glo "is_lot_of") rfl), FD, FunD.bindsN FD fun _ _ _ _ _ _ us hl => match us, hl with | [_, _], _ => rfl, fun z => absurd z (by decide +kernel), fun q hq => ?_⟩
      cases hq
    · obtain ⟨fd, FD⟩ := c.def_ 14 (d := mkD "is_table_of" (top 18) []) rfl
      refine ⟨_, fd, [], [], He.glo_ok X G (c.fact 14 (f := .glo "is_table_of") rfl), FD, FunD.bindsN FD fun _ _ _ _ _ _ us hl => match us, hl with | [_], _ => rfl, fun z => absurd z (by decide +kernel), fun q hq => ?_⟩
      cases hq
    · obtain ⟨fd, FD⟩ := c.def_ 15 (d := mkD "check_table" (top 19) []) rfl
      refine ⟨_, fd, [], [], He.glo_ok X G (c.fact 15 (f := .glo "check_table") rfl), FD, FunD.bindsN FD fun _ _ _ _ _ _ us hl => match us, hl with | [_], _ => rfl, fun z => absurd z (by decide +kernel), fun q hq => ?_⟩
      cases hq
    · obtain ⟨fd, FD⟩ := c.def_ 16 (d := mkD "glyphs_of" (top 22) []) rfl
      refine ⟨_, fd, [], [], He.glo_ok X G (c.fact 16 (f := .glo "glyphs_of") rfl), FD, FunD.bindsN FD fun _ _ _ _ _ _ us hl => match us, hl with | [_], _ => rfl, fun z => absurd z (by decide +kernel), fun q hq => ?_⟩
      cases hq
    · obtain ⟨fd, FD⟩ := c.def_ 17 (d := mkD "digit_by" (top 23) []) rfl
      refine ⟨_, fd, [], [], He.glo_ok X G (c.fact 17 (f := .glo "digit_by") rfl), FD, FunD.bindsN FD fun _ _ _ _ _ _ us hl => match us, hl with | [_, _], _ => rfl, fun z => absurd z (by decide +kernel), fun q hq => ?_⟩
      cases hq
    · obtain ⟨fd, FD⟩ := c.def_ 18 (d := mkD "digit_of" (top 27) []) rfl
      refine ⟨_, fd, [], [], He.glo_ok X G (c.fact 18 (f := .glo "digit_of") rfl), FD, FunD.bindsN FD fun _ _ _ _ _ _ us hl => match us, hl with | [_, _], _ => rfl, fun z => absurd z (by decide +kernel), fun q hq => ?_⟩
      simp only [d_digit_of, List.mem_cons, List.not_mem_nil, or_false] at hq
      subst hq
      exact kbn_simple FD 0 ["glyph", "table"] [1, 0] fun _ _ _ _ _ _ us ws l1 l2 => match us, ws, l1, l2 with | [], [_, _], _, _ => rfl
    · obtain ⟨fd, FD⟩ := c.def_ 19 (d := mkD "bars_of" (top 21) []) rfl
      refine ⟨_, fd, [], [], He.glo_ok X G (c.fact 19 (f := .glo "bars_of") rfl), FD, FunD.bindsN FD fun _ _ _ _ _ _ us hl => match us, hl with | [_], _ => rfl, fun z => absurd z (by decide +kernel), fun q hq => ?_⟩
      cases hq
    · obtain ⟨fd, FD⟩ := c.def_ 20 (d := mkD "missing_bars" (top 25) []) rfl
      refine ⟨_, fd, [], [], He.glo_ok X G (c.fact 20 (f := .glo "missing_bars") rfl), FD, FunD.bindsN FD fun _ _ _ _ _ _ us hl => match us, hl with | [_], _ => rfl, fun z => absurd z (by decide +kernel), fun q hq => ?_⟩
      cases hq
    · obtain ⟨fd, FD⟩ := c.def_ 21 (d := mkD "always_dark" (top 29) []) rfl
      refine ⟨_, fd, [], [], He.glo_ok X G (c.fact 21 (f := .glo "always_dark") rfl), FD, FunD.bindsN FD fun _ _ _ _ _ _ us hl => match us, hl with | [_], _ => rfl, fun z => absurd z (by decide +kernel), fun q hq => ?_⟩
      simp only [d_always_dark, List.mem_cons, List.not_mem_nil, or_false] at hq
      subst hq
      exact kbn_simple FD 0 ["table"] [0] fun _ _ _ _ _ _ us ws l1 l2 => match us, ws, l1, l2 with | [], [_], _, _ => rfl
    · obtain ⟨fd, FD⟩ := c.def_ 22 (d := mkD "common_bars" (top 24) []) rfl
      refine ⟨_, fd, [], [], He.glo_ok X G (c.fact 22 (f := .glo "common_bars") rfl), FD, FunD.bindsN FD fun _ _ _ _ _ _ us hl => match us, hl with | [_], _ => rfl, fun z => absurd z (by decide +kernel), fun q hq => ?_⟩
      cases hq
    · obtain ⟨fd, FD⟩ := c.def_ 23 (d := mkD "always_lit" (top 28) []) rfl
      refine ⟨_, fd, [], [], He.glo_ok X G (c.fact 23 (f := .glo "always_lit") rfl), FD, FunD.bindsN FD fun _ _ _ _ _ _ us hl => match us, hl with | [_], _ => rfl, fun z => absurd z (by decide +kernel), fun q hq => ?_⟩
      simp only [d_always_lit, List.mem_cons, List.not_mem_nil, or_false] at hq
      subst hq
      exact kbn_simple FD 0 ["table"] [0] fun _ _ _ _ _ _ us ws l1 l2 => match us, ws, l1, l2 with | [], [_], _, _ => rfl
    · obtain ⟨fd, FD⟩ := c.def_ 24 (d := mkD "_law_right" (top 37) []) rfl
      refine ⟨_, fd, [], [], He.glo_ok X G (c.fact 24 (f := .glo "_law_right") rfl), FD, FunD.bindsN FD fun _ _ _ _ _ _ us hl => match us, hl with | [_], _ => rfl, fun z => absurd z (by decide +kernel), fun q hq => ?_⟩
      cases hq
    · obtain ⟨fd, FD⟩ := c.def_ 25 (d := mkD "_law_pool" (top 31) []) rfl
      refine ⟨_, fd, [], [], He.glo_ok X G (c.fact 25 (f := .glo "_law_pool") rfl), FD, FunD.bindsN FD fun _ _ _ _ _ _ us hl => match us, hl with | [_, _], _ => rfl, fun z => absurd z (by decide +kernel), fun q hq => ?_⟩
      cases hq
    · obtain ⟨fd, FD⟩ := c.def_ 26 (d := mkD "law" (top 38) []) rfl
      refine ⟨_, fd, [], [], He.glo_ok X G (c.fact 26 (f := .glo "law") rfl), FD, FunD.bindsN FD fun _ _ _ _ _ _ us hl => match us, hl with | [_], _ => rfl, fun _ s us hl => FunD.bindsA FD (fun _ _ _ _ _ _ us hl => match us, hl with | [_], _ => rfl) s us hl, fun q hq => ?_⟩
      cases hq
end K04
open PySem PySem.W PySem.Calls PyProof.Rows
theorem K04.fin (plain : ∀ ns : List Int, ns.length ≤ 63 → ∃ st', DB.runFn K04.F_law [.dat (.scr (ns.map DB.D.int))] [] = .ok (.dat (.bl true)) st') : PySem.Challenge.rw_darkbars_k04_whole_digits_of_glyphs_and.Holds := by
  w_on; o_law
  refine HandSHeadRun.head_any (r := OpenLaw.row PySem.Challenge.rw_darkbars_k04_whole_digits_of_glyphs_and) (q := view (OpenLaw.row PySem.Challenge.rw_darkbars_k04_whole_digits_of_glyphs_and).prog [38]) (H := K04.hk) (ob := K04.ob) (M := 20000) (loose := K04.loose) (d := HandSHeadRun.topDef (OpenLaw.row PySem.Challenge.rw_darkbars_k04_whole_digits_of_glyphs_and).prog 38) (kwd := []) K04.ob_eq
    (by kernel_rfl) (fun s => by kernel_rfl) K04.run (by kernel_rfl) (by kernel_rfl) (by kernel_rfl) (by rfl) (by first | assumption | decide +kernel) (by decide +kernel) ⟨rfl, rfl, rfl, rfl, rfl, by decide +kernel⟩ ?hw ?hc
  case hw => w_witness2
  case hc =>
    refine L2.walk_ofE (l := PySem.Challenge.rw_darkbars_k04_whole_digits_of_glyphs_and) (n := 63) (k := 14) (x := "script") (CX := L2.CX0) rfl (by decide) (by kernel_rfl) ⟨rfl, by decide, by decide⟩ ?F (fun _ _ _ _ z => z)
    intro w mg fa h Y G hmg0
    obtain ⟨K, KX, c⟩ := Y
    have hmg : mg ("law" : PySem.Str) = some (.ref fa) := by
      have e : (HandSHeadRun.topDef (OpenLaw.row PySem.Challenge.rw_darkbars_k04_whole_digits_of_glyphs_and).prog 38).name = ("law" : PySem.Str) := by kernel_rfl
      rw [← e]
      exact hmg0
    obtain ⟨fd, hb, hF⟩ := DB.law_of (P := (PySem.Challenge.rw_darkbars_k04_whole_digits_of_glyphs_and).prog) (w := w) (K04.wo KX G c) (id := 26) (d := K04.d_law) rfl rfl rfl hmg (K04.good_law 14 (Nat.le_refl _))
    exact ⟨K, fd, DB.spF K K04.F_law, KX, fun s v => hb s v, fun H a ns hl _ hS => DB.law_sp plain (by decide) H a ns hl hS, fun base _ _ => hF base⟩
theorem PySem.Challenge.cw_darkbars_k04_whole_digits_of_glyphs_and_holds : PySem.Challenge.rw_darkbars_k04_whole_digits_of_glyphs_and.Holds := by
  exact K04.fin K04.law
