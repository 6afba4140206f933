import PyProof.Rows.All
import Wide.All
import OpenK.AllK
import Wide.FinOn
import HandS.ForMost
import HandS.Exc
import HandS.Defaults
import PyProof.ReprReads
import HandS.SortInts
import HandS.TupMul
import HandS.TupAny
import HandS.Deep
import HandS.IsInst
import HandS.WideBits
import HandS.WordsDict
import HandS.Conv
import HandS.Zip
import KE.GoesMore
import PyProof.ReprRoads
import HandS.RaiseMore
import HandS.SetBool
import HandS.TupSets
import HandS.More
import HandS.Star
import HandS.Style
import HandS.SetFor
import HandS.Strs
import HandS.Codes
import HandS.HeadEnd
import HandS.WordsExc
import HandS.Head0
import HandS.Head1
import HandS.Head2
import HandS.HeadHook1
import HandS.HeadHook2
import HandS.HeadHook4
import PySem.Challenge.RW_darkbars_k06_whole_displays_of_anything
set_option Elab.async false
set_option linter.all false
set_option maxRecDepth 100000
section
set_option maxHeartbeats 0
namespace K06
open PySem PySem.Spec PyProof.Rows L2
def top (i : Nat) : Stmt := PySem.Challenge.pw_darkbars_k06_whole_displays_of_anything.main.body.getD i (.Pass ⟨0, 0, 0, 0⟩)
def mkD (x : Str) (st : Stmt) (dv : List He.Dv) : He.DefD := ⟨(x, none), x, x, defArgs st, defBody st, defScope st, dv, []⟩
def mkA (a x : Str) (st : Stmt) (dv : List He.Dv) : He.DefD := ⟨(a, none), x, x, defArgs st, defBody st, defScope st, dv, []⟩
def hfn : List He.DefD := [mkD "_law_below" (top 31) [], mkD "_law_lot" (top 33) [], mkD "_law_order" (top 35) [], mkD "_law_table" (top 34) [], mkD "_law_display" (top 36) [], mkD "power" (top 20) [], mkD "reach_of" (top 21) [], mkD "is_tuple_up_to" (top 7) [], mkD "is_tuple_of" (top 8) [], mkD "is_pair" (top 9) [], mkD "are_unlike" (top 11) [], mkD "is_whole" (top 4) [], mkD "is_between" (top 5) [], mkD "are_rising" (top 10) [], mkD "is_up_to" (top 6) [], mkD "is_lot_of" (top 18) [], mkD "is_table_of" (top 19) [], mkD "is_display_of" (top 22) [], mkD "check_display" (top 23) [], mkD "reach_by" (top 25) [], mkD "reach" (top 28) [], mkD "_law_same" (top 44) [], mkD "is_display" (top 27) [], mkD "_law_reach" (top 37) [], mkD "_law_one" (top 32) [], mkD "_law_thing" (top 43) [], mkD "_law_bent_tables" (top 42) [], mkD "_law_is_number" (top 38) [], mkD "_law_is_lot" (top 39) [], mkD "_law_is_table" (top 40) [], mkD "_law_is_display" (top 41) [], mkD "_law_right" (top 45) [], mkD "_law_pool" (top 30) [], mkD "law" (top 46) []]
def hfa : List He.Fa := [.glo "_law_below", .glo "_law_lot", .glo "_law_order", .glo "_law_table", .glo "_law_display", .glo "power", .glo "reach_of", .glo "is_tuple_up_to", .glo "is_tuple_of", .glo "is_pair", .glo "are_unlike", .glo "is_whole", .glo "is_between", .glo "are_rising", .glo "is_up_to", .glo "is_lot_of", .glo "is_table_of", .glo "is_display_of", .glo "check_display", .glo "reach_by", .glo "reach", .glo "_law_same", .glo "is_display", .glo "_law_reach", .glo "_law_one", .glo "_law_thing", .glo "_law_bent_tables", .glo "_law_is_number", .glo "_law_is_lot", .glo "_law_is_table", .glo "_law_is_display", .glo "_law_right", .glo "_law_pool", .glo "law", .free "len", .free "all", .free "any", .free "int", .free "abs", .free "min", .free "max", .free "tuple", .free "list", .free "range", .free "enumerate", .free "zip", .free "isinstance", .free "bool", .free "str", .free "dict", .free "divmod", .free "sorted", .free "sum", .free "set", .free "repr", .int "MOST_BARS" 12, .int "LEAST_GLYPHS" 2, .int "MOST_GLYPHS" 16, .int "MOST_PLACES" 4, .int "MOST_REACH" 4096]
abbrev HR : PySem.W.OpenRow := PySem.W.OpenLaw.row PySem.Challenge.rw_darkbars_k06_whole_displays_of_anything
abbrev hk : PySem.W.Hook := He.hookD 4 hfa hfn
def ob (s : PySem.W.SharedT) : He.AlD := He.obsDG 4 hfa hfn (HandSHeadRun.getT s)
theorem ob_eq (s : PySem.W.SharedT) : ob s = hk.obs s.abs := He.obsDG_eq (HandSHeadRun.getT_eq s)
def loose0 : List Str := ["BarError", "InvalidDisplay", "is_whole", "is_between", "is_up_to", "is_tuple_up_to", "is_tuple_of", "is_pair", "are_rising", "are_unlike", "MOST_BARS", "LEAST_GLYPHS", "MOST_GLYPHS", "MOST_PLACES", "MOST_REACH", "is_lot_of", "is_table_of", "power", "reach_of", "is_display_of", "check_display", "reach_by", "is_display", "reach"]
def loose1 : List Str := ["_law_pool", "_law_below", "_law_one", "_law_lot", "_law_table", "_law_order", "_law_display", "_law_reach", "_law_is_number", "_law_is_lot", "_law_is_table", "_law_is_display", "_law_bent_tables", "_law_thing", "_law_same", "_law_right"]
def loose : List Str := loose0 ++ loose1
theorem run (w : World) : HandSHeadRun.RunEq HR (PySem.W.view HR.prog [46]) hk ob 20000 loose w := by
  intro os
  kernel_rfl
end K06
end
namespace DB
open PySem

/-! ### data -/
/-- what a value is, without addresses: data that never changes -/
inductive D where
  | non | bl (b : Bool) | int (i : Int) | str (s : Str)
  | tup (xs : List D) | lst (xs : List D) | scr (xs : List D) | dct (ks vs : List D) | obj (c : Nat) (fs : List D) | fn (id : Nat) | itr (xs : List D)

mutual
def D.toP : D → Option PyData
  | .non => some .none
  | .bl b => some (.bool b)
  | .int i => some (.int i)
  | .str s => some (.str s)
  | .tup xs => match D.toPs xs with | some ps => some (.tuple ps) | none => none
  | .lst xs => match D.toPs xs with | some ps => some (.list ps) | none => none
  | .scr _ => none
  | .dct _ _ => none
  | .obj _ _ => none
  | .fn _ => none
  | .itr _ => none
def D.toPs : List D → Option (List PyData)
  | [] => some []
  | d :: ds => match D.toP d, D.toPs ds with | some p, some ps => some (p :: ps) | _, _ => none
end

mutual
def D.beq : D → D → Bool
  | .non, .non => true
  | .bl a, .bl b => a == b
  | .int a, .int b => decide (a = b)
  | .str a, .str b => decide (a = b)
  | .tup a, .tup b => D.beqs a b
  | .lst a, .lst b => D.beqs a b
  | .scr a, .scr b => D.beqs a b
  | .dct a b, .dct c d => D.beqs a c && D.beqs b d
  | .obj c a, .obj d b => decide (c = d) && D.beqs a b
  | .fn a, .fn b => decide (a = b)
  | .itr a, .itr b => D.beqs a b
  | _, _ => false
def D.beqs : List D → List D → Bool
  | [], [] => true
  | a :: as, b :: bs => D.beq a b && D.beqs as bs
  | _, _ => false
end
mutual
theorem D.beq_rfl : ∀ a : D, D.beq a a = true
  | .non => rfl
  | .bl a => by show (a == a) = true; cases a <;> rfl
  | .int a => decide_eq_true rfl
  | .str a => decide_eq_true rfl
  | .tup a => D.beqs_rfl a
  | .lst a => D.beqs_rfl a
  | .scr a => D.beqs_rfl a
  | .dct a b => by show (D.beqs a a && D.beqs b b) = true; rw [D.beqs_rfl a, D.beqs_rfl b]; rfl
  | .obj c a => by show (decide (c = c) && D.beqs a a) = true; rw [D.beqs_rfl a, decide_eq_true rfl]; rfl
  | .fn a => decide_eq_true rfl
  | .itr a => D.beqs_rfl a
theorem D.beqs_rfl : ∀ a : List D, D.beqs a a = true
  | [] => rfl
  | a :: as => by show (D.beq a a && D.beqs as as) = true; rw [D.beq_rfl a, D.beqs_rfl as]; rfl
end
mutual
theorem D.beq_eq : ∀ {a b : D}, D.beq a b = true → a = b
  | .non, b, h => by cases b <;> first | rfl | exact absurd h Bool.false_ne_true
  | .bl a, b, h => by
    cases b with
    | bl b => exact congrArg D.bl (eq_of_beq h)
    | _ => exact absurd h Bool.false_ne_true
  | .int a, b, h => by
    cases b with
    | int b => exact congrArg D.int (of_decide_eq_true h)
    | _ => exact absurd h Bool.false_ne_true
  | .str a, b, h => by
    cases b with
    | str b => exact congrArg D.str (of_decide_eq_true h)
    | _ => exact absurd h Bool.false_ne_true
  | .tup a, b, h => by
    cases b with
    | tup b => exact congrArg D.tup (D.beqs_eq h)
    | _ => exact absurd h Bool.false_ne_true
  | .lst a, b, h => by
    cases b with
    | lst b => exact congrArg D.lst (D.beqs_eq h)
    | _ => exact absurd h Bool.false_ne_true
  | .scr a, b, h => by
    cases b with
    | scr b => exact congrArg D.scr (D.beqs_eq h)
    | _ => exact absurd h Bool.false_ne_true
  | .dct a c, b, h => by
    cases b with
    | dct b d =>
      have h := Bool.and_eq_true_iff.mp (show (D.beqs a b && D.beqs c d) = true from h)
      rw [D.beqs_eq h.1, D.beqs_eq h.2]
    | _ => exact absurd h Bool.false_ne_true
  | .obj a c, b, h => by
    cases b with
    | obj b d =>
      have h := Bool.and_eq_true_iff.mp (show (decide (a = b) && D.beqs c d) = true from h)
      rw [of_decide_eq_true h.1, D.beqs_eq h.2]
    | _ => exact absurd h Bool.false_ne_true
  | .fn a, b, h => by
    cases b with
    | fn b => exact congrArg D.fn (of_decide_eq_true h)
    | _ => exact absurd h Bool.false_ne_true
  | .itr a, b, h => by
    cases b with
    | itr b => exact congrArg D.itr (D.beqs_eq h)
    | _ => exact absurd h Bool.false_ne_true
theorem D.beqs_eq : ∀ {a b : List D}, D.beqs a b = true → a = b
  | [], b, h => by
    cases b with
    | nil => rfl
    | cons _ _ => exact absurd h Bool.false_ne_true
  | a :: as, b, h => by
    cases b with
    | nil => exact absurd h Bool.false_ne_true
    | cons b bs =>
      have h := Bool.and_eq_true_iff.mp (show (D.beq a b && D.beqs as bs) = true from h)
      rw [D.beq_eq h.1, D.beqs_eq h.2]
end
/-- == of data, where the model's rule serves it -/
def deq (a b : D) : Option Bool :=
  match a.toP, b.toP with
  | some p, some q => if (SeqAt.shaped p && SeqAt.shaped q) = true then some (PyData.eqv p q) else none
  | _, _ => none
/-- x in xs -/
def din (x : D) (xs : List D) : Option Bool :=
  match x.toP, D.toPs xs with
  | some p, some qs => if (SeqAt.shaped p && SeqAt.shaped (.list qs)) = true then some (qs.any fun q => PyData.eqv q p) else none
  | _, _ => none

/-! ### the monad -/
/-- what an expression hands back: data; a new list or dict that nobody else knows; a cell that may change -/
inductive R where
  | dat (d : D) | own (d : D) | cell (c : Nat)
structure Cel where
  d : D
  live : Bool
abbrev Sto := List Cel
abbrev Env := List (Option R)
inductive Res (α : Type) where
  | ok (a : α) (s : Sto)
  | err (c : Nat) (d : D) (s : Sto)
  | no
abbrev M (α : Type) : Type := Sto → Res α
def Res.bind {α β : Type} (r : Res α) (f : α → Sto → Res β) : Res β := match r with
  | .ok a s => f a s
  | .err c d s => .err c d s
  | .no => .no
namespace M
def pure {α : Type} (a : α) : M α := fun s => .ok a s
def bind {α β : Type} (m : M α) (f : α → M β) : M β := fun s => (m s).bind f
def no {α : Type} : M α := fun _ => .no
def get : M Sto := fun s => .ok s s
def put (s : Sto) : M Unit := fun _ => .ok () s
def opt {α : Type} : Option α → M α
  | some a => M.pure a
  | none => M.no
def guard (b : Bool) : M Unit := fun s => match b with
  | true => .ok () s
  | false => .no
end M
instance : Monad M where
  pure := M.pure
  bind := M.bind

def Sto.beq : Sto → Sto → Bool
  | [], [] => true
  | ⟨d, l⟩ :: s, ⟨e, m⟩ :: t => (D.beq d e && (l == m)) && Sto.beq s t
  | _, _ => false
theorem Sto.beq_rfl : ∀ s : Sto, Sto.beq s s = true
  | [] => rfl
  | ⟨d, l⟩ :: s => by show ((D.beq d d && (l == l)) && Sto.beq s s) = true; rw [D.beq_rfl, Sto.beq_rfl s]; cases l <;> rfl
theorem Sto.beq_eq : ∀ {s t : Sto}, Sto.beq s t = true → s = t
  | [], [], _ => rfl
  | [], _ :: _, h => absurd h Bool.false_ne_true
  | _ :: _, [], h => absurd h Bool.false_ne_true
  | ⟨d, l⟩ :: s, ⟨e, m⟩ :: t, h => by
    have h := Bool.and_eq_true_iff.mp (show ((D.beq d e && (l == m)) && Sto.beq s t) = true from h)
    have h1 := Bool.and_eq_true_iff.mp h.1
    rw [D.beq_eq h1.1, eq_of_beq h1.2, Sto.beq_eq h.2]
/-- a value, if the store stayed as it was -/
def keep {α : Type} (s : Sto) (r : Res α) : Option α := match r with
  | .ok a s' => match Sto.beq s' s with
    | true => some a
    | false => none
  | _ => none
def seqO {α : Type} : List (Option α) → Option (List α)
  | [] => some []
  | o :: os => match o with
    | none => none
    | some a => match seqO os with
      | none => none
      | some as => some (a :: as)
def optS {α : Type} (o : Option α) (s : Sto) : Res α := match o with
  | some a => .ok a s
  | none => .no
/-- item by item, nothing being changed -/
def mapP {α β : Type} (f : α → M β) (l : List α) : M (List β) := fun s => optS (seqO (l.map fun a => keep s (f a s))) s
/-- the content, read -/
def peek : R → M D
  | .dat d => pure d
  | .own d => pure d
  | .cell c => fun s => match s[c]? with
    | some ⟨d, _⟩ => .ok d s
    | none => .no
/-- handed on as data: a cell changes no more -/
def use : R → M D
  | .dat d => pure d
  | .own d => pure d
  | .cell c => fun s => match s[c]? with
    | some ⟨d, true⟩ => .ok d (s.set c ⟨d, false⟩)
    | some ⟨d, false⟩ => .ok d s
    | none => .no
/-- a live cell's content -/
def live : R → M (Nat × D)
  | .cell c => fun s => match s[c]? with
    | some ⟨d, true⟩ => .ok (c, d) s
    | _ => .no
  | _ => M.no
def lstG : D → M Unit
  | .lst _ => pure ()
  | _ => M.no
def write (c : Nat) (d : D) : M Unit := fun s => .ok () (s.set c ⟨d, true⟩)
def peeks : List R → M (List D)
  | [] => pure []
  | r :: rs => do let d ← peek r; let ds ← peeks rs; pure (d :: ds)
def uses : List R → M (List D)
  | [] => pure []
  | r :: rs => do let d ← use r; let ds ← uses rs; pure (d :: ds)

/-! ### dicts -/
/-- keys of dicts: ints and strings, or tuples of these -/
def keyF : D → Bool
  | .int _ => true
  | .str _ => true
  | _ => false
def keyT : D → Bool
  | .tup xs => xs.all keyF
  | _ => false
def keyOk (d : D) : Bool := keyF d
def dget : List D → List D → D → Option D
  | k :: ks, v :: vs, x => match D.beq k x with
    | true => some v
    | false => dget ks vs x
  | _, _, _ => none
def dputK : List D → D → List D
  | [], x => [x]
  | k :: ks, x => match D.beq k x with
    | true => k :: ks
    | false => k :: dputK ks x
def dputV : List D → List D → D → D → List D
  | k :: ks, v :: vs, x, y => match D.beq k x with
    | true => y :: vs
    | false => v :: dputV ks vs x y
  | _, _, _, y => [y]
def dctOf : List (D × D) → List D → List D → D
  | [], ks, vs => .dct ks vs
  | (k, v) :: r, ks, vs => dctOf r (dputK ks k) (dputV ks vs k v)
def dedup : List D → List D
  | [] => []
  | d :: ds => d :: (dedup ds).filter fun e => !D.beq e d
/-! ### operators -/
inductive Bop where
  | add | sub | mul | mod | fdiv | pow
  deriving DecidableEq
inductive Cop where
  | eq | ne | lt | le | gt | ge | mem | nmem
  deriving DecidableEq
def mulOk (i j : Int) : Bool := (decide (-(2 ^ 64) < i) && decide (i < 2 ^ 64)) || (decide (-(2 ^ 64) < j) && decide (j < 2 ^ 64))
def powOk (i j : Int) : Bool := decide (0 ≤ j) && (decide (j ≤ 1000000) && decide (i.natAbs < 2 ^ 64))
def lenOk (n : Nat) : Bool := decide (n ≤ sizeLine)
def binop : Bop → D → D → M R
  | .add, .int i, .int j => pure (.dat (.int (i + j)))
  | .add, .lst xs, .lst ys => do M.guard (lenOk (xs.length + ys.length)); pure (.own (.lst (xs ++ ys)))
  | .add, .tup xs, .tup ys => do M.guard (lenOk (xs.length + ys.length)); pure (.dat (.tup (xs ++ ys)))
  | .sub, .int i, .int j => pure (.dat (.int (i - j)))
  | .mul, .int i, .int j => do M.guard (mulOk i j); pure (.dat (.int (i * j)))
  | .mul, .tup xs, .int j => do M.guard (decide (1 ≤ j) && (decide (j ≤ 1000) && (decide (0 < xs.length) && decide (xs.length ≤ 1000)))); pure (.dat (.tup (List.replicate j.toNat xs).flatten))
  | .mod, .int i, .int j => do M.guard (decide (0 < j)); pure (.dat (.int (i % j)))
  | .fdiv, .int i, .int j => do M.guard (decide (0 < j) && decide (j < 1073741824)); pure (.dat (.int (i / j)))
  | .pow, .int i, .int j => do M.guard (powOk i j); pure (.dat (.int (i ^ j.toNat)))
  | _, _, _ => M.no
/-- the ints of a list of ints -/
def intsOf : List D → Option (List Int)
  | [] => some []
  | .int i :: ds => match intsOf ds with | some is => some (i :: is) | none => none
  | _ :: _ => none
def blsOf : List D → Option (List Bool)
  | [] => some []
  | .bl i :: ds => match blsOf ds with | some is => some (i :: is) | none => none
  | _ :: _ => none
def cmpop : Cop → D → D → M Bool
  | .eq, a, b => M.opt (deq a b)
  | .ne, a, b => do let r ← M.opt (deq a b); pure (!r)
  | .lt, .int i, .int j => pure (decide (i < j))
  | .le, .int i, .int j => pure (decide (i ≤ j))
  | .gt, .int i, .int j => pure (decide (j < i))
  | .ge, .int i, .int j => pure (decide (j ≤ i))
  | .mem, a, .lst xs => M.opt (din a xs)
  | .mem, a, .tup xs => M.opt (din a xs)
  | .mem, a, .dct ks vs => do M.guard (keyOk a); pure ((dget ks vs a).isSome)
  | .nmem, a, .lst xs => do let r ← M.opt (din a xs); pure (!r)
  | .nmem, a, .tup xs => do let r ← M.opt (din a xs); pure (!r)
  | .nmem, a, .dct ks vs => do M.guard (keyOk a); pure (!(dget ks vs a).isSome)
  | _, _, _ => M.no
/-- an index, from behind where it is negative -/
def at? (xs : List D) (i : Int) : Option D := L2.atI xs i
def cut (xs : List D) (lo hi : Option Int) : List D := (xs.drop (HT.sIx xs.length 0 lo)).take (HT.sIx xs.length xs.length hi - HT.sIx xs.length 0 lo)
def ixB (p : D) (y : R) : M R := match p, y with
  | .tup xs, .dat (.int j) => do let d ← M.opt (at? xs j); pure (.dat d)
  | .lst xs, .dat (.int j) => do let d ← M.opt (at? xs j); pure (.dat d)
  | .scr xs, .dat (.int j) => do let d ← M.opt (at? xs j); pure (.dat d)
  | .dct ks vs, .dat k => do M.guard (keyOk k); let d ← M.opt (dget ks vs k); pure (.dat d)
  | _, _ => M.no
def slB (p : D) (l h : Option Int) : M R := match p with
  | .tup xs => pure (.dat (.tup (cut xs l h)))
  | .lst xs => pure (.own (.lst (cut xs l h)))
  | .scr xs => pure (.own (.lst (cut xs l h)))
  | _ => M.no
def evens : List D → List D
  | [] => []
  | [a] => [a]
  | a :: _ :: r => a :: evens r
def stepL (st : Int) (xs : List D) : Option (List D) := if st = -1 then some xs.reverse else if st = 2 then some (evens xs) else none
def stB (st : Int) (p : D) : M R := match p with
  | .tup xs => do let ys ← M.opt (stepL st xs); pure (.dat (.tup ys))
  | .lst xs => do let ys ← M.opt (stepL st xs); pure (.own (.lst ys))
  | _ => M.no
def truth : D → M Bool
  | .non => pure false
  | .bl b => pure b
  | .int i => pure (i != 0)
  | .str s => do M.guard (lenOk s.length); pure (s.length != 0)
  | .tup xs => pure (!xs.isEmpty)
  | .lst xs => pure (!xs.isEmpty)
  | .scr xs => pure (!xs.isEmpty)
  | .dct ks _ => pure (!ks.isEmpty)
  | _ => M.no

/-! ### built-in functions -/
inductive Bi where
  | len | all | any | int | abs | min | max | tuple | list | divmod | sorted | sum | minL | maxL | str
  deriving DecidableEq
def arg1 : List D → Option D
  | [d] => some d
  | _ => none
def arg2 : List D → Option (D × D)
  | [d, e] => some (d, e)
  | _ => none
def lenB : D → M R
  | .tup xs => pure (.dat (.int xs.length))
  | .lst xs => pure (.dat (.int xs.length))
  | .scr xs => pure (.dat (.int xs.length))
  | .dct ks _ => pure (.dat (.int ks.length))
  | .str s => do M.guard (lenOk s.length); pure (.dat (.int s.length))
  | _ => M.no
def allB : D → M R
  | .lst xs => do let bs ← M.opt (blsOf xs); pure (.dat (.bl (bs.all id)))
  | _ => M.no
def anyB : D → M R
  | .lst xs => do let bs ← M.opt (blsOf xs); pure (.dat (.bl (bs.any id)))
  | _ => M.no
def intB : D → M R
  | .int i => pure (.dat (.int i))
  | _ => M.no
def absB : D → M R
  | .int i => pure (.dat (.int (if i < 0 then -i else i)))
  | _ => M.no
def minB : D → D → M R
  | .int i, .int j => pure (.dat (.int (if j < i then j else i)))
  | _, _ => M.no
def maxB : D → D → M R
  | .int i, .int j => pure (.dat (.int (if j > i then j else i)))
  | _, _ => M.no
def tupB : D → M R
  | .lst xs => pure (.dat (.tup xs))
  | .tup xs => pure (.dat (.tup xs))
  | _ => M.no
def lstB : D → M R
  | .lst xs => pure (.own (.lst xs))
  | .tup xs => pure (.own (.lst xs))
  | .scr xs => pure (.own (.lst xs))
  | .dct ks _ => pure (.own (.lst ks))
  | _ => M.no
def dmB : D → D → M R
  | .int i, .int j => do M.guard (decide (0 < j) && decide (j.natAbs < 2 ^ 4000)); pure (.dat (.tup [.int (i / j), .int (i % j)]))
  | _, _ => M.no
def insI (x : Int) : List Int → List Int
  | [] => [x]
  | y :: ys => if x ≤ y then x :: y :: ys else y :: insI x ys
def isort : List Int → List Int
  | [] => []
  | x :: xs => insI x (isort xs)
def minI : List Int → Option Int
  | [] => none
  | x :: xs => match minI xs with
    | none => some x
    | some m => some (if x ≤ m then x else m)
def maxI : List Int → Option Int
  | [] => none
  | x :: xs => match maxI xs with
    | none => some x
    | some m => some (if m ≤ x then x else m)
def sortB : D → M R
  | .lst xs => do let is ← M.opt (intsOf xs); pure (.own (.lst ((isort is).map D.int)))
  | .tup xs => do let is ← M.opt (intsOf xs); pure (.own (.lst ((isort is).map D.int)))
  | _ => M.no
def sumB : D → M R
  | .lst xs => do let is ← M.opt (intsOf xs); pure (.dat (.int is.sum))
  | _ => M.no
def minLB : D → M R
  | .lst xs => do let is ← M.opt (intsOf xs); let m ← M.opt (minI is); pure (.dat (.int m))
  | _ => M.no
def maxLB : D → M R
  | .lst xs => do let is ← M.opt (intsOf xs); let m ← M.opt (maxI is); pure (.dat (.int m))
  | _ => M.no
/-- str(i) -/
def strB : D → M R
  | .int i => do M.guard (decide (i.natAbs.log2 < 1920)); pure (.dat (.str (Str.ofString (toString i))))
  | _ => M.no
def bltn : Bi → List D → M R
  | .len, ds => do let d ← M.opt (arg1 ds); lenB d
  | .all, ds => do let d ← M.opt (arg1 ds); allB d
  | .any, ds => do let d ← M.opt (arg1 ds); anyB d
  | .int, ds => do let d ← M.opt (arg1 ds); intB d
  | .abs, ds => do let d ← M.opt (arg1 ds); absB d
  | .min, ds => do let p ← M.opt (arg2 ds); minB p.1 p.2
  | .max, ds => do let p ← M.opt (arg2 ds); maxB p.1 p.2
  | .divmod, ds => do let p ← M.opt (arg2 ds); dmB p.1 p.2
  | .tuple, ds => do let d ← M.opt (arg1 ds); tupB d
  | .list, ds => do let d ← M.opt (arg1 ds); lstB d
  | .sorted, ds => do let d ← M.opt (arg1 ds); sortB d
  | .sum, ds => do let d ← M.opt (arg1 ds); sumB d
  | .minL, ds => do let d ← M.opt (arg1 ds); minLB d
  | .maxL, ds => do let d ← M.opt (arg1 ds); maxLB d
  | .str, ds => do let d ← M.opt (arg1 ds); strB d

/-! ### sets, at once sorted or counted -/
inductive Sw where
  | sort | len
  deriving DecidableEq
def seqOf : D → Option (List D)
  | .lst xs => some xs
  | .tup xs => some xs
  | _ => none
def dedI (is : List Int) : List Int := match is with
  | [] => []
  | i :: r => i :: (dedI r).filter fun j => j != i
/-- how many truths -/
def cntB (bs : List Bool) : Nat := (if true ∈ bs then 1 else 0) + (if false ∈ bs then 1 else 0)
def tupsOf : List D → Option (List (List Int))
  | [] => some []
  | .tup ys :: r => match intsOf ys, tupsOf r with | some is, some ks => some (is :: ks) | _, _ => none
  | _ :: _ => none
def dedL : List (List Int) → List (List Int)
  | [] => []
  | k :: r => k :: (dedL r).filter fun j => !decide (j = k)
def setB (w : Sw) (a : D) : M R := do
  let xs ← M.opt (seqOf a)
  match w with
  | .sort => do let is ← M.opt (intsOf xs); M.guard (decide (is.length < 4000)); pure (.own (.lst ((isort (dedI is)).map D.int)))
  | .len => match a with
    | .lst _ => do let bs ← M.opt (blsOf xs); pure (.dat (.int (cntB bs)))
    | .tup _ => do let ks ← M.opt (tupsOf xs); M.guard (decide (ks.length < 64)); pure (.dat (.int (dedL ks).length))
    | _ => M.no
def xorI (is js : List Int) : List Int := ((dedI is).filter fun i => !js.contains i) ++ (dedI js).filter fun j => !is.contains j
def xorB (w : Sw) (a b : D) : M R := do
  let xs ← M.opt (seqOf a)
  let ys ← M.opt (seqOf b)
  let is ← M.opt (intsOf xs)
  let js ← M.opt (intsOf ys)
  match w with
  | .sort => pure (.own (.lst ((isort (xorI is js)).map D.int)))
  | .len => pure (.dat (.int (xorI is js).length))
/-! ### methods that read -/
inductive Rm where
  | get | getd | items | values | keys | count | index
  deriving DecidableEq
def itemsD : List D → List D → List D
  | k :: ks, v :: vs => .tup [k, v] :: itemsD ks vs
  | _, _ => []
def idxD (x : D) : List D → Option Nat
  | [] => none
  | d :: ds => match D.beq d x with
    | true => some 0
    | false => match idxD x ds with
      | some n => some (n + 1)
      | none => none
def rmB (m : Rm) (d : D) (ds : List D) : M R := match m, d, ds with
  | .get, .dct ks vs, [k] => do M.guard (keyOk k); pure (.dat ((dget ks vs k).getD .non))
  | .getd, .dct ks vs, [k, x] => do M.guard (keyOk k); pure (.dat ((dget ks vs k).getD x))
  | .items, .dct ks vs, [] => pure (.own (.lst (itemsD ks vs)))
  | .values, .dct _ vs, [] => pure (.own (.lst vs))
  | .keys, .dct ks _, [] => pure (.own (.lst ks))
  | .count, .lst xs, [x] => do let is ← M.opt (intsOf xs); let j ← M.opt (intsOf [x]); pure (.dat (.int (is.filter fun i => j.contains i).length))
  | .index, .lst xs, [x] => do M.guard ((din x xs).isSome); let n ← M.opt (idxD x xs); pure (.dat (.int n))
  | .index, .tup xs, [x] => do M.guard ((din x xs).isSome); let n ← M.opt (idxD x xs); pure (.dat (.int n))
  | _, _, _ => M.no
/-! ### methods that change a list -/
inductive Mm where
  | append | insert | pop | popi | extend
  deriving DecidableEq
def mthB (m : Mm) (c : Nat) (d : D) (ds : List D) : M R := match m, d, ds with
  | .append, .lst xs, [y] => do M.guard (decide (xs.length < sizeLine)); write c (.lst (xs ++ [y])); pure (.dat .non)
  | .insert, .lst xs, [.int i, y] => do
    M.guard (decide (xs.length < sizeLine) && (decide (0 ≤ i) && decide (i < 2 ^ 63)))
    write c (.lst (xs.take i.toNat ++ [y] ++ xs.drop i.toNat))
    pure (.dat .non)
  | .pop, .lst xs, [] => do let y ← M.opt xs[xs.length - 1]?; write c (.lst xs.dropLast); pure (.dat y)
  | .popi, .lst xs, [.int i] => do
    M.guard (decide (-(2 ^ 63) ≤ i) && decide (i < 2 ^ 63))
    let k ← M.opt (L2.ixN xs.length i)
    let y ← M.opt xs[k]?
    write c (.lst (xs.eraseIdx k))
    pure (.dat y)
  | .extend, .lst xs, [.lst ys] => do M.guard (decide (xs.length + ys.length ≤ sizeLine)); write c (.lst (xs ++ ys)); pure (.dat .non)
  | _, _, _ => M.no
def tyName : D → String
  | .non => "NoneType"
  | .bl _ => "bool"
  | .int _ => "int"
  | .str _ => "str"
  | .tup _ => "tuple"
  | .lst _ => "list"
  | .scr _ => "list"
  | .dct _ _ => "dict"
  | .obj _ _ => "object"
  | .fn _ => "object"
  | .itr _ => "object"
def isTy (t : String) (d : D) : Bool := (tyName d == t) || (t == "int" && tyName d == "bool")

/-! ### programs -/
mutual
inductive E where
  | k (d : D)
  | v (i : Nat)
  | glob (x : Str) (d : D)
  | bin (op : Bop) (a b : E)
  | neg (a : E)
  | cmp (op : Cop) (a b : E)
  | repEq (neg : Bool) (a b : E)
  | chain (op op' : Cop) (a b c : E)
  | isN (no : Bool) (a : E)
  | and (es : Es)
  | or (es : Es)
  | not (a : E)
  | ite (c : T) (a b : E)
  | tup (es : Es)
  | lst (es : Es)
  | ix (a i : E)
  | sl (a : E) (lo hi : Es)
  | isI (t : String) (a : E)
  | call (f : Fn) (id : Nat) (es : Es)
  | callK (f : Fn) (id : Nat) (n : Nat) (ks : List Str) (dd : List D) (perm : List Nat) (es kes : Es)
  | bi (b : Bi) (es : Es)
  | comp (tg : Tg) (it : It) (cond : Ts) (elt : E)
  | mth (m : Mm) (a : E) (es : Es)
  | lrng (t : Bool) (es : Es)
  | compp (tg : Tg) (it : It) (cond : Ts) (elt : E)
  | comp2 (tg : Tg) (it : It) (tg2 : Tg) (it2 : It) (cond : Ts) (elt : E)
  | dcomp (tg : Tg) (it : It) (cond : Ts) (key val : E)
  | dcomp2 (tg : Tg) (it : It) (tg2 : Tg) (it2 : It) (cond : Ts) (key val : E)
  | tups (es : Es)
  | lsts (es : Es)
  | sls (st : Int) (a : E)
  | isIs (ts : List String) (a : E)
  | isB (no b : Bool) (a : E)
  | dct (ks vs : Es)
  | dctk (ks vs : List D)
  | setw (w : Sw) (a : E)
  | xorw (w : Sw) (a b : E)
  | rm (m : Rm) (a : E) (es : Es)
  | rep (ne : Bool) (a b : E)
  | mk (f : Fn) (id : Nat) (es : Es)
  | fld (x : Str) (k : Nat) (a : E)
  | zip (a b : E)
inductive Es where
  | nil
  | cons (e : E) (es : Es)
  | star (e : E) (es : Es)
inductive T where
  | val (e : E)
  | and (ts : Ts)
  | or (ts : Ts)
  | not (t : T)
  | cmp (op : Cop) (a b : E)
  | chain (op op' : Cop) (a b c : E)
  | isN (no : Bool) (a : E)
inductive Ts where
  | nil
  | cons (t : T) (ts : Ts)
inductive It where
  | seq (e : E)
  | rng (es : Es)
  | enum (e : E)
  | zip (a b : E)
  | zip3 (es : Es)
inductive Tg where
  | n (i : Nat)
  | t (ts : Tgs)
  | ix (a i : E)
inductive Tgs where
  | nil
  | cons (t : Tg) (ts : Tgs)
inductive S where
  | asg (m : Bool) (i : Nat) (e : E)
  | asgT (t : Tg) (e : E)
  | par (cs : List (Nat × Bool)) (es : Es)
  | ex (e : E)
  | ret (e : E)
  | retN
  | iff (c : T) (a b : Ss)
  | for (ws : List Nat) (t : Tg) (it : It) (body : Ss)
  | whl (ws : List Nat) (n : Nat) (c : T) (body : Ss)
  | rai
  | pass
  | brk
  | cont
inductive Ss where
  | nil
  | cons (s : S) (ss : Ss)
  | zr (i : Nat) (a b : E) (tg : Tg) (elt : E)
inductive Fn where
  | mk (n : Nat) (ms : List Bool) (body : Ss)
  | ini (c : Nat) (n : Nat) (fs : Es)
  | no
end

inductive Flow where
  | nx (e : Env) | rt (r : R) | bk (e : Env) | ct (e : Env)

/-! the names that a target stores -/
mutual
def Tg.slots : Tg → List Nat
  | .n i => [i]
  | .t ts => Tgs.slots ts
  | .ix _ _ => []
def Tgs.slots : Tgs → List Nat
  | .nil => []
  | .cons t ts => Tg.slots t ++ Tgs.slots ts
end
def wipe (env : Env) : List Nat → Env
  | [] => env
  | v :: vs => (wipe env vs).set v none
/-- arguments come in: data, or a cell -/
def bindA : List Bool → List R → M (List (Option R))
  | [], [] => pure []
  | false :: ms, r :: rs => do let d ← use r; let es ← bindA ms rs; pure (some (.dat d) :: es)
  | true :: ms, .cell c :: rs => do let es ← bindA ms rs; pure (some (.cell c) :: es)
  | true :: ms, .own d :: rs => fun s => (M.bind (bindA ms rs) fun es => M.pure (some (.cell s.length) :: es)) (s ++ [⟨d, true⟩])
  | _, _ => M.no
/-- the cells that come in -/
def celA : List Bool → List (Option R) → List Nat
  | true :: ms, some (.cell c) :: es => c :: celA ms es
  | _ :: ms, _ :: es => celA ms es
  | _, _ => []
/-- .. by the numbers that they have in the def's own store -/
def datO : Option R → Option R
  | some (.dat d) => some (.dat d)
  | _ => none
def locA : List Bool → List (Option R) → Nat → List (Option R)
  | true :: ms, some (.cell _) :: es, k => some (.cell k) :: locA ms es (k + 1)
  | _ :: ms, e :: es, k => datO e :: locA ms es k
  | _, _, _ => []
def getAll (s : Sto) : List Nat → Option Sto
  | [] => some []
  | c :: cs => match s[c]?, getAll s cs with
    | some ⟨d, true⟩, some l => some (⟨d, true⟩ :: l)
    | _, _ => none
def putAll : List Nat → Sto → Sto → Sto
  | c :: cs, x :: l, s => putAll cs l (s.set c x)
  | _, _, s => s
def backR (cs : List Nat) (l : Sto) (r : R) : Option R := match r with
  | .cell k => match cs[k]? with
    | some c => some (.cell c)
    | none => match l[k]? with
      | some ⟨d, true⟩ => some (.own d)
      | some ⟨d, false⟩ => some (.dat d)
      | none => none
  | r => some r
/-- what a def's body made of the cells that came in is put back -/
def backM (cs : List Nat) (m : M R) : M R := fun s => match getAll s cs with
  | none => .no
  | some l => match decide cs.Nodup with
    | false => .no
    | true => match m l with
      | .ok r l' => optS (backR cs l' r) (putAll cs l' s)
      | .err c d l' => .err c d (putAll cs l' s)
      | .no => .no
/-- a def's end: its own cells are forgotten -/
def endFn (n : Nat) (r : R) : M R := fun s => match r with
  | .dat d => .ok (.dat d) (s.take n)
  | .own d => .ok (.own d) (s.take n)
  | .cell c => if c < n then .ok (.cell c) (s.take n) else match s[c]? with
    | some ⟨d, true⟩ => .ok (.own d) (s.take n)
    | some ⟨d, false⟩ => .ok (.dat d) (s.take n)
    | none => .no
def flowR : Flow → M R
  | .nx _ => pure (.dat .non)
  | .rt r => pure r
  | _ => M.no
def below (n : Nat) : Env → Bool
  | [] => true
  | none :: e => below n e
  | some (.cell c) :: e => decide (c < n) && below n e
  | some (.dat _) :: e => below n e
  | some (.own _) :: _ => false
/-- a turn's end: what is no more asked for is forgotten -/
def trim (n : Nat) (ws : List Nat) (fl : Flow) : M Flow := fun s => match fl with
  | .nx e => .ok (.nx (wipe e ws)) (match below n (wipe e ws) with | true => s.take n | false => s)
  | .ct e => .ok (.ct (wipe e ws)) (match below n (wipe e ws) with | true => s.take n | false => s)
  | .bk e => .ok (.bk (wipe e ws)) (match below n (wipe e ws) with | true => s.take n | false => s)
  | .rt r => .ok (.rt r) s
/-- turn by turn -/
def forM (f : D → Env → M Flow) : List D → Env → M Flow
  | [], env => pure (.nx env)
  | d :: ds, env => do
    match ← f d env with
    | .nx e => forM f ds e
    | .ct e => forM f ds e
    | .bk e => pure (.nx e)
    | .rt r => pure (.rt r)
def compM (f : D → M (Option D)) : List D → M (List D)
  | [] => pure []
  | d :: ds => do
    match ← f d with
    | some x => do let xs ← compM f ds; pure (x :: xs)
    | none => compM f ds
/-- a name's new value; m: what is new is kept as a cell -/
def store1 (m : Bool) (i : Nat) (r : R) (env : Env) : M Env := match r with
  | .cell c => pure (env.set i (some (.cell c)))
  | .dat d => pure (env.set i (some (.dat d)))
  | .own d => match m with
    | true => fun s => .ok (env.set i (some (.cell s.length))) (s ++ [⟨d, true⟩])
    | false => pure (env.set i (some (.dat d)))
/-- several names at once -/
def parM : List (Nat × Bool) → List R → Env → M Env
  | [], [], env => pure env
  | (i, m) :: cs, r :: rs, env => do let env' ← store1 m i r env; parM cs rs env'
  | _, _, _ => M.no
def whM (c : Env → M Bool) (f : Env → M Flow) : Nat → Env → M Flow
  | 0, _ => M.no
  | n + 1, env => do
    if ← c env then do
      match ← f env with
      | .nx e => whM c f n e
      | .ct e => whM c f n e
      | .bk e => pure (.nx e)
      | .rt r => pure (.rt r)
    else pure (.nx env)
def enumD : Int → List D → List D
  | _, [] => []
  | i, d :: ds => .tup [.int i, d] :: enumD (i + 1) ds
def zipD3 : List D → List D → List D → List D
  | a :: as, b :: bs, c :: cs => .tup [a, b, c] :: zipD3 as bs cs
  | _, _, _ => []
def zip3B : List D → M (List D)
  | [.tup as, .tup bs, .tup cs] => pure (zipD3 as bs cs)
  | _ => M.no
def zipD : List D → List D → List D
  | a :: as, b :: bs => .tup [a, b] :: zipD as bs
  | _, _ => []
def rngD (lo : Int) : Nat → List D
  | 0 => []
  | n + 1 => .int lo :: rngD (lo + 1) n
def itemsOf : D → M (List D)
  | .tup xs => pure xs
  | .lst xs => pure xs
  | .scr xs => pure xs
  | _ => M.no
def isTupD : D → Bool
  | .tup _ => true
  | _ => false
def setAt (xs : List D) (i : Int) (d : D) : Option (List D) := match L2.ixN xs.length i with
  | some j => some (xs.set j d)
  | none => none

def flatB {α : Type} (l : List (List α)) : M (List α) := do M.guard (lenOk l.flatten.length); pure l.flatten
def ixSet (c : Nat) (p : D) (y : R) (d : D) (env : Env) : M Env := match p, y with
  | .lst xs, .dat (.int j) => do let xs' ← M.opt (setAt xs j d); write c (.lst xs'); pure env
  | .dct ks vs, .dat k => do M.guard (keyOk k && decide (ks.length < sizeLine)); write c (.dct (dputK ks k) (dputV ks vs k d)); pure env
  | _, _ => M.no
def rngB (rs : List R) : M (List D) := match rs with
  | [.dat (.int j)] => do M.guard (decide (-(2 ^ 62) ≤ j) && decide (j ≤ 1000000)); pure (rngD 0 j.toNat)
  | [.dat (.int i), .dat (.int j)] => do
    M.guard (decide (-1000000 ≤ i) && decide (j ≤ 1000000) && decide (i ≤ 1000000) && decide (-1000000 ≤ j))
    pure (rngD i (j - i).toNat)
  | _ => M.no
/-- a range, at once a list or a tuple -/
def rngR (t : Bool) (ds : List D) : R := match t with
  | true => .dat (.tup ds)
  | false => .own (.lst ds)
/-- some of a list's items, in another order -/
def permL {α : Type} (perm : List Nat) (l : List α) : List α := perm.filterMap fun i => l[i]?
/-- {} and {k: v} of constants -/
def dctkB : List D → List D → Bool
  | [], [] => true
  | [k], [_] => keyF k
  | _, _ => false
/-- data whose text is told -/
def shownOk (p : PyData) : Bool := p.showable && (!p.hasDict && (decide (p.depth ≤ 60) && decide (p.shown.length ≤ sizeLine)))
def repOk (d : D) : Bool := match d, d.toP with
  | .tup _, some p => shownOk p
  | .lst _, some p => shownOk p
  | _, _ => false
mutual
def evE : E → Env → M R
  | .k d, _ => pure (.dat d)
  | .v i, env => M.opt env[i]?.join
  | .glob _ d, _ => pure (.dat d)
  | .bin op a b, env => do
    let x ← evE a env
    let y ← evE b env
    let p ← peek x
    let q ← peek y
    binop op p q
  | .neg a, env => do
    match ← evE a env with
    | .dat (.int i) => pure (.dat (.int (-i)))
    | _ => M.no
  | .cmp op a b, env => do
    let x ← evE a env
    let y ← evE b env
    let p ← peek x
    let q ← peek y
    let r ← cmpop op p q
    pure (.dat (.bl r))
  | .dctk ks vs, _ => do M.guard (dctkB ks vs); pure (.own (.dct ks vs))
  | .repEq neg a b, env => do
    let x ← evE a env
    let p ← peek x
    M.guard (repOk p)
    let y ← evE b env
    let q ← peek y
    M.guard (D.beq p q)
    pure (.dat (.bl (!neg)))
  | .chain op op' a b c, env => do
    let x ← evE a env
    let y ← evE b env
    let p ← peek x
    let q ← peek y
    let r ← cmpop op p q
    if r then do
      let z ← evE c env
      let q' ← peek y
      let t ← peek z
      let r' ← cmpop op' q' t
      pure (.dat (.bl r'))
    else pure (.dat (.bl false))
  | .isN no a, env => do
    let x ← evE a env
    match x with
    | .dat .non => pure (.dat (.bl (!no)))
    | _ => pure (.dat (.bl no))
  | .and es, env => do let b ← evAnd es env; pure (.dat (.bl b))
  | .or es, env => do let b ← evOr es env; pure (.dat (.bl b))
  | .not a, env => do
    match ← evE a env with
    | .dat (.bl b) => pure (.dat (.bl (!b)))
    | _ => M.no
  | .ite c a b, env => do
    if ← evT c env then evE a env else evE b env
  | .tup es, env => do let ds ← evDs es env; pure (.dat (.tup ds))
  | .lst es, env => do let ds ← evDs es env; pure (.own (.lst ds))
  | .ix a i, env => do
    let x ← evE a env
    let y ← evE i env
    let p ← peek x
    ixB p y
  | .sl a lo hi, env => do
    let x ← evE a env
    let l ← evPart lo env
    let h ← evPart hi env
    let p ← peek x
    slB p l h
  | .isI t a, env => do
    let x ← evE a env
    let p ← peek x
    M.guard (tyName p != "object")
    pure (.dat (.bl (isTy t p)))
  | .call f _ es, env => do
    let rs ← evEs es env
    runFn f rs
  | .callK f _ _ _ dd perm es kes, env => do
    let ds ← evDs es env
    let ws ← evDs kes env
    runFn f ((permL perm (ds ++ (ws ++ dd))).map R.dat)
  | .bi b es, env => do
    let rs ← evEs es env
    let ds ← peeks rs
    bltn b ds
  | .comp tg it cond elt, env => do
    let ds ← evIt it env
    let xs ← compM (fun d => do
      let env' ← evTg tg d (wipe env tg.slots)
      let b ← evTAnd cond env'
      if b then do
        let r ← evE elt env'
        let x ← use r
        pure (some x)
      else pure none) ds
    pure (.own (.lst xs))
  | .mth m a es, env => do
    let x ← evE a env
    let q0 ← live x
    lstG q0.2
    let ds ← evDs es env
    let q ← live x
    mthB m q.1 q.2 ds
  | .lrng t es, env => do
    let rs ← evEs es env
    let ds ← rngB rs
    pure (rngR t ds)
  | .compp tg it cond elt, env => do
    let ds ← evIt it env
    let os ← mapP (fun d => do
      let env' ← evTg tg d (wipe env tg.slots)
      let b ← evTAnd cond env'
      if b then do
        let r ← evE elt env'
        let x ← use r
        pure (some x)
      else pure none) ds
    pure (.own (.lst (os.filterMap id)))
  | .comp2 tg it tg2 it2 cond elt, env => do
    let ds ← evIt it env
    let oss ← mapP (fun d => do
      let env' ← evTg tg d (wipe env (tg.slots ++ tg2.slots))
      let es ← evIt it2 env'
      mapP (fun e => do
        let env2 ← evTg tg2 e (wipe env' tg2.slots)
        let b ← evTAnd cond env2
        if b then do
          let r ← evE elt env2
          let x ← use r
          pure (some x)
        else pure none) es) ds
    let xs ← flatB (oss.map fun os => os.filterMap id)
    pure (.own (.lst xs))
  | .dcomp tg it cond key val, env => do
    let ds ← evIt it env
    let os ← mapP (fun d => do
      let env' ← evTg tg d (wipe env tg.slots)
      let b ← evTAnd cond env'
      if b then do
        let r ← evE key env'
        let x ← use r
        let r' ← evE val env'
        let y ← use r'
        M.guard (keyOk x)
        pure (some (x, y))
      else pure none) ds
    pure (.own (dctOf (os.filterMap id) [] []))
  | .dcomp2 tg it tg2 it2 cond key val, env => do
    let ds ← evIt it env
    let oss ← mapP (fun d => do
      let env' ← evTg tg d (wipe env (tg.slots ++ tg2.slots))
      let es ← evIt it2 env'
      mapP (fun e => do
        let env2 ← evTg tg2 e (wipe env' tg2.slots)
        let b ← evTAnd cond env2
        if b then do
          let r ← evE key env2
          let x ← use r
          let r' ← evE val env2
          let y ← use r'
          M.guard (keyOk x)
          pure (some (x, y))
        else pure none) es) ds
    let xs ← flatB (oss.map fun os => os.filterMap id)
    pure (.own (dctOf xs [] []))
  | .tups es, env => do let ds ← evStar es env; M.guard (lenOk ds.length); pure (.dat (.tup ds))
  | .lsts es, env => do let ds ← evStar es env; M.guard (lenOk ds.length); pure (.own (.lst ds))
  | .sls st a, env => do
    let x ← evE a env
    let p ← peek x
    stB st p
  | .isIs ts a, env => do
    let x ← evE a env
    let p ← peek x
    M.guard (tyName p != "object")
    pure (.dat (.bl (ts.any fun t => isTy t p)))
  | .isB no b a, env => do
    match ← evE a env with
    | .dat (.bl c) => pure (.dat (.bl ((c == b) != no)))
    | _ => M.no
  | .dct ks vs, env => do
    let as ← evDs ks env
    let bs ← evDs vs env
    M.guard (as.all keyOk)
    pure (.own (dctOf (as.zip bs) [] []))
  | .setw w a, env => do
    let x ← evE a env
    let p ← peek x
    setB w p
  | .xorw w a b, env => do
    let x ← evE a env
    let p ← peek x
    let y ← evE b env
    let q ← peek y
    xorB w p q
  | .rm m a es, env => do
    let x ← evE a env
    let ds ← evDs es env
    let p ← peek x
    rmB m p ds
  | .rep ne a b, env => do
    let x ← evE a env
    let p ← use x
    let y ← evE b env
    let q ← use y
    M.guard (D.beq p q)
    pure (.dat (.bl (!ne)))
  | .mk f _ es, env => do
    let rs ← evEs es env
    runFn f rs
  | .fld _ k a, env => do
    match ← evE a env with
    | .dat (.obj _ fs) => do let d ← M.opt fs[k]?; pure (.dat d)
    | _ => M.no
  | .zip a b, env => do
    let x ← evE a env
    let p ← use x
    let y ← evE b env
    let q ← use y
    let as ← itemsOf p
    let bs ← itemsOf q
    pure (.own (.itr (zipD as bs)))
def evEs : Es → Env → M (List R)
  | .nil, _ => pure []
  | .cons e es, env => do let r ← evE e env; let rs ← evEs es env; pure (r :: rs)
  | .star _ _, _ => M.no
/-- one after another, each at once handed on as data -/
def evDs : Es → Env → M (List D)
  | .nil, _ => pure []
  | .cons e es, env => do let r ← evE e env; let d ← use r; let ds ← evDs es env; pure (d :: ds)
  | .star _ _, _ => M.no
/-- the items of a display with stars -/
def evStar : Es → Env → M (List D)
  | .nil, _ => pure []
  | .cons e es, env => do let r ← evE e env; let d ← use r; let ds ← evStar es env; pure (d :: ds)
  | .star e es, env => do let r ← evE e env; let d ← use r; let xs ← itemsOf d; let ds ← evStar es env; pure (xs ++ ds)
def evPart : Es → Env → M (Option Int)
  | .nil, _ => pure none
  | .cons e _, env => do
    match ← evE e env with
    | .dat (.int i) => pure (some i)
    | _ => M.no
  | .star _ _, _ => M.no
/-- values that are truths: all but the last -/
def evAnd : Es → Env → M Bool
  | .nil, _ => pure true
  | .cons e es, env => do
    match ← evE e env with
    | .dat (.bl true) => evAnd es env
    | .dat (.bl false) => pure false
    | _ => M.no
  | .star _ _, _ => M.no
def evOr : Es → Env → M Bool
  | .nil, _ => pure false
  | .cons e es, env => do
    match ← evE e env with
    | .dat (.bl false) => evOr es env
    | .dat (.bl true) => pure true
    | _ => M.no
  | .star _ _, _ => M.no
/-- tests -/
def evT : T → Env → M Bool
  | .val e, env => do let r ← evE e env; let d ← peek r; truth d
  | .and ts, env => evTAnd ts env
  | .or ts, env => evTOr ts env
  | .not t, env => do let b ← evT t env; pure (!b)
  | .cmp op a b, env => do
    let x ← evE a env
    let y ← evE b env
    let p ← peek x
    let q ← peek y
    cmpop op p q
  | .chain op op' a b c, env => do
    let x ← evE a env
    let y ← evE b env
    let p ← peek x
    let q ← peek y
    let r ← cmpop op p q
    if r then do
      let z ← evE c env
      let q' ← peek y
      let t ← peek z
      cmpop op' q' t
    else pure false
  | .isN no a, env => do
    let x ← evE a env
    match x with
    | .dat .non => pure (!no)
    | _ => pure no
def evTAnd : Ts → Env → M Bool
  | .nil, _ => pure true
  | .cons t ts, env => do if ← evT t env then evTAnd ts env else pure false
def evTOr : Ts → Env → M Bool
  | .nil, _ => pure false
  | .cons t ts, env => do if ← evT t env then pure true else evTOr ts env
def evIt : It → Env → M (List D)
  | .seq e, env => do let r ← evE e env; let d ← use r; itemsOf d
  | .rng es, env => do let rs ← evEs es env; rngB rs
  | .enum e, env => do let r ← evE e env; let d ← use r; let ds ← itemsOf d; pure (enumD 0 ds)
  | .zip a b, env => do
    let x ← evE a env
    let y ← evE b env
    let p ← use x
    let q ← use y
    M.guard (isTupD p == isTupD q)
    let as ← itemsOf p
    let bs ← itemsOf q
    pure (zipD as bs)
  | .zip3 es, env => do let ds ← evDs es env; zip3B ds
def evTg : Tg → D → Env → M Env
  | .n i, d, env => pure (env.set i (some (.dat d)))
  | .t ts, d, env => do
    match d with
    | .tup xs => evTgs ts xs env
    | _ => M.no
  | .ix a i, d, env => do
    let x ← evE a env
    let y ← evE i env
    let q ← live x
    ixSet q.1 q.2 y d env
def evTgs : Tgs → List D → Env → M Env
  | .nil, [], env => pure env
  | .cons t ts, d :: ds, env => do let env' ← evTg t d env; evTgs ts ds env'
  | _, _, _ => M.no
def evS : S → Env → M Flow
  | .asg m i e, env => do
    let r ← evE e env
    let env' ← store1 m i r env
    pure (.nx env')
  | .asgT t e, env => do
    let r ← evE e env
    let d ← use r
    let env' ← evTg t d env
    pure (.nx env')
  | .par cs es, env => do
    let rs ← evEs es env
    let env' ← parM cs rs env
    pure (.nx env')
  | .ex e, env => do let _ ← evE e env; pure (.nx env)
  | .ret e, env => do let r ← evE e env; pure (.rt r)
  | .retN, _ => pure (.rt (.dat .non))
  | .iff c a b, env => do if ← evT c env then evSs a env else evSs b env
  | .for ws t it body, env => do
    let ds ← evIt it env
    fun s => forM (fun d env => do let env' ← evTg t d env; let fl ← evSs body env'; trim s.length ws fl) ds (wipe env ws) s
  | .whl ws n c body, env => fun s => whM (fun env => evT c env) (fun env => do let fl ← evSs body env; trim s.length ws fl) n (wipe env ws) s
  | .rai, _ => M.no
  | .pass, env => pure (.nx env)
  | .brk, env => pure (.bk env)
  | .cont, env => pure (.ct env)
def evSs : Ss → Env → M Flow
  | .nil, env => pure (.nx env)
  | .cons s ss, env => do
    match ← evS s env with
    | .nx e => evSs ss e
    | f => pure f
  | .zr i a b tg elt, env => do
    M.guard (decide (i < env.length))
    let x ← evE a env
    let y ← evE b env
    let p ← use x
    let q ← use y
    M.guard (isTupD p == isTupD q)
    let as ← itemsOf p
    let bs ← itemsOf q
    let os ← mapP (fun d => do
      let env' ← evTg tg d (wipe (env.set i none) tg.slots)
      let r ← evE elt env'
      use r) (zipD as bs)
    pure (.rt (.dat (.tup os)))
def runFn : Fn → List R → M R
  | .mk n ms body, rs => fun s => (do
    let as ← bindA ms rs
    let r ← backM (celA ms as) (do
      let f ← evSs body (locA ms as 0 ++ List.replicate (n - as.length) none)
      flowR f)
    endFn s.length r) s
  | .ini c n fs, rs => do
    let ds ← uses rs
    let r ← backM [] (do
      let xs ← evDs fs (none :: (ds.map fun d => some (.dat d)) ++ List.replicate (n - 1 - ds.length) none)
      pure (.dat (.obj c xs)))
    pure r
  | .no, _ => M.no
end
end DB

namespace DB
open PySem
/-! ### one turn of the evaluator -/
theorem evE_k {d u1} : evE (.k d) u1 = ( pure (.dat d) : M R) := rfl
theorem evE_v {i env} : evE (.v i) env = ( M.opt env[i]?.join : M R) := rfl
theorem evE_glob {u1 d u2} : evE (.glob u1 d) u2 = ( pure (.dat d) : M R) := rfl
theorem evE_bin {op a b env} : evE (.bin op a b) env = ( do
    let x ← evE a env
    let y ← evE b env
    let p ← peek x
    let q ← peek y
    binop op p q
   : M R) := rfl
theorem evE_neg {a env} : evE (.neg a) env = ( do
    match ← evE a env with
    | .dat (.int i) => pure (.dat (.int (-i)))
    | _ => M.no
   : M R) := rfl
theorem evE_cmp {op a b env} : evE (.cmp op a b) env = ( do
    let x ← evE a env
    let y ← evE b env
    let p ← peek x
    let q ← peek y
    let r ← cmpop op p q
    pure (.dat (.bl r))
   : M R) := rfl
theorem evE_dctk {ks vs u1} : evE (.dctk ks vs) u1 = ( do M.guard (dctkB ks vs); pure (.own (.dct ks vs)) : M R) := rfl
theorem evE_repEq {neg a b env} : evE (.repEq neg a b) env = ( do
    let x ← evE a env
    let p ← peek x
    M.guard (repOk p)
    let y ← evE b env
    let q ← peek y
    M.guard (D.beq p q)
    pure (.dat (.bl (!neg)))
   : M R) := rfl
theorem evE_chain {op op' a b c env} : evE (.chain op op' a b c) env = ( do
    let x ← evE a env
    let y ← evE b env
    let p ← peek x
    let q ← peek y
    let r ← cmpop op p q
    if r then do
      let z ← evE c env
      let q' ← peek y
      let t ← peek z
      let r' ← cmpop op' q' t
      pure (.dat (.bl r'))
    else pure (.dat (.bl false))
   : M R) := rfl
theorem evE_isN {no a env} : evE (.isN no a) env = ( do
    let x ← evE a env
    match x with
    | .dat .non => pure (.dat (.bl (!no)))
    | _ => pure (.dat (.bl no))
   : M R) := rfl
theorem evE_and {es env} : evE (.and es) env = ( do let b ← evAnd es env; pure (.dat (.bl b)) : M R) := rfl
theorem evE_or {es env} : evE (.or es) env = ( do let b ← evOr es env; pure (.dat (.bl b)) : M R) := rfl
theorem evE_not {a env} : evE (.not a) env = ( do
    match ← evE a env with
    | .dat (.bl b) => pure (.dat (.bl (!b)))
    | _ => M.no
   : M R) := rfl
theorem evE_ite {c a b env} : evE (.ite c a b) env = ( do
    if ← evT c env then evE a env else evE b env
   : M R) := rfl
theorem evE_tup {es env} : evE (.tup es) env = ( do let ds ← evDs es env; pure (.dat (.tup ds)) : M R) := rfl
theorem evE_lst {es env} : evE (.lst es) env = ( do let ds ← evDs es env; pure (.own (.lst ds)) : M R) := rfl
theorem evE_ix {a i env} : evE (.ix a i) env = ( do
    let x ← evE a env
    let y ← evE i env
    let p ← peek x
    ixB p y
   : M R) := rfl
theorem evE_sl {a lo hi env} : evE (.sl a lo hi) env = ( do
    let x ← evE a env
    let l ← evPart lo env
    let h ← evPart hi env
    let p ← peek x
    slB p l h
   : M R) := rfl
theorem evE_isI {t a env} : evE (.isI t a) env = ( do
    let x ← evE a env
    let p ← peek x
    M.guard (tyName p != "object")
    pure (.dat (.bl (isTy t p)))
   : M R) := rfl
theorem evE_call {f u1 es env} : evE (.call f u1 es) env = ( do
    let rs ← evEs es env
    runFn f rs
   : M R) := rfl
theorem evE_callK {f u1 u2 u3 dd perm es kes env} : evE (.callK f u1 u2 u3 dd perm es kes) env = ( do
    let ds ← evDs es env
    let ws ← evDs kes env
    runFn f ((permL perm (ds ++ (ws ++ dd))).map R.dat)
   : M R) := rfl
theorem evE_bi {b es env} : evE (.bi b es) env = ( do
    let rs ← evEs es env
    let ds ← peeks rs
    bltn b ds
   : M R) := rfl
theorem evE_comp {tg it cond elt env} : evE (.comp tg it cond elt) env = ( do
    let ds ← evIt it env
    let xs ← compM (fun d => do
      let env' ← evTg tg d (wipe env tg.slots)
      let b ← evTAnd cond env'
      if b then do
        let r ← evE elt env'
        let x ← use r
        pure (some x)
      else pure none) ds
    pure (.own (.lst xs))
   : M R) := rfl
theorem evE_mth {m a es env} : evE (.mth m a es) env = ( do
    let x ← evE a env
    let q0 ← live x
    lstG q0.2
    let ds ← evDs es env
    let q ← live x
    mthB m q.1 q.2 ds
   : M R) := rfl
theorem evE_lrng {t es env} : evE (.lrng t es) env = ( do
    let rs ← evEs es env
    let ds ← rngB rs
    pure (rngR t ds)
   : M R) := rfl
theorem evE_compp {tg it cond elt env} : evE (.compp tg it cond elt) env = ( do
    let ds ← evIt it env
    let os ← mapP (fun d => do
      let env' ← evTg tg d (wipe env tg.slots)
      let b ← evTAnd cond env'
      if b then do
        let r ← evE elt env'
        let x ← use r
        pure (some x)
      else pure none) ds
    pure (.own (.lst (os.filterMap id)))
   : M R) := rfl
theorem evE_comp2 {tg it tg2 it2 cond elt env} : evE (.comp2 tg it tg2 it2 cond elt) env = ( do
    let ds ← evIt it env
    let oss ← mapP (fun d => do
      let env' ← evTg tg d (wipe env (tg.slots ++ tg2.slots))
      let es ← evIt it2 env'
      mapP (fun e => do
        let env2 ← evTg tg2 e (wipe env' tg2.slots)
        let b ← evTAnd cond env2
        if b then do
          let r ← evE elt env2
          let x ← use r
          pure (some x)
        else pure none) es) ds
    let xs ← flatB (oss.map fun os => os.filterMap id)
    pure (.own (.lst xs))
   : M R) := rfl
theorem evE_dcomp {tg it cond key val env} : evE (.dcomp tg it cond key val) env = ( do
    let ds ← evIt it env
    let os ← mapP (fun d => do
      let env' ← evTg tg d (wipe env tg.slots)
      let b ← evTAnd cond env'
      if b then do
        let r ← evE key env'
        let x ← use r
        let r' ← evE val env'
        let y ← use r'
        M.guard (keyOk x)
        pure (some (x, y))
      else pure none) ds
    pure (.own (dctOf (os.filterMap id) [] []))
   : M R) := rfl
theorem evE_dcomp2 {tg it tg2 it2 cond key val env} : evE (.dcomp2 tg it tg2 it2 cond key val) env = ( do
    let ds ← evIt it env
    let oss ← mapP (fun d => do
      let env' ← evTg tg d (wipe env (tg.slots ++ tg2.slots))
      let es ← evIt it2 env'
      mapP (fun e => do
        let env2 ← evTg tg2 e (wipe env' tg2.slots)
        let b ← evTAnd cond env2
        if b then do
          let r ← evE key env2
          let x ← use r
          let r' ← evE val env2
          let y ← use r'
          M.guard (keyOk x)
          pure (some (x, y))
        else pure none) es) ds
    let xs ← flatB (oss.map fun os => os.filterMap id)
    pure (.own (dctOf xs [] []))
   : M R) := rfl
theorem evE_tups {es env} : evE (.tups es) env = ( do let ds ← evStar es env; M.guard (lenOk ds.length); pure (.dat (.tup ds)) : M R) := rfl
theorem evE_lsts {es env} : evE (.lsts es) env = ( do let ds ← evStar es env; M.guard (lenOk ds.length); pure (.own (.lst ds)) : M R) := rfl
theorem evE_sls {st a env} : evE (.sls st a) env = ( do
    let x ← evE a env
    let p ← peek x
    stB st p
   : M R) := rfl
theorem evE_isIs {ts a env} : evE (.isIs ts a) env = ( do
    let x ← evE a env
    let p ← peek x
    M.guard (tyName p != "object")
    pure (.dat (.bl (ts.any fun t => isTy t p)))
   : M R) := rfl
theorem evE_isB {no b a env} : evE (.isB no b a) env = ( do
    match ← evE a env with
    | .dat (.bl c) => pure (.dat (.bl ((c == b) != no)))
    | _ => M.no
   : M R) := rfl
theorem evE_dct {ks vs env} : evE (.dct ks vs) env = ( do
    let as ← evDs ks env
    let bs ← evDs vs env
    M.guard (as.all keyOk)
    pure (.own (dctOf (as.zip bs) [] []))
   : M R) := rfl
theorem evE_setw {w a env} : evE (.setw w a) env = ( do
    let x ← evE a env
    let p ← peek x
    setB w p
   : M R) := rfl
theorem evE_xorw {w a b env} : evE (.xorw w a b) env = ( do
    let x ← evE a env
    let p ← peek x
    let y ← evE b env
    let q ← peek y
    xorB w p q
   : M R) := rfl
theorem evE_rm {m a es env} : evE (.rm m a es) env = ( do
    let x ← evE a env
    let ds ← evDs es env
    let p ← peek x
    rmB m p ds
   : M R) := rfl
theorem evE_rep {ne a b env} : evE (.rep ne a b) env = ( do
    let x ← evE a env
    let p ← use x
    let y ← evE b env
    let q ← use y
    M.guard (D.beq p q)
    pure (.dat (.bl (!ne)))
   : M R) := rfl
theorem evE_mk {f u1 es env} : evE (.mk f u1 es) env = ( do
    let rs ← evEs es env
    runFn f rs
   : M R) := rfl
theorem evE_fld {u1 k a env} : evE (.fld u1 k a) env = ( do
    match ← evE a env with
    | .dat (.obj _ fs) => do let d ← M.opt fs[k]?; pure (.dat d)
    | _ => M.no
   : M R) := rfl
theorem evE_zip {a b env} : evE (.zip a b) env = ( do
    let x ← evE a env
    let p ← use x
    let y ← evE b env
    let q ← use y
    let as ← itemsOf p
    let bs ← itemsOf q
    pure (.own (.itr (zipD as bs)))
   : M R) := rfl
theorem evEs_nil {u1} : evEs .nil u1 = ( pure [] : M (List R)) := rfl
theorem evEs_cons {e es env} : evEs (.cons e es) env = ( do let r ← evE e env; let rs ← evEs es env; pure (r :: rs) : M (List R)) := rfl
theorem evEs_star {u1 u2 u3} : evEs (.star u1 u2) u3 = ( M.no : M (List R)) := rfl
theorem evDs_nil {u1} : evDs .nil u1 = ( pure [] : M (List D)) := rfl
theorem evDs_cons {e es env} : evDs (.cons e es) env = ( do let r ← evE e env; let d ← use r; let ds ← evDs es env; pure (d :: ds) : M (List D)) := rfl
theorem evDs_star {u1 u2 u3} : evDs (.star u1 u2) u3 = ( M.no : M (List D)) := rfl
theorem evStar_nil {u1} : evStar .nil u1 = ( pure [] : M (List D)) := rfl
theorem evStar_cons {e es env} : evStar (.cons e es) env = ( do let r ← evE e env; let d ← use r; let ds ← evStar es env; pure (d :: ds) : M (List D)) := rfl
theorem evStar_star {e es env} : evStar (.star e es) env = ( do let r ← evE e env; let d ← use r; let xs ← itemsOf d; let ds ← evStar es env; pure (xs ++ ds) : M (List D)) := rfl
theorem evPart_nil {u1} : evPart .nil u1 = ( pure none : M (Option Int)) := rfl
theorem evPart_cons {e u1 env} : evPart (.cons e u1) env = ( do
    match ← evE e env with
    | .dat (.int i) => pure (some i)
    | _ => M.no
   : M (Option Int)) := rfl
theorem evPart_star {u1 u2 u3} : evPart (.star u1 u2) u3 = ( M.no : M (Option Int)) := rfl
theorem evAnd_nil {u1} : evAnd .nil u1 = ( pure true : M Bool) := rfl
theorem evAnd_cons {e es env} : evAnd (.cons e es) env = ( do
    match ← evE e env with
    | .dat (.bl true) => evAnd es env
    | .dat (.bl false) => pure false
    | _ => M.no
   : M Bool) := rfl
theorem evAnd_star {u1 u2 u3} : evAnd (.star u1 u2) u3 = ( M.no : M Bool) := rfl
theorem evOr_nil {u1} : evOr .nil u1 = ( pure false : M Bool) := rfl
theorem evOr_cons {e es env} : evOr (.cons e es) env = ( do
    match ← evE e env with
    | .dat (.bl false) => evOr es env
    | .dat (.bl true) => pure true
    | _ => M.no
   : M Bool) := rfl
theorem evOr_star {u1 u2 u3} : evOr (.star u1 u2) u3 = ( M.no : M Bool) := rfl
theorem evT_val {e env} : evT (.val e) env = ( do let r ← evE e env; let d ← peek r; truth d : M Bool) := rfl
theorem evT_and {ts env} : evT (.and ts) env = ( evTAnd ts env : M Bool) := rfl
theorem evT_or {ts env} : evT (.or ts) env = ( evTOr ts env : M Bool) := rfl
theorem evT_not {t env} : evT (.not t) env = ( do let b ← evT t env; pure (!b) : M Bool) := rfl
theorem evT_cmp {op a b env} : evT (.cmp op a b) env = ( do
    let x ← evE a env
    let y ← evE b env
    let p ← peek x
    let q ← peek y
    cmpop op p q
   : M Bool) := rfl
theorem evT_chain {op op' a b c env} : evT (.chain op op' a b c) env = ( do
    let x ← evE a env
    let y ← evE b env
    let p ← peek x
    let q ← peek y
    let r ← cmpop op p q
    if r then do
      let z ← evE c env
      let q' ← peek y
      let t ← peek z
      cmpop op' q' t
    else pure false
   : M Bool) := rfl
theorem evT_isN {no a env} : evT (.isN no a) env = ( do
    let x ← evE a env
    match x with
    | .dat .non => pure (!no)
    | _ => pure no
   : M Bool) := rfl
theorem evTAnd_nil {u1} : evTAnd .nil u1 = ( pure true : M Bool) := rfl
theorem evTAnd_cons {t ts env} : evTAnd (.cons t ts) env = ( do if ← evT t env then evTAnd ts env else pure false : M Bool) := rfl
theorem evTOr_nil {u1} : evTOr .nil u1 = ( pure false : M Bool) := rfl
theorem evTOr_cons {t ts env} : evTOr (.cons t ts) env = ( do if ← evT t env then pure true else evTOr ts env : M Bool) := rfl
theorem evIt_seq {e env} : evIt (.seq e) env = ( do let r ← evE e env; let d ← use r; itemsOf d : M (List D)) := rfl
theorem evIt_rng {es env} : evIt (.rng es) env = ( do let rs ← evEs es env; rngB rs : M (List D)) := rfl
theorem evIt_enum {e env} : evIt (.enum e) env = ( do let r ← evE e env; let d ← use r; let ds ← itemsOf d; pure (enumD 0 ds) : M (List D)) := rfl
theorem evIt_zip {a b env} : evIt (.zip a b) env = ( do
    let x ← evE a env
    let y ← evE b env
    let p ← use x
    let q ← use y
    M.guard (isTupD p == isTupD q)
    let as ← itemsOf p
    let bs ← itemsOf q
    pure (zipD as bs)
   : M (List D)) := rfl
theorem evIt_zip3 {es env} : evIt (.zip3 es) env = ( do let ds ← evDs es env; zip3B ds : M (List D)) := rfl
theorem evTg_n {i d env} : evTg (.n i) d env = ( pure (env.set i (some (.dat d))) : M Env) := rfl
theorem evTg_t {ts d env} : evTg (.t ts) d env = ( do
    match d with
    | .tup xs => evTgs ts xs env
    | _ => M.no
   : M Env) := rfl
theorem evTg_ix {a i d env} : evTg (.ix a i) d env = ( do
    let x ← evE a env
    let y ← evE i env
    let q ← live x
    ixSet q.1 q.2 y d env
   : M Env) := rfl
theorem evTgs_nil {env} : evTgs .nil [] env = ( pure env : M Env) := rfl
theorem evTgs_cons {t ts d ds env} : evTgs (.cons t ts) (d :: ds) env = ( do let env' ← evTg t d env; evTgs ts ds env' : M Env) := rfl
theorem evS_asg {m i e env} : evS (.asg m i e) env = ( do
    let r ← evE e env
    let env' ← store1 m i r env
    pure (.nx env')
   : M Flow) := rfl
theorem evS_asgT {t e env} : evS (.asgT t e) env = ( do
    let r ← evE e env
    let d ← use r
    let env' ← evTg t d env
    pure (.nx env')
   : M Flow) := rfl
theorem evS_par {cs es env} : evS (.par cs es) env = ( do
    let rs ← evEs es env
    let env' ← parM cs rs env
    pure (.nx env')
   : M Flow) := rfl
theorem evS_ex {e env} : evS (.ex e) env = ( do let _ ← evE e env; pure (.nx env) : M Flow) := rfl
theorem evS_ret {e env} : evS (.ret e) env = ( do let r ← evE e env; pure (.rt r) : M Flow) := rfl
theorem evS_retN {u1} : evS .retN u1 = ( pure (.rt (.dat .non)) : M Flow) := rfl
theorem evS_iff {c a b env} : evS (.iff c a b) env = ( do if ← evT c env then evSs a env else evSs b env : M Flow) := rfl
theorem evS_for {ws t it body env} : evS (.for ws t it body) env = ( do
    let ds ← evIt it env
    fun s => forM (fun d env => do let env' ← evTg t d env; let fl ← evSs body env'; trim s.length ws fl) ds (wipe env ws) s
   : M Flow) := rfl
theorem evS_whl {ws n c body env} : evS (.whl ws n c body) env = ( fun s => whM (fun env => evT c env) (fun env => do let fl ← evSs body env; trim s.length ws fl) n (wipe env ws) s : M Flow) := rfl
theorem evS_rai {u1} : evS .rai u1 = ( M.no : M Flow) := rfl
theorem evS_pass {env} : evS .pass env = ( pure (.nx env) : M Flow) := rfl
theorem evS_brk {env} : evS .brk env = ( pure (.bk env) : M Flow) := rfl
theorem evS_cont {env} : evS .cont env = ( pure (.ct env) : M Flow) := rfl
theorem evSs_nil {env} : evSs .nil env = ( pure (.nx env) : M Flow) := rfl
theorem evSs_cons {s ss env} : evSs (.cons s ss) env = ( do
    match ← evS s env with
    | .nx e => evSs ss e
    | f => pure f
   : M Flow) := rfl
theorem evSs_zr {i a b tg elt env} : evSs (.zr i a b tg elt) env = ( do
    M.guard (decide (i < env.length))
    let x ← evE a env
    let y ← evE b env
    let p ← use x
    let q ← use y
    M.guard (isTupD p == isTupD q)
    let as ← itemsOf p
    let bs ← itemsOf q
    let os ← mapP (fun d => do
      let env' ← evTg tg d (wipe (env.set i none) tg.slots)
      let r ← evE elt env'
      use r) (zipD as bs)
    pure (.rt (.dat (.tup os)))
   : M Flow) := rfl
theorem runFn_mk {n ms body rs} : runFn (.mk n ms body) rs = ( fun s => (do
    let as ← bindA ms rs
    let r ← backM (celA ms as) (do
      let f ← evSs body (locA ms as 0 ++ List.replicate (n - as.length) none)
      flowR f)
    endFn s.length r) s
   : M R) := rfl
theorem runFn_ini {c n fs rs} : runFn (.ini c n fs) rs = ( do
    let ds ← uses rs
    let r ← backM [] (do
      let xs ← evDs fs (none :: (ds.map fun d => some (.dat d)) ++ List.replicate (n - 1 - ds.length) none)
      pure (.dat (.obj c xs)))
    pure r
   : M R) := rfl
theorem runFn_no {u1} : runFn .no u1 = ( M.no : M R) := rfl
end DB
set_option maxHeartbeats 1000000
namespace DB
open PySem PySem.Spec L2

/-! ### keys of dicts -/
def keyD : Key → D
  | .inl i => .int i
  | .inr s => .str s
theorem keyD_beq (a b : Key) : D.beq (keyD a) (keyD b) = decide (a = b) := by
  cases a with
  | inl a =>
    cases b with
    | inl b => show decide (a = b) = _; rw [decide_eq_decide]; exact ⟨fun e => by rw [e], fun e => Sum.inl.inj e⟩
    | inr b => rfl
  | inr a =>
    cases b with
    | inl b => rfl
    | inr b => show decide (a = b) = _; rw [decide_eq_decide]; exact ⟨fun e => by rw [e], fun e => Sum.inr.inj e⟩
/-- a key, by its data -/
def keyOf : D → Option Key
  | .int i => some (.inl i)
  | .str s => some (.inr s)
  | _ => none
theorem keyOf_eq {d : D} {k : Key} (h : keyOf d = some k) : d = keyD k := by
  cases d with
  | int i => cases h; rfl
  | str s => cases h; rfl
  | _ => cases h
/-! ### data over the abstract heap. F: what never changes -/
mutual
inductive DOk (K : PySem.W.Frag) (F : Hp) : V → D → Prop where
  | non : DOk K F .non .non
  | bl (b : Bool) : DOk K F (.bl b) (.bl b)
  | int (i : Int) : DOk K F (.int i) (.int i)
  | str (s : Str) : DOk K F (.str s) (.str s)
  | tup {a : Addr} {xs : List V} {ds : List D} : SqT K F a xs → xs.length ≤ sizeLine → DsOk K F xs ds → DOk K F (.ref a) (.tup ds)
  | lst {a : Addr} {xs : List V} {ds : List D} : F a = some (.lst xs) → xs.length ≤ sizeLine → DsOk K F xs ds → DOk K F (.ref a) (.lst ds)
  | scr {a : Addr} {xs : List V} {ds : List D} : SqL K F a xs → xs.length ≤ sizeLine → DsOk K F xs ds → DOk K F (.ref a) (.scr ds)
  | dct {a : Addr} {kvs : List (Key × V)} {ks vs : List D} : F a = some (.dK kvs) → kvs.length ≤ sizeLine → ks = kvs.map (fun p => keyD p.1) → (kvs.map (·.1)).Nodup → DsOk K F (kvs.map (·.2)) vs → DOk K F (.ref a) (.dct ks vs)
inductive DsOk (K : PySem.W.Frag) (F : Hp) : List V → List D → Prop where
  | nil : DsOk K F [] []
  | cons {v : V} {vs : List V} {d : D} {ds : List D} : DOk K F v d → DsOk K F vs ds → DsOk K F (v :: vs) (d :: ds)
end
theorem Same.seqT {K : PySem.W.Frag} {H H' : Hp} {a : Addr} {xs : List V} (e : Same H H') (h : SqT K H a xs) : SqT K H' a xs := by
  rcases h with (h | ⟨o, h⟩) | h
  · exact .inl (.inl (e _ _ h))
  · exact .inl (.inr ⟨o, e _ _ h⟩)
  · exact .inr h
section
variable {K : PySem.W.Frag} {F F' H H' : Hp}
mutual
theorem DOk.mono (s : Same F F') : ∀ {v : V} {d : D}, DOk K F v d → DOk K F' v d
  | _, _, .non => .non
  | _, _, .bl b => .bl b
  | _, _, .int i => .int i
  | _, _, .str x => .str x
  | _, _, .tup h l r => .tup (Same.seqT s h) l (DsOk.mono s r)
  | _, _, .lst h l r => .lst (s _ _ h) l (DsOk.mono s r)
  | _, _, .scr h l r => .scr (s.seq h) l (DsOk.mono s r)
  | _, _, .dct h l e n r => .dct (s _ _ h) l e n (DsOk.mono s r)
theorem DsOk.mono (s : Same F F') : ∀ {vs : List V} {ds : List D}, DsOk K F vs ds → DsOk K F' vs ds
  | _, _, .nil => .nil
  | _, _, .cons h r => .cons (DOk.mono s h) (DsOk.mono s r)
end
theorem DsOk.length : ∀ {vs : List V} {ds : List D}, DsOk K F vs ds → vs.length = ds.length
  | _, _, .nil => rfl
  | _, _, .cons _ r => congrArg Nat.succ (DsOk.length r)
theorem DsOk.append : ∀ {vs ws : List V} {ds es : List D}, DsOk K F vs ds → DsOk K F ws es → DsOk K F (vs ++ ws) (ds ++ es)
  | _, _, _, _, .nil, s => s
  | _, _, _, _, .cons h r, s => .cons h (DsOk.append r s)
theorem DsOk.rep {vs : List V} {ds : List D} (h : DsOk K F vs ds) : ∀ n : Nat, DsOk K F (List.replicate n vs).flatten (List.replicate n ds).flatten
  | 0 => .nil
  | n + 1 => by
    rw [List.replicate_succ, List.replicate_succ, List.flatten_cons, List.flatten_cons]
    exact h.append (h.rep n)
theorem DsOk.get : ∀ {vs : List V} {ds : List D} {i : Nat} {d : D}, DsOk K F vs ds → ds[i]? = some d → ∃ v, vs[i]? = some v ∧ DOk K F v d
  | _, _, _, _, .nil, e => by simp at e
  | _, _, 0, _, .cons h _, e => by simp at e; subst e; exact ⟨_, rfl, h⟩
  | _, _, i + 1, _, .cons _ r, e => DsOk.get (i := i) r (by simpa using e)
theorem DsOk.drop : ∀ {vs : List V} {ds : List D} (n : Nat), DsOk K F vs ds → DsOk K F (vs.drop n) (ds.drop n)
  | _, _, 0, r => r
  | _, _, _ + 1, .nil => .nil
  | _, _, n + 1, .cons _ r => DsOk.drop n r
theorem DsOk.take : ∀ {vs : List V} {ds : List D} (n : Nat), DsOk K F vs ds → DsOk K F (vs.take n) (ds.take n)
  | _, _, 0, _ => .nil
  | _, _, _ + 1, .nil => .nil
  | _, _, n + 1, .cons h r => .cons h (DsOk.take n r)
theorem DsOk.set : ∀ {vs : List V} {ds : List D} (i : Nat) {v : V} {d : D}, DsOk K F vs ds → DOk K F v d → DsOk K F (vs.set i v) (ds.set i d)
  | _, _, _, _, _, .nil, _ => .nil
  | _, _, 0, _, _, .cons _ r, h => .cons h r
  | _, _, i + 1, _, _, .cons h' r, h => .cons h' (DsOk.set i r h)
theorem DsOk.eraseIdx : ∀ {vs : List V} {ds : List D} (i : Nat), DsOk K F vs ds → DsOk K F (vs.eraseIdx i) (ds.eraseIdx i)
  | _, _, _, .nil => .nil
  | _, _, 0, .cons _ r => r
  | _, _, i + 1, .cons h r => .cons h (DsOk.eraseIdx i r)
mutual
theorem DOk.dp : ∀ {d : D} {v : V} {p : PyData}, DOk K F v d → d.toP = some p → Dp K F v p
  | .non, _, _, h, e => by cases h; simp only [D.toP, Option.some.injEq] at e; subst e; exact .non
  | .bl b, _, _, h, e => by cases h; simp only [D.toP, Option.some.injEq] at e; subst e; exact .bl b
  | .int i, _, _, h, e => by cases h; simp only [D.toP, Option.some.injEq] at e; subst e; exact .int i
  | .str s, _, _, h, e => by cases h; simp only [D.toP, Option.some.injEq] at e; subst e; exact .str s
  | .tup xs, _, _, h, e => by
    cases h with
    | tup h l r =>
      simp only [D.toP] at e
      split at e
      · rename_i ps q
        cases e
        exact .tup h (DsOk.dp r q)
      · cases e
  | .lst xs, _, _, h, e => by
    cases h with
    | lst h l r =>
      simp only [D.toP] at e
      split at e
      · rename_i ps q
        cases e
        exact .lst (SqL.of h) (DsOk.dp r q)
      · cases e
  | .scr _, _, _, _, e => by simp only [D.toP] at e; cases e
  | .dct _ _, _, _, _, e => by simp only [D.toP] at e; cases e
  | .obj _ _, _, _, h, _ => by cases h
  | .fn _, _, _, h, _ => by cases h
  | .itr _, _, _, h, _ => by cases h
theorem DsOk.dp : ∀ {ds : List D} {vs : List V} {ps : List PyData}, DsOk K F vs ds → D.toPs ds = some ps → DpAll K F vs ps
  | [], _, _, h, e => by cases h; simp only [D.toPs, Option.some.injEq] at e; subst e; exact .nil
  | d :: ds, _, _, h, e => by
    cases h with
    | cons h r =>
      simp only [D.toPs] at e
      split at e
      · rename_i p ps q1 q2
        cases e
        exact .cons (DOk.dp h q1) (DsOk.dp r q2)
      · cases e
end
mutual
theorem Dp.mono (s : Same F F') : ∀ {v : V} {d : PyData}, Dp K F v d → Dp K F' v d
  | _, _, .non => .non
  | _, _, .bl b => .bl b
  | _, _, .int i => .int i
  | _, _, .str x => .str x
  | _, _, .tup h r => .tup (Same.seqT s h) (DpAll.mono s r)
  | _, _, .lst h r => .lst (s.seq h) (DpAll.mono s r)
theorem DpAll.mono (s : Same F F') : ∀ {vs : List V} {ds : List PyData}, DpAll K F vs ds → DpAll K F' vs ds
  | _, _, .nil => .nil
  | _, _, .cons h r => .cons (Dp.mono s h) (DpAll.mono s r)
end
end

/-! ### cells -/
/-- a live cell's object holds the content -/
inductive CelOk (K : PySem.W.Frag) (F H : Hp) (a : Addr) : D → Prop where
  | lst {xs : List V} {ds : List D} : H a = some (.lst xs) → xs.length ≤ sizeLine → DsOk K F xs ds → CelOk K F H a (.lst ds)
  | dct {kvs : List (Key × V)} {ks vs : List D} : H a = some (.dK kvs) → kvs.length ≤ sizeLine → ks = kvs.map (fun p => keyD p.1) → (kvs.map (·.1)).Nodup → DsOk K F (kvs.map (·.2)) vs → CelOk K F H a (.dct ks vs)
structure StOk (K : PySem.W.Frag) (F H : Hp) (as : List Addr) (st : Sto) : Prop where
  sub : Same F H
  len : as.length = st.length
  live : ∀ (c : Nat) (a : Addr) (d : D), as[c]? = some a → st[c]? = some ⟨d, true⟩ → F a = none ∧ CelOk K F H a d ∧ ∀ c' : Nat, as[c']? = some a → c' = c
  froz : ∀ (c : Nat) (a : Addr) (d : D), as[c]? = some a → st[c]? = some ⟨d, false⟩ → DOk K F (.ref a) d ∧ F a ≠ none
/-- no live cell stands there -/
def NL (as : List Addr) (st : Sto) (b : Addr) : Prop := ∀ (c : Nat) (d : D), st[c]? = some ⟨d, true⟩ → as[c]? ≠ some b
structure Ext (ex : List Addr) (as : List Addr) (F H : Hp) (st : Sto) (as' : List Addr) (F' H' : Hp) (st' : Sto) : Prop where
  pre : ∃ new, as' = as ++ new ∧ ∀ a ∈ new, H a = none
  f : Same F F'
  k : ∀ b, H b ≠ none → H' b ≠ none
  h : ∀ b o, H b = some o → NL as st b → b ∉ ex → H' b = some o ∧ (F b = none → F' b = none)
  l : ∀ (c : Nat) (d : D), c < st.length → st'[c]? = some ⟨d, true⟩ → ∃ d0, st[c]? = some ⟨d0, true⟩
  g : st.length ≤ st'.length
inductive ROk (K : PySem.W.Frag) (F H : Hp) (as : List Addr) : V → R → Prop where
  | dat {v : V} {d : D} : DOk K F v d → ROk K F H as v (.dat d)
  | own {a : Addr} {d : D} : F a = none → CelOk K F H a d → a ∉ as → ROk K F H as (.ref a) (.own d)
  | cell {a : Addr} {c : Nat} : as[c]? = some a → ROk K F H as (.ref a) (.cell c)
/-- what is new is not of the elder heap -/
def Fresh (H : Hp) (v : V) : R → Prop
  | .own _ => ∀ a, v = .ref a → H a = none
  | _ => True
structure EnvOk (K : PySem.W.Frag) (F : Hp) (as : List Addr) (σ : St) (env : Env) : Prop where
  len : env.length = σ.length
  get : ∀ (i : Nat) (r : R), env[i]? = some (some r) → ∃ v, σ[i]? = some (some v) ∧ ((∃ d, r = .dat d ∧ DOk K F v d) ∨ ∃ c a, r = .cell c ∧ v = .ref a ∧ as[c]? = some a)
section
variable {K : PySem.W.Frag} {F F' F'' H H' H'' : Hp} {ex ex' ex'' as as' as'' : List Addr} {st st' st'' : Sto}
theorem CelOk.some {a : Addr} {d : D} (h : CelOk K F H a d) : H a ≠ none := by
  cases h with
  | lst h _ _ => rw [h]; exact fun z => nomatch z
  | dct h _ _ _ _ => rw [h]; exact fun z => nomatch z
theorem CelOk.keep {a : Addr} {d : D} (h : CelOk K F H a d) (e : H' a = H a) (s : Same F F') : CelOk K F' H' a d := by
  cases h with
  | lst h l r => exact .lst (e.trans h) l (r.mono s)
  | dct h l q n r => exact .dct (e.trans h) l q n (r.mono s)
theorem Same.some (s : Same F F') {a : Addr} (h : F a ≠ none) : F' a ≠ none := by
  cases e : F a with
  | none => exact absurd e h
  | some o => rw [s a o e]; exact fun z => nomatch z
theorem Ext.refl : Ext ex as F H st as F H st :=
  ⟨⟨[], by simp, fun _ h => nomatch h⟩, Same.refl F, fun _ h => h, fun _ _ h _ _ => ⟨h, id⟩, fun c d _ h => ⟨d, h⟩, Nat.le_refl _⟩
theorem NL.mono (e : Ext ex as F H st as' F' H' st') (hl : as.length = st.length) (hl' : as'.length = st'.length) {b : Addr} (hb : H b ≠ none) (n : NL as st b) : NL as' st' b := by
  intro c d hc ha
  obtain ⟨new, rfl, hn⟩ := e.pre
  by_cases hlt : c < st.length
  · obtain ⟨d0, h0⟩ := e.l c d hlt hc
    rw [List.getElem?_append_left (by omega)] at ha
    exact n c d0 h0 ha
  · rw [List.getElem?_append_right (by omega)] at ha
    exact hb (hn b (List.mem_of_getElem? ha))
theorem Ext.transX (a : Ext ex as F H st as' F' H' st') (hl : as.length = st.length) (hl' : as'.length = st'.length) (b : Ext ex' as' F' H' st' as'' F'' H'' st'')
    (h1 : ∀ x ∈ ex, x ∈ ex'' ∨ H x = none) (h2 : ∀ x ∈ ex', x ∈ ex'' ∨ H x = none) : Ext ex'' as F H st as'' F'' H'' st'' where
  pre := by
    obtain ⟨n1, rfl, h1⟩ := a.pre
    obtain ⟨n2, rfl, h2⟩ := b.pre
    refine ⟨n1 ++ n2, by simp, fun x hx => ?_⟩
    rcases List.mem_append.mp hx with hx | hx
    · exact h1 x hx
    · cases e : H x with
      | none => rfl
      | some o => exact absurd (h2 x hx) (a.k x (by rw [e]; exact fun z => nomatch z))
  f := a.f.trans b.f
  k := fun x hx => b.k x (a.k x hx)
  h := fun x o hx n nx => by
    have n1 : x ∉ ex := fun z => (h1 x z).elim nx fun q => by rw [hx] at q; cases q
    have n2 : x ∉ ex' := fun z => (h2 x z).elim nx fun q => by rw [hx] at q; cases q
    obtain ⟨h1, f1⟩ := a.h x o hx n n1
    obtain ⟨h2, f2⟩ := b.h x o h1 (NL.mono a hl hl' (by rw [hx]; exact fun z => nomatch z) n) n2
    exact ⟨h2, fun z => f2 (f1 z)⟩
  l := fun c d hc h => by
    obtain ⟨d0, h0⟩ := b.l c d (Nat.lt_of_lt_of_le hc a.g) h
    exact a.l c d0 hc h0
  g := Nat.le_trans a.g b.g
theorem Ext.trans (a : Ext ex as F H st as' F' H' st') (hl : as.length = st.length) (hl' : as'.length = st'.length) (b : Ext ex as' F' H' st' as'' F'' H'' st'') : Ext ex as F H st as'' F'' H'' st'' :=
  a.transX hl hl' b (fun _ h => .inl h) fun _ h => .inl h
theorem Ext.wide (a : Ext ex as F H st as' F' H' st') (h : ∀ x ∈ ex, x ∈ ex' ∨ H x = none) : Ext ex' as F H st as' F' H' st' where
  pre := a.pre
  f := a.f
  k := a.k
  h := fun x o hx n nx => a.h x o hx n fun z => (h x z).elim nx fun q => by rw [hx] at q; cases q
  l := a.l
  g := a.g
theorem Fresh.back (e : Ext ex as F H st as' F' H' st') {v : V} {r : R} (h : Fresh H' v r) : Fresh H v r := by
  cases r with
  | own d =>
    intro a ha
    cases q : H a with
    | none => rfl
    | some o => exact absurd (h a ha) (e.k a (by rw [q]; exact fun z => nomatch z))
  | _ => trivial
/-- the addresses of what is new -/
def ownA : V → R → List Addr
  | .ref a, .own _ => [a]
  | _, _ => []
theorem ROk.ext {v : V} {r : R} (h : ROk K F H as v r) (hl : as.length = st.length) (e : Ext ex as F H st as' F' H' st') (hx : ∀ a ∈ ownA v r, a ∉ ex) : ROk K F' H' as' v r := by
  obtain ⟨new, rfl, hn⟩ := e.pre
  cases h with
  | dat h => exact .dat (h.mono e.f)
  | @own a d hf hc hm =>
    have hs := hc.some
    obtain ⟨o, ho⟩ : ∃ o, H a = some o := by
      cases q : H a with
      | none => exact absurd q hs
      | some o => exact ⟨o, rfl⟩
    have n : NL as st a := fun c d0 _ hc' => hm (List.mem_of_getElem? hc')
    obtain ⟨h1, f1⟩ := e.h a o ho n (hx a (by simp [ownA]))
    refine .own (f1 hf) (hc.keep (by rw [h1, ho]) e.f) fun z => ?_
    rcases List.mem_append.mp z with z | z
    · exact hm z
    · exact hs (hn a z)
  | cell h => exact .cell (by rw [List.getElem?_append_left (List.getElem?_eq_some_iff.mp h).1]; exact h)
theorem EnvOk.ext {σ : St} {env : Env} (h : EnvOk K F as σ env) (e : Ext ex as F H st as' F' H' st') : EnvOk K F' as' σ env := by
  refine ⟨h.len, fun i r hi => ?_⟩
  obtain ⟨v, hv, q⟩ := h.get i r hi
  obtain ⟨new, rfl, hn⟩ := e.pre
  refine ⟨v, hv, ?_⟩
  rcases q with ⟨d, rfl, q⟩ | ⟨c, a, rfl, rfl, q⟩
  · exact .inl ⟨d, rfl, q.mono e.f⟩
  · exact .inr ⟨c, a, rfl, rfl, by rw [List.getElem?_append_left (List.getElem?_eq_some_iff.mp q).1]; exact q⟩
/-- a new object of which nobody knows -/
theorem StOk.upd (s : StOk K F H as st) {p : Addr} {o : HO} (hp : H p = none) : StOk K F (L2.upd H p o) as st := by
  refine ⟨fun b u h => ?_, s.len, fun c a d h1 h2 => ?_, s.froz⟩
  · have := s.sub b u h
    rw [upd_ne (ne_of_none this hp)]
    exact this
  · obtain ⟨f, c1, u⟩ := s.live c a d h1 h2
    exact ⟨f, c1.keep (upd_ne fun z => c1.some (by rw [z]; exact hp)) (Same.refl _), u⟩
theorem Same.updB {H : Hp} {p : Addr} {o : HO} (hp : H p = none) : Same H (L2.upd H p o) := fun b u h => by
  rw [upd_ne (ne_of_none h hp)]; exact h
theorem Ext.updH {p : Addr} {o : HO} (hp : H p = none) : Ext ex as F H st as F (L2.upd H p o) st :=
  ⟨⟨[], by simp, fun _ h => nomatch h⟩, Same.refl F, fun b h z => by
    unfold L2.upd at z
    split at z
    · cases z
    · exact h z, fun b u h _ _ => ⟨Same.updB hp b u h, id⟩, fun c d _ h => ⟨d, h⟩, Nat.le_refl _⟩
theorem StOk.cellSome (s : StOk K F H as st) {a : Addr} (h : a ∈ as) : H a ≠ none := by
  obtain ⟨c, hc⟩ := List.getElem?_of_mem h
  have hlt : c < st.length := by
    have := (List.getElem?_eq_some_iff.mp hc).1
    rw [s.len] at this
    exact this
  obtain ⟨⟨d, b⟩, hd⟩ : ∃ x, st[c]? = some x := ⟨_, List.getElem?_eq_getElem hlt⟩
  cases b with
  | true => exact (s.live c a d hc hd).2.1.some
  | false => exact Same.some s.sub (s.froz c a d hc hd).2
/-- a new object that never changes -/
theorem StOk.updF (s : StOk K F H as st) {p : Addr} {o : HO} (hp : H p = none) : StOk K (L2.upd F p o) (L2.upd H p o) as st := by
  have fp : F p = none := by
    cases q : F p with
    | none => rfl
    | some u => rw [s.sub p u q] at hp; cases hp
  refine ⟨fun b u h => ?_, s.len, fun c a d h1 h2 => ?_, fun c a d h1 h2 => ⟨(s.froz c a d h1 h2).1.mono (Same.updB fp), Same.some (Same.updB fp) (s.froz c a d h1 h2).2⟩⟩
  · unfold L2.upd at h ⊢
    split at h
    · rename_i e
      rw [if_pos e]
      exact h
    · rename_i e
      rw [if_neg e]
      exact s.sub b u h
  · obtain ⟨f, c1, u⟩ := s.live c a d h1 h2
    have ne : a ≠ p := fun z => c1.some (by rw [z]; exact hp)
    exact ⟨by rw [upd_ne ne]; exact f, c1.keep (upd_ne ne) (Same.updB fp), u⟩
theorem Ext.updF (s : StOk K F H as st) {p : Addr} {o : HO} (hp : H p = none) : Ext ex as F H st as (L2.upd F p o) (L2.upd H p o) st := by
  have fp : F p = none := by
    cases q : F p with
    | none => rfl
    | some u => rw [s.sub p u q] at hp; cases hp
  refine ⟨⟨[], by simp, fun _ h => nomatch h⟩, Same.updB fp, fun b h z => ?_, fun b u h _ _ => ⟨Same.updB hp b u h, fun z => ?_⟩, fun c d _ h => ⟨d, h⟩, Nat.le_refl _⟩
  · unfold L2.upd at z
    split at z
    · cases z
    · exact h z
  · rw [upd_ne (ne_of_none h hp)]
    exact z
end
end DB
set_option maxHeartbeats 1000000
namespace DB
open PySem PySem.Spec L2

/-! ### does the text agree with a program of ours -/
structure AC where
  N : List Str
  sc : Scope
  blk : Option Scope
  fns : List Str
def visB (sc : Scope) (x : Str) : Bool := match sc.names.lookup x with
  | some .local => true
  | some .cell => true
  | some .free => true
  | _ => false
def locB (sc : Scope) (blk : Option Scope) (x : Str) : Bool := match sc.names.lookup x with
  | some .local => true
  | some .cell => (match blk with
    | none => true
    | some s => s.names.lookup x == some .cell)
  | _ => false
def glB (sc : Scope) (x : Str) : Bool := decide (sc.names.lookup x = some .globalImplicit) && !(x == ("__debug__" : Str))
def constB : D → Const → Bool
  | .non, .none => true
  | .bl b, .bool c => b == c
  | .int i, .int j => decide (i = j)
  | .str x, .str y => decide (x = y)
  | _, _ => false
def bopB : Bop → Operator → Bool
  | .add, .Add => true
  | .sub, .Sub => true
  | .mul, .Mult => true
  | .mod, .Mod => true
  | .fdiv, .FloorDiv => true
  | .pow, .Pow => true
  | _, _ => false
def copB : Cop → CmpOp → Bool
  | .eq, .Eq => true
  | .ne, .NotEq => true
  | .lt, .Lt => true
  | .le, .LtE => true
  | .gt, .Gt => true
  | .ge, .GtE => true
  | .mem, .In => true
  | .nmem, .NotIn => true
  | _, _ => false
def swName : Sw → String
  | .sort => "sorted" | .len => "len"
def biName : Bi → String
  | .len => "len" | .all => "all" | .any => "any" | .int => "int" | .abs => "abs" | .min => "min" | .max => "max" | .tuple => "tuple" | .list => "list" | .divmod => "divmod" | .sorted => "sorted" | .sum => "sum" | .minL => "min" | .maxL => "max" | .str => "str"
def tyOk (t : String) : Bool := ["int", "bool", "str", "tuple", "list", "dict"].contains t
/-- one that is a comparison, but by `is True` -/
def isBC : E → Bool
  | .isB _ _ _ => true
  | _ => false
def plainX : Expr → Bool
  | .UnaryOp .Not _ _ => false
  | .BoolOp _ _ _ => false
  | .IfExp _ _ _ _ => false
  | .Compare _ _ _ _ => false
  | _ => true
def notSlice : Expr → Bool
  | .Slice _ _ _ _ => false
  | _ => true
def notSet : Expr → Bool
  | .Set _ _ _ => false
  | _ => true
def notStar : Expr → Bool
  | .Starred _ _ => false
  | _ => true
def isTupX : Expr → Bool
  | .Tuple _ _ _ => true
  | _ => false
def notCallX : Expr → Bool
  | .Call _ _ _ _ => false
  | _ => true
def mName : Mm → String
  | .append => "append" | .insert => "insert" | .pop => "pop" | .popi => "pop" | .extend => "extend"
def ownOf (N : List Str) (is : List Nat) : List (Str × Nat) := is.map fun i => (N.getD i (Str.ofString ""), i)
def AC.sub (c : AC) (scope : Scope) : AC := { c with sc := relS scope c.sc, blk := some scope }
def isNoneX : Expr → Bool
  | .Constant .none _ _ => true
  | _ => false
def isOpB (no : Bool) : CmpOp → Bool
  | .Is => !no
  | .IsNot => no
  | _ => false

def isBoolX (b : Bool) : Expr → Bool
  | .Constant (.bool j) _ _ => j == b
  | _ => false
/-- a tuple's classes -/
def tysB (c : AC) : List String → List Expr → Bool
  | [], [] => true
  | t :: ts, .Name y _ :: es => decide (y = Str.ofString t) && (glB c.sc y && (tyOk t && tysB c ts es))
  | _, _ => false
def kwNames (kws : List Keyword) : List (Option Str) := kws.map (·.arg)
mutual
def agE (c : AC) : E → Expr → Bool
  | .k d, .Constant k _ _ => constB d k
  | .v i, .Name x _ => decide (c.N[i]? = some x) && (visB c.sc x && (!(x == ("__debug__" : Str)) && !(x == ("__classdict__" : Str))))
  | .glob y _, .Name x _ => decide (y = x) && glB c.sc x
  | .bin op a b, .BinOp a' op' b' _ => bopB op op' && (agE c a a' && agE c b b')
  | .neg a, .UnaryOp .USub a' _ => agE c a a'
  | .cmp op a b, .Compare a' [op'] [b'] _ => copB op op' && (notSet b' && (agE c a a' && agE c b b'))
  | .dctk [] [], .Dict [] [] _ => true
  | .dctk [k] [v], .Dict [some (.Constant k' _ _)] [.Constant v' _ _] _ => constB k k' && constB v v'
  | .repEq neg a b, .Compare (.Call (.Name y _) [a'] [] _) [op] [.Call (.Name z _) [b'] [] _] _ => copB (if neg then .ne else .eq) op && (decide (y = ("repr" : Str)) && (decide (z = ("repr" : Str)) && (glB c.sc y && (notStar a' && (notStar b' && (agE c a a' && agE c b b'))))))
  | .chain o1 o2 a b d, .Compare a' [p1, p2] [b', d'] _ => copB o1 p1 && (copB o2 p2 && (notSet d' && (agE c a a' && (agE c b b' && agE c d d'))))
  | .isN no a, .Compare a' [op] [b'] _ => isNoneX b' && (isOpB no op && agE c a a')
  | .and es, .BoolOp .And es' _ => !es'.isEmpty && agEs c es es'
  | .or es, .BoolOp .Or es' _ => !es'.isEmpty && agEs c es es'
  | .not a, .UnaryOp .Not a' _ => agE c a a'
  | .ite t a b, .IfExp t' a' b' _ => agT c t t' && (agE c a a' && agE c b b')
  | .tup es, .Tuple es' _ _ => agEs c es es' && decide (es'.length ≤ sizeLine)
  | .lst es, .List es' _ => agEs c es es' && decide (es'.length ≤ sizeLine)
  | .ix a i, .Subscript a' i' _ => notSlice i' && (agE c a a' && agE c i i')
  | .sl a lo hi, .Subscript a' (.Slice lo' hi' none _) _ => agE c a a' && (agPart c lo lo' && agPart c hi hi')
  | .isI t a, .Call (.Name x _) [a', .Name y _] [] _ => decide (x = ("isinstance" : Str)) && (glB c.sc x && (decide (y = Str.ofString t) && (glB c.sc y && (tyOk t && (notStar a' && agE c a a')))))
  | .call f id es, .Call (.Name x _) es' [] _ => decide (c.fns[id]? = some x) && (glB c.sc x && agEs c es es')
  | .callK f id n ks dd perm es kes, .Call (.Name x _) es' kws' _ => decide (c.fns[id]? = some x) && (glB c.sc x && (decide (es'.length = n) && (decide (kwNames kws' = ks.map some) && (agEs c es es' && agKs c kes kws'))))
  | .bi b es, .Call (.Name x _) es' [] _ => decide (x = Str.ofString (biName b)) && (glB c.sc x && (!es'.isEmpty && agEs c es es'))
  | .mth m a es, .Call (.Attribute o y apos) es' [] cpos => decide (y = Str.ofString (mName m)) && (notCallX o && (decide (apos.endLine = cpos.line) && (decide (es'.length < 20) && (agE c a o && agEs c es es'))))
  | .lrng t es, .Call (.Name x _) [.Call (.Name y _) es' [] _] [] _ => decide (x = Str.ofString (if t then "tuple" else "list")) && (glB c.sc x && (decide (y = ("range" : Str)) && (glB c.sc y && agEs c es es')))
  | .comp tg it cond elt, .ListComp elt' [⟨tg', it', ifs', 0⟩] scope _ =>
    blkC c.N c.sc scope (ownOf c.N tg.slots) && (agIt c tg' it it' && (notSet it' && (agTg (c.sub scope) tg tg' && (agC (c.sub scope) cond ifs' && agE (c.sub scope) elt elt'))))
  | .compp tg it cond elt, .ListComp elt' [⟨tg', it', ifs', 0⟩] scope _ =>
    blkC c.N c.sc scope (ownOf c.N tg.slots) && (agIt c tg' it it' && (notSet it' && (agTg (c.sub scope) tg tg' && (agC (c.sub scope) cond ifs' && agE (c.sub scope) elt elt'))))
  | .comp2 tg it tg2 it2 cond elt, .ListComp elt' [⟨tg', it', [], 0⟩, ⟨tg2', it2', ifs', 0⟩] scope _ =>
    blkC c.N c.sc scope (ownOf c.N (tg.slots ++ tg2.slots)) && (agIt c tg' it it' && (notSet it' && (agTg (c.sub scope) tg tg' && (agIt (c.sub scope) tg2' it2 it2' && (notSet it2' && (agTg (c.sub scope) tg2 tg2' && (agC (c.sub scope) cond ifs' && agE (c.sub scope) elt elt')))))))
  | .setw w a, .Call (.Name x _) [.Call (.Name y _) [a'] [] _] [] _ => decide (x = Str.ofString (swName w)) && (glB c.sc x && (decide (y = ("set" : Str)) && (glB c.sc y && (notStar a' && agE c a a'))))
  | .tups es, .Tuple es' _ _ => agStar c es es'
  | .lsts es, .List es' _ => agStar c es es'
  | .sls st a, .Subscript a' (.Slice none none (some (.UnaryOp .USub (.Constant (.int j) _ _) _)) _) _ => decide (st = -1) && (decide (j = 1) && agE c a a')
  | .isIs ts a, .Call (.Name x _) [a', .Tuple es' _ _] [] _ => decide (x = ("isinstance" : Str)) && (glB c.sc x && (decide (ts.length ≤ sizeLine) && (tysB c ts es' && (notStar a' && agE c a a'))))
  | .isB no b a, .Compare a' [op] [b'] _ => isBoolX b b' && (isOpB no op && agE c a a')
  | _, _ => false
def agStar (c : AC) : Es → List Expr → Bool
  | .nil, [] => true
  | .cons e es, e' :: es' => notStar e' && (agE c e e' && agStar c es es')
  | .star e es, .Starred e' _ :: es' => agE c e e' && agStar c es es'
  | _, _ => false
def agEs (c : AC) : Es → List Expr → Bool
  | .nil, [] => true
  | .cons e es, e' :: es' => notStar e' && (agE c e e' && agEs c es es')
  | _, _ => false
def agKs (c : AC) : Es → List Keyword → Bool
  | .nil, [] => true
  | .cons e es, ⟨_, e', _⟩ :: es' => agE c e e' && agKs c es es'
  | _, _ => false
def agPart (c : AC) : Es → Option Expr → Bool
  | .nil, none => true
  | .cons e .nil, some e' => agE c e e'
  | _, _ => false
def agT (c : AC) : T → Expr → Bool
  | .val e, e' => (plainX e' || isBC e) && agE c e e'
  | .and ts, .BoolOp .And es' _ => !es'.isEmpty && agTs c ts es'
  | .or ts, .BoolOp .Or es' _ => !es'.isEmpty && agTs c ts es'
  | .not t, .UnaryOp .Not a' _ => agT c t a'
  | .cmp op a b, .Compare a' [op'] [b'] _ => copB op op' && (notSet b' && (agE c a a' && agE c b b'))
  | .chain o1 o2 a b d, .Compare a' [p1, p2] [b', d'] _ => copB o1 p1 && (copB o2 p2 && (notSet d' && (agE c a a' && (agE c b b' && agE c d d'))))
  | .isN no a, .Compare a' [op] [b'] _ => isNoneX b' && (isOpB no op && agE c a a')
  | _, _ => false
def agTs (c : AC) : Ts → List Expr → Bool
  | .nil, [] => true
  | .cons t ts, e' :: es' => agT c t e' && agTs c ts es'
  | _, _ => false
/-- a comprehension's tests: none or one -/
def agC (c : AC) : Ts → List Expr → Bool
  | .nil, [] => true
  | .cons t .nil, [e'] => agT c t e'
  | _, _ => false
def agIt (c : AC) (tg' : Expr) : It → Expr → Bool
  | .seq e, e' => notSet e' && agE c e e'
  | .rng es, .Call (.Name x _) es' [] _ => decide (x = ("range" : Str)) && (glB c.sc x && (decide (es'.length = 1 ∨ es'.length = 2) && agEs c es es'))
  | .enum e, .Call (.Name x _) [e'] [] _ => decide (x = ("enumerate" : Str)) && (glB c.sc x && (isTupX tg' && (notStar e' && agE c e e')))
  | .zip a b, .Call (.Name x _) [a', b'] [] _ => decide (x = ("zip" : Str)) && (glB c.sc x && (isTupX tg' && (notStar a' && (notStar b' && (agE c a a' && agE c b b')))))
  | .zip3 es, .Call (.Name x _) es' [] _ => decide (x = ("zip" : Str)) && (glB c.sc x && (isTupX tg' && (decide (es'.length = 3) && agEs c es es')))
  | _, _ => false
def agTg (c : AC) : Tg → Expr → Bool
  | .n i, .Name x _ => decide (c.N[i]? = some x) && locB c.sc c.blk x
  | .t ts, .Tuple es _ _ => agTgs c ts es
  | .ix a i, .Subscript a' i' _ => notSlice i' && (agE c a a' && agE c i i')
  | _, _ => false
def agTgs (c : AC) : Tgs → List Expr → Bool
  | .nil, [] => true
  | .cons t ts, e' :: es' => notStar e' && (agTg c t e' && agTgs c ts es')
  | _, _ => false
end
end DB
set_option maxHeartbeats 1000000
namespace DB
open PySem PySem.Spec L2

theorem bind_inv {α β : Type} {m : M α} {f : α → M β} {s s' : Sto} {b : β} (h : (m >>= f) s = .ok b s') : ∃ a s1, m s = .ok a s1 ∧ f a s1 = .ok b s' := by
  have h : (m s).bind f = .ok b s' := h
  unfold Res.bind at h
  split at h
  · rename_i a s1 e
    exact ⟨a, s1, e, h⟩
  · cases h
  · cases h
theorem pure_inv {α : Type} {a b : α} {s s' : Sto} (h : (pure a : M α) s = .ok b s') : b = a ∧ s' = s := by
  have h : Res.ok a s = .ok b s' := h
  cases h
  exact ⟨rfl, rfl⟩
theorem guard_inv {b : Bool} {u : Unit} {s s' : Sto} (h : M.guard b s = .ok u s') : b = true ∧ s' = s := by
  cases b with
  | true => cases h; exact ⟨rfl, rfl⟩
  | false => cases h
theorem opt_inv {α : Type} {o : Option α} {a : α} {s s' : Sto} (h : M.opt o s = .ok a s') : o = some a ∧ s' = s := by
  cases o with
  | some b => cases h; exact ⟨rfl, rfl⟩
  | none => cases h

inductive VOk (K : PySem.W.Frag) (F H : Hp) : V → D → Prop where
  | dat {v : V} {d : D} : DOk K F v d → VOk K F H v d
  | cel {a : Addr} {d : D} : CelOk K F H a d → VOk K F H (.ref a) d
section
variable {K : PySem.W.Frag} {F F' H H' : Hp} {as : List Addr} {st st' : Sto} {v : V} {d : D} {r : R}
theorem VOk.non (h : VOk K F H v .non) : v = .non := by
  cases h with
  | dat h => cases h; rfl
  | cel h => cases h
theorem VOk.bl {b : Bool} (h : VOk K F H v (.bl b)) : v = .bl b := by
  cases h with
  | dat h => cases h; rfl
  | cel h => cases h
theorem VOk.int {i : Int} (h : VOk K F H v (.int i)) : v = .int i := by
  cases h with
  | dat h => cases h; rfl
  | cel h => cases h
theorem VOk.str {i : Str} (h : VOk K F H v (.str i)) : v = .str i := by
  cases h with
  | dat h => cases h; rfl
  | cel h => cases h
theorem VOk.tup {ds : List D} (s : Same F H) (h : VOk K F H v (.tup ds)) : ∃ a xs, v = .ref a ∧ SqT K H a xs ∧ xs.length ≤ sizeLine ∧ DsOk K F xs ds ∧ DOk K F v (.tup ds) := by
  cases h with
  | dat h =>
    have h' := h
    cases h with
    | tup h l r => exact ⟨_, _, rfl, Same.seqT s h, l, r, h'⟩
  | cel h => cases h
theorem VOk.lst {ds : List D} (s : Same F H) (h : VOk K F H v (.lst ds)) : ∃ a xs, v = .ref a ∧ H a = some (.lst xs) ∧ xs.length ≤ sizeLine ∧ DsOk K F xs ds := by
  cases h with
  | dat h =>
    cases h with
    | lst h l r => exact ⟨_, _, rfl, s _ _ h, l, r⟩
  | cel h =>
    cases h with
    | lst h l r => exact ⟨_, _, rfl, h, l, r⟩
theorem VOk.scr {ds : List D} (s : Same F H) (h : VOk K F H v (.scr ds)) : ∃ a xs, v = .ref a ∧ SqL K H a xs ∧ xs.length ≤ sizeLine ∧ DsOk K F xs ds := by
  cases h with
  | dat h =>
    cases h with
    | scr h l r => exact ⟨_, _, rfl, s.seq h, l, r⟩
  | cel h => cases h
theorem VOk.dct {ks vs : List D} (s : Same F H) (h : VOk K F H v (.dct ks vs)) : ∃ (a : Addr) (kvs : List (Key × V)), v = .ref a ∧ H a = some (.dK kvs) ∧ kvs.length ≤ sizeLine ∧ ks = kvs.map (fun p => keyD p.1) ∧ (kvs.map (·.1)).Nodup ∧ DsOk K F (kvs.map (·.2)) vs := by
  cases h with
  | dat h =>
    cases h with
    | dct h l e n r => exact ⟨_, _, rfl, s _ _ h, l, e, n, r⟩
  | cel h =>
    cases h with
    | dct h l e n r => exact ⟨_, _, rfl, h, l, e, n, r⟩
/-- what is read at a key -/
theorem dget_val (k : Key) : ∀ {kvs : List (Key × V)} {vs : List D}, DsOk K F (kvs.map (·.2)) vs → (∀ d, dget (kvs.map fun p => keyD p.1) vs (keyD k) = some d → ∃ v, valV kvs k = some v ∧ DOk K F v d) ∧ (dget (kvs.map fun p => keyD p.1) vs (keyD k) = none → valV kvs k = none)
  | [], vs, _ => by
    constructor
    · intro d h
      unfold dget at h
      cases h
    · intro _
      rfl
  | p :: kvs, _, .cons h r => by
    obtain ⟨i1, i2⟩ := dget_val k r
    rw [List.map_cons]
    unfold dget
    rw [keyD_beq]
    by_cases e : p.1 = k
    · rw [decide_eq_true e, valV_pos e]
      constructor
      · intro d hd
        cases hd
        exact ⟨_, rfl, h⟩
      · intro z
        cases z
    · rw [decide_eq_false e, valV_neg e]
      exact ⟨i1, i2⟩
theorem putK_pos {p : Key × V} {r : List (Key × V)} {k : Key} {v : V} (e : p.1 = k) (n : k ∉ r.map (·.1)) : putK (p :: r) k v = (p.1, v) :: r := by
  unfold putK
  rw [if_pos (by simp [e]), List.map_cons, if_pos e]
  congr 1
  refine (List.map_congr_left fun q hq => ?_).trans (List.map_id r)
  have hne : ¬ q.1 = k := fun z => n (List.mem_map.mpr ⟨q, hq, z⟩)
  rw [if_neg hne]
  rfl
theorem putK_neg {p : Key × V} {r : List (Key × V)} {k : Key} {v : V} (e : ¬ p.1 = k) : putK (p :: r) k v = p :: putK r k v := by
  unfold putK
  rw [List.any_cons, decide_eq_false e, Bool.false_or]
  split
  · rw [List.map_cons, if_neg e]
  · rfl
/-- a key's new value -/
theorem dput_rel {k : Key} {w : V} {d : D} (hd : DOk K F w d) : ∀ {kvs : List (Key × V)} {vs : List D}, (kvs.map (·.1)).Nodup → DsOk K F (kvs.map (·.2)) vs →
    dputK (kvs.map fun p => keyD p.1) (keyD k) = (putK kvs k w).map (fun p => keyD p.1) ∧ DsOk K F ((putK kvs k w).map (·.2)) (dputV (kvs.map fun p => keyD p.1) vs (keyD k) d) ∧ ((putK kvs k w).map (·.1)).Nodup ∧ ∀ j, j ∈ (putK kvs k w).map (·.1) → j = k ∨ j ∈ kvs.map (·.1)
  | [], _, _, .nil => ⟨rfl, .cons hd .nil, by show [k].Nodup; simp, fun j hj => .inl (by simpa [putK] using hj)⟩
  | p :: kvs, _, n, .cons h r => by
    rw [List.map_cons] at n
    obtain ⟨n1, n2⟩ := List.nodup_cons.mp n
    obtain ⟨i1, i2, i3, i4⟩ := dput_rel hd n2 r
    rw [List.map_cons]
    unfold dputK dputV
    rw [keyD_beq]
    by_cases e : p.1 = k
    · rw [decide_eq_true e, putK_pos e (e ▸ n1)]
      exact ⟨rfl, .cons hd r, n, fun j hj => .inr hj⟩
    · rw [decide_eq_false e, putK_neg e]
      refine ⟨by rw [List.map_cons]; exact congrArg _ i1, .cons h i2, ?_, fun j hj => ?_⟩
      · rw [List.map_cons, List.nodup_cons]
        refine ⟨fun z => ?_, i3⟩
        rcases i4 _ z with z | z
        · exact e z
        · exact n1 z
      · rw [List.map_cons] at hj ⊢
        rcases List.mem_cons.mp hj with hj | hj
        · exact .inr (by rw [hj]; exact List.mem_cons_self)
        · rcases i4 j hj with hj | hj
          · exact .inl hj
          · exact .inr (List.mem_cons_of_mem _ hj)
theorem VOk.dp {p : PyData} (s : Same F H) (h : VOk K F H v d) (e : d.toP = some p) : Dp K H v p := by
  cases h with
  | dat h => exact Dp.mono s (h.dp e)
  | cel h =>
    cases h with
    | lst h l r =>
      simp only [D.toP] at e
      split at e
      · rename_i ps q
        cases e
        exact .lst (SqL.of h) (DpAll.mono s (r.dp q))
      · cases e
    | dct h l q n r => simp only [D.toP] at e; cases e
theorem peek_ok {r : R} (s : StOk K F H as st) (ro : ROk K F H as v r) (h : peek r st = .ok d st') : st' = st ∧ VOk K F H v d := by
  cases ro with
  | dat r =>
    obtain ⟨rfl, rfl⟩ := pure_inv h
    exact ⟨rfl, .dat r⟩
  | own f c m =>
    obtain ⟨rfl, rfl⟩ := pure_inv h
    exact ⟨rfl, .cel c⟩
  | @cell a c ha =>
    have h' : (match st[c]? with | some ⟨d, _⟩ => Res.ok d st | none => .no) = .ok d st' := h
    split at h'
    · rename_i d0 b e
      cases h'
      refine ⟨rfl, ?_⟩
      cases b with
      | true => exact .cel (s.live c a _ ha e).2.1
      | false => exact .dat (s.froz c a _ ha e).1
    · cases h'
/-- a cell's content freezes -/
theorem StOk.freeze (s : StOk K F H as st) {a : Addr} (hf : F a = none) (hc : CelOk K F H a d) : ∃ o, H a = some o ∧ DOk K (L2.upd F a o) (.ref a) d ∧ Same (L2.upd F a o) H := by
  cases hc with
  | lst h l r =>
    refine ⟨_, h, .lst upd_same l (r.mono (Same.updB hf)), fun b u e => ?_⟩
    unfold L2.upd at e
    split at e
    · rename_i q
      cases e
      rw [q]
      exact h
    · exact s.sub b u e
  | dct h l q n r =>
    refine ⟨_, h, .dct upd_same l q n (r.mono (Same.updB hf)), fun b u e => ?_⟩
    unfold L2.upd at e
    split at e
    · rename_i q
      cases e
      rw [q]
      exact h
    · exact s.sub b u e
theorem use_ok {r : R} (s : StOk K F H as st) (ro : ROk K F H as v r) (h : use r st = .ok d st') : ∃ F', StOk K F' H as st' ∧ Ext (ownA v r) as F H st as F' H st' ∧ DOk K F' v d := by
  cases ro with
  | dat r =>
    obtain ⟨rfl, rfl⟩ := pure_inv h
    exact ⟨F, s, .refl, r⟩
  | @own a d0 f c m =>
    obtain ⟨rfl, rfl⟩ := pure_inv h
    obtain ⟨o, ho, hd, hs⟩ := s.freeze f c
    refine ⟨L2.upd F a o, ⟨hs, s.len, fun c' a' d' h1 h2 => ?_, fun c' a' d' h1 h2 => ⟨(s.froz c' a' d' h1 h2).1.mono (Same.updB f), Same.some (Same.updB f) (s.froz c' a' d' h1 h2).2⟩⟩, ⟨⟨[], by simp, fun _ h => nomatch h⟩, Same.updB f, fun _ h => h, fun b u hb _ hx => ⟨hb, fun z => ?_⟩, fun c d _ h => ⟨d, h⟩, Nat.le_refl _⟩, hd⟩
    · obtain ⟨f1, c1, u1⟩ := s.live c' a' d' h1 h2
      have ne : a' ≠ a := fun z => m (z ▸ List.mem_of_getElem? h1)
      exact ⟨by rw [upd_ne ne]; exact f1, c1.keep rfl (Same.updB f), u1⟩
    · have ne : b ≠ a := fun e => hx (by simp [ownA, e])
      rw [upd_ne ne]
      exact z
  | @cell a c ha =>
    have h' : (match st[c]? with | some ⟨d, true⟩ => Res.ok d (st.set c ⟨d, false⟩) | some ⟨d, false⟩ => .ok d st | none => .no) = .ok d st' := h
    split at h'
    · rename_i d0 e
      cases h'
      obtain ⟨f, c1, u1⟩ := s.live c a _ ha e
      obtain ⟨o, ho, hd, hs⟩ := s.freeze f c1
      have hlt : c < st.length := (List.getElem?_eq_some_iff.mp e).1
      refine ⟨L2.upd F a o, ⟨hs, by rw [List.length_set]; exact s.len, fun c' a' d' h1 h2 => ?_, fun c' a' d' h1 h2 => ?_⟩, ⟨⟨[], by simp, fun _ h => nomatch h⟩, Same.updB f, fun _ h => h, fun b u hb n _ => ⟨hb, fun z => ?_⟩, fun c' d' _ h2 => ?_, by rw [List.length_set]; exact Nat.le_refl _⟩, hd⟩
      · by_cases hcc : c = c'
        · subst hcc
          rw [List.getElem?_set_self hlt] at h2
          cases h2
        · rw [List.getElem?_set_ne hcc] at h2
          obtain ⟨f2, c2, u2⟩ := s.live c' a' d' h1 h2
          have ne : a' ≠ a := fun z => hcc (u1 c' (z ▸ h1)).symm
          exact ⟨by rw [upd_ne ne]; exact f2, c2.keep rfl (Same.updB f), u2⟩
      · by_cases hcc : c = c'
        · subst hcc
          rw [List.getElem?_set_self hlt] at h2
          cases h2
          rw [ha] at h1
          cases h1
          exact ⟨hd, by rw [upd_same]; exact fun z => nomatch z⟩
        · rw [List.getElem?_set_ne hcc] at h2
          exact ⟨(s.froz c' a' d' h1 h2).1.mono (Same.updB f), Same.some (Same.updB f) (s.froz c' a' d' h1 h2).2⟩
      · have ne : b ≠ a := fun q => n c _ e (q ▸ ha)
        rw [upd_ne ne]
        exact z
      · by_cases hcc : c = c'
        · subst hcc
          exact ⟨_, e⟩
        · rw [List.getElem?_set_ne hcc] at h2
          exact ⟨d', h2⟩
    · rename_i d0 e
      cases h'
      exact ⟨F, s, .refl, (s.froz c a _ ha e).1⟩
    · cases h'
end

/-! ### readings by the evaluator -/
def tE (K : PySem.W.Frag) (e : E) : TE := fun σ H Q => ∃ as F st env r st', StOk K F H as st ∧ EnvOk K F as σ env ∧ evE e env st = .ok r st' ∧
  ∀ v F' H', StOk K F' H' as st' → Ext [] as F H st as F' H' st' → ROk K F' H' as v r → Fresh H v r → Q v H'
def ownsA : List V → List R → List Addr
  | v :: vs, r :: rs => ownA v r ++ ownsA vs rs
  | _, _ => []
/-- new things one after another: no two are one -/
inductive RsOk (K : PySem.W.Frag) (F H : Hp) (as : List Addr) : List V → List R → Prop where
  | nil : RsOk K F H as [] []
  | cons {v : V} {r : R} {vs : List V} {rs : List R} : ROk K F H as v r → RsOk K F H as vs rs → (∀ a ∈ ownA v r, a ∉ ownsA vs rs) → RsOk K F H as (v :: vs) (r :: rs)
def tEs (K : PySem.W.Frag) (es : Es) : TA := fun σ H Q => ∃ as F st env rs st', StOk K F H as st ∧ EnvOk K F as σ env ∧ evEs es env st = .ok rs st' ∧
  ∀ vs F' H', StOk K F' H' as st' → Ext [] as F H st as F' H' st' → RsOk K F' H' as vs rs → (∀ a ∈ ownsA vs rs, H a = none) → Q vs H'
def tDs (K : PySem.W.Frag) (es : Es) : TA := fun σ H Q => ∃ as F st env ds st', StOk K F H as st ∧ EnvOk K F as σ env ∧ evDs es env st = .ok ds st' ∧
  ∀ vs F' H', StOk K F' H' as st' → Ext [] as F H st as F' H' st' → DsOk K F' vs ds → Q vs H'
def tT (K : PySem.W.Frag) (t : T) : TT := fun σ H Q => ∃ as F st env b st', StOk K F H as st ∧ EnvOk K F as σ env ∧ evT t env st = .ok b st' ∧
  ∀ F' H', StOk K F' H' as st' → Ext [] as F H st as F' H' st' → Q b H'
def tTAnd (K : PySem.W.Frag) (ts : Ts) : TT := fun σ H Q => ∃ as F st env b st', StOk K F H as st ∧ EnvOk K F as σ env ∧ evTAnd ts env st = .ok b st' ∧
  ∀ F' H', StOk K F' H' as st' → Ext [] as F H st as F' H' st' → Q b H'
def tTOr (K : PySem.W.Frag) (ts : Ts) : TT := fun σ H Q => ∃ as F st env b st', StOk K F H as st ∧ EnvOk K F as σ env ∧ evTOr ts env st = .ok b st' ∧
  ∀ F' H', StOk K F' H' as st' → Ext [] as F H st as F' H' st' → Q b H'
def tAnd_ (K : PySem.W.Frag) (es : Es) : TE := fun σ H Q => ∃ as F st env b st', StOk K F H as st ∧ EnvOk K F as σ env ∧ evAnd es env st = .ok b st' ∧
  ∀ F' H', StOk K F' H' as st' → Ext [] as F H st as F' H' st' → Q (.bl b) H'
def tOr_ (K : PySem.W.Frag) (es : Es) : TE := fun σ H Q => ∃ as F st env b st', StOk K F H as st ∧ EnvOk K F as σ env ∧ evOr es env st = .ok b st' ∧
  ∀ F' H', StOk K F' H' as st' → Ext [] as F H st as F' H' st' → Q (.bl b) H'
def tPart_ (K : PySem.W.Frag) (es : Es) : TO := fun σ H Q => ∃ as F st env o st', StOk K F H as st ∧ EnvOk K F as σ env ∧ evPart es env st = .ok o st' ∧
  ∀ F' H', StOk K F' H' as st' → Ext [] as F H st as F' H' st' → Q o H'
/-- a walk's items -/
def Yl (K : PySem.W.Frag) (J : L2.It) (F0 : Hp) (ds : List D) : Prop := ∀ (i : Nat) (F H : Hp) (as : List Addr) (st : Sto), Same F0 F → StOk K F H as st →
  (i = ds.length → J.stop i H) ∧ ∀ d, ds[i]? = some d → J.go i H ∧ ∀ x H', J.yld i H x H' → ∃ F', StOk K F' H' as st ∧ Ext [] as F H st as F' H' st ∧ DOk K F' x d
def tIt (K : PySem.W.Frag) (it : It) : TI := fun σ H R => ∃ as F st env ds st', StOk K F H as st ∧ EnvOk K F as σ env ∧ evIt it env st = .ok ds st' ∧
  ∀ J F' H', StOk K F' H' as st' → Ext [] as F H st as F' H' st' → Yl K J F' ds → ds.length ≤ sizeLine → R J H'
def tTg (K : PySem.W.Frag) (t : Tg) : TG := fun v σ H Q => ∃ as F st env d env' st', StOk K F H as st ∧ EnvOk K F as σ env ∧ DOk K F v d ∧ evTg t d env st = .ok env' st' ∧
  ∀ σ' F' H', StOk K F' H' as st' → Ext [] as F H st as F' H' st' → EnvOk K F' as σ' env' → L2.wipe σ' t.slots = L2.wipe σ t.slots → Q σ' H'
def tTgs (K : PySem.W.Frag) (ts : Tgs) : TGs := fun vs σ H Q => ∃ as F st env ds env' st', StOk K F H as st ∧ EnvOk K F as σ env ∧ DsOk K F vs ds ∧ evTgs ts ds env st = .ok env' st' ∧
  ∀ σ' F' H', StOk K F' H' as st' → Ext [] as F H st as F' H' st' → EnvOk K F' as σ' env' → L2.wipe σ' ts.slots = L2.wipe σ ts.slots → Q σ' H'
end DB
set_option maxHeartbeats 4000000
namespace SrtO
open PySem PySem.Spec PyProof.Rows
section
variable {prog : Program} {w : World} {A : Around} {s : Shared} {E : Value → Shared → Prop}
/-- what a tuple holds, collected -/
theorem collT {t : Addr} {ys : List Value} {Q : List Value → Shared → Prop} (ht : s.heap.IsTuple t ys.toArray) (hz : ys.length ≤ sizeLine)
    (q : Q ys { s with heap := (s.heap.push (seqObj "list" #[] 0)).update s.heap.objs.size (Obj.mapSeq (· ++ ys.toArray)) }) : wpAny (model prog w) A (collect (.ref t)) Q E s := by
  obtain ⟨ob, hob, hcl, k, hda⟩ := id ht
  unfold collect
  refine wpAny_bind (wpAny_runValue ?_)
  refine codeAny_builtin entry_proto_collect' ?_
  show wpAny _ _ (do again (.builtin "list.__iadd__" ⟨[← newList [], .ref t], []⟩)) _ _ s
  refine wpAny_bind (wpAny_newList (wpAny_pure ⟨Code.quiet_builtin _ (by decide +kernel), ?_⟩))
  refine codeAny_builtin entry_list_iadd' ?_
  show wpAny _ _ (Builtin.List.listExtendWith (.ref s.heap.objs.size) (.ref t) (.ref s.heap.objs.size)) _ _ { s with heap := s.heap.push (seqObj "list" #[] 0) }
  unfold Builtin.List.listExtendWith
  have hob' : (s.heap.push (seqObj "list" #[] 0)).get? t = some ob := Heap.get?_push_of_some _ hob
  refine wpAny_bind (wpAny_typeOf (T := "tuple") ⟨ob, hob', hcl⟩ ?_)
  have e1 : (Value.type "tuple" == Value.type "tuple") = true := by rfl
  rw [if_pos (by rw [e1]; simp)]
  refine wpAny_bind (listItems_at hob' hda ?_)
  refine wpAny_bind (listItems_at (n := 0) (xs := #[]) (Heap.get?_push_size _ rfl) rfl ?_)
  rw [if_neg (by simp)]
  refine wpAny_bind (listUpdate_at (n := 0) (xs := #[]) (Heap.get?_push_size _ rfl) rfl ?_ (Nat.zero_le _) ?_)
  · refine wpAny_pure ?_
    show wpAny (model prog w) A (do
      let o ← load s.heap.objs.size
      match o.data with
      | .seq xs _ => pure xs.toList
      | _ => unsupported "internal:collect") Q E _
    refine wpAny_bind (wpAny_load (get?_update_seq (Heap.get?_push_size _ rfl) _) ?_)
    show wpAny _ _ (pure ((#[] : Array Value) ++ ys.toArray).toList) Q E _
    rw [show ((#[] : Array Value) ++ ys.toArray).toList = ys by simp]
    exact wpAny_pure q
  · show (#[] ++ ys.toArray).size ≤ sizeLine + 1
    simp only [List.size_toArray, Array.size_append, List.length_nil]
    omega
/-- sorted(t) of a tuple -/
theorem sortT {t : Addr} {ys : List Value} {ltv : Value → Value → Bool} {Q : Value → Shared → Prop} (O : Swo ltv) (ht : s.heap.IsTuple t ys.toArray) (hz : ys.length ≤ sizeLine)
    (hS : 2 ≤ ys.length → ∀ (h₁ : Heap) (a : Addr), h₁.get? a = some (seqObj "list" ys.toArray 0) → (∀ b o, s.heap.get? b = some o → b ≠ a ∧ h₁.get? b = some o) → SortableO prog w A.in1.in1 { s with heap := h₁ } a ys ltv)
    (q : ∀ zs : List Value, Srtd ltv zs → Stb ltv zs ys → Q (.ref (s.heap.objs.size + 1)) { s with heap := sortedAll s.heap ys zs.toArray }) :
    wpAny (model prog w) A (call (.builtin "sorted") [.ref t]) Q E s := by
  refine Calls.call_function_entry kind_sorted plain_sorted entry_sorted (args_sorted1 _) ?_
  unfold Builtin.«sorted»
  refine wpAny_bind (m := checkCount "sorted" 1 1 _) (wpAny_pure ?_)
  refine wpAny_bind (collT ht hz ?_)
  refine wpAny_bind (wpAny_newList ?_ hz)
  generalize hH : (s.heap.push (seqObj "list" #[] 0)).update s.heap.objs.size (Obj.mapSeq (· ++ ys.toArray)) = H1
  have n1 : H1.objs.size = s.heap.objs.size + 1 := by
    rw [← hH, Heap.size_update, size_push']
  have at1 : (H1.push (seqObj "list" ys.toArray 0)).get? (s.heap.objs.size + 1) = some (seqObj "list" ys.toArray 0) := by
    rw [← n1]
    exact Heap.get?_push_size _ rfl
  have stay : ∀ b o, s.heap.get? b = some o → b ≠ s.heap.objs.size + 1 ∧ (H1.push (seqObj "list" ys.toArray 0)).get? b = some o := fun b o e => by
    have lt := Heap.lt_size e
    refine ⟨Nat.ne_of_lt (Nat.lt_succ_of_lt lt), Heap.get?_push_of_some _ ?_⟩
    rw [← hH, Heap.get?_update_ne _ _ _ _ (Nat.ne_of_lt lt)]
    exact Heap.get?_push_of_some _ e
  show wpAny _ _ _ _ _ { s with heap := H1.push (seqObj "list" ys.toArray 0) }
  rw [n1]
  refine wpAny_bind (wpAny_holding (wpAny_call_entry slot_list_sort ⟨_, at1, rfl⟩ entry_list_sort ?_ (args_list_sort _)))
  refine list_sort_ord O at1 hz (fun h2 => hS h2 _ _ at1 stay) fun zs u1 u2 => ⟨_, rfl, wpAny_pure ⟨_, rfl, ?_⟩⟩
  have := q zs u1 u2
  unfold sortedAll at this
  rw [hH] at this
  exact this
end
end SrtO
namespace L2
open PySem PySem.Spec PyProof.Rows
/-- sorted(t), a tuple of ints -/
def rSortedIT (K : PySem.W.Frag) : List V → Hp → VK → Prop := fun vs H Q => ∃ (a : Addr) (ns : List Int), vs = [V.ref a] ∧ (SqL K H a (ns.map V.int) ∨ SqT K H a (ns.map V.int)) ∧
  ∀ (ms : List Int) (p : Addr), ms.Perm ns → ms.Pairwise (· ≤ ·) → H p = none → Q (.ref p) (upd H p (.lst (ms.map V.int)))
variable {X : Cx}
theorem cr_sortedIT : CallR X (.builtin "sorted") (rSortedIT X.K) := by
  intro pins s σ H vs us Q I r h
  obtain ⟨a, ns, rfl, hs, q⟩ := h
  rcases hs with hs | hs
  · exact cr_sortedI pins s σ H _ us Q I r ⟨a, ns, rfl, hs, q⟩
  · obtain ⟨its, rv, hl, hz⟩ := I.tuple hs
    rw [Vals.ref1 r]
    have hi := rv.ints
    refine SrtO.sortT SrtO.swo_int hl (by rw [← rv.length]; exact hz) (fun h2 h₁ a' _ _ => SrtO.ints_sortable hi h2) fun zs u1 u2 => ?_
    obtain ⟨k1, k2, k3⟩ := SrtO.ints_out hi u1 u2
    obtain ⟨ep, e1⟩ := PyProof.Rows.sortedAll_at s.heap its zs.toArray
    have n1 : ((zs.map SrtO.iv).map V.int).length ≤ sizeLine := by
      rw [List.length_map] at hz
      rw [List.length_map, k2.length_eq]
      exact hz
    exact ⟨.ref _, upd H (s.heap.objs.size + 1) (.lst ((zs.map SrtO.iv).map V.int)), I.laid (t' := s.toks) (fun _ _ => PyProof.Rows.sortedAll_old) (Nat.le_succ _) ⟨n1, zs, ep, vals_of_ints k1, e1⟩, rfl, q _ _ k2 k3 (I.hok.fresh (Nat.le_succ _))⟩
end L2
set_option maxHeartbeats 4000000
namespace L2
open PySem PySem.Spec PyProof.Rows
theorem tupMulOne (l : Addr) (items : Array Value) (n : Nat) (dd : Option Addr) (sl : Array (Option Value)) (u : Tok) :
    Meets (Builtin.«tuple.__mul__» ⟨[.ref l, .int 1 u], []⟩) (fun _ R s => s.heap.get? l = some { cls := .type "tuple", dict := dd, data := .seq items n, slots := sl } ∧ R (.ok (.ret (Value.ref l))) s) :=
  .of_wp fun prog w A R s h => by
    obtain ⟨hp, g, d, tk, os⟩ := s
    obtain ⟨hl, h⟩ := h
    have f1 := AutoSeq1.idx_int
    wp_walk using wpAny_loadPart' hl
    exact ⟨_, rfl, h⟩
variable {X : Cx}
def rRepT1 (K : PySem.W.Frag) : R2 := fun x y H Q => ∃ l xs, x = .ref l ∧ y = .int 1 ∧ SqT K H l xs ∧ Q (.ref l) H
theorem op_repT1 : OpR X (binaryOp .Mult) (rRepT1 X.K) := by
  intro pins s σ H x y v u Q I rx ry h
  obtain ⟨l, xs, rfl, rfl, hT, q⟩ := h
  cases rx
  obtain ⟨t, rfl⟩ := ry
  obtain ⟨its, r, ⟨⟨cls, dd, data, sl⟩, ho, hc, n, hd⟩, hs⟩ := I.tuple hT
  simp only at hc hd
  subst hc hd
  refine wpAny_binaryOp_repeat_ref (T := "tuple") (U := "int") (by decide) ⟨_, ho, rfl⟩ (fun s' => typeIs_int s' 1 t) noFill_tuple_mul F.fills_int_mul F.slot_int_rmul repeat_tuple F.slot_int_index.lookup
    (call_meets F.slot_int_rmul (typeIs_int s 1 t) F.entry_int_rmul (F.args_int_rmul_2 _ _) (int_rmul_tuple 1 t l its.toArray n dd sl)
      ⟨ho, rfl, ⟨_, ho, rfl⟩, call_meets F.slot_tuple_mul ⟨_, ho, rfl⟩ F.entry_tuple_mul (F.args_tuple_mul_2 _ _) (tupMulOne l its.toArray n dd sl t) ⟨ho, ?_⟩⟩)
  exact ⟨.ref l, H, I, rfl, q⟩
end L2
set_option maxHeartbeats 1000000
namespace DB
open PySem PySem.Spec L2

/-! ### operators -/
/-- what is wanted behind an expression -/
def Aft (K : PySem.W.Frag) (as : List Addr) (F H : Hp) (st : Sto) (r : R) (st' : Sto) (Q : VK) : Prop :=
  ∀ v F' H', StOk K F' H' as st' → Ext [] as F H st as F' H' st' → ROk K F' H' as v r → Fresh H v r → Q v H'
section
variable {K : PySem.W.Frag} {F H : Hp} {as : List Addr} {st st' : Sto} {r : R} {Q : VK}
theorem Aft.dat {v : V} {d : D} (a : Aft K as F H st (.dat d) st Q) (s : StOk K F H as st) (h : DOk K F v d) : Q v H := a v F H s .refl (.dat h) trivial
/-- a new tuple -/
theorem Aft.tup {xs : List V} {ds : List D} (a : Aft K as F H st (.dat (.tup ds)) st Q) (s : StOk K F H as st) (h : DsOk K F xs ds) (hl : xs.length ≤ sizeLine) : ∀ p, H p = none → Q (.ref p) (upd H p (.tup xs)) := by
  intro p hp
  have fp : F p = none := by
    cases q : F p with
    | none => rfl
    | some u => rw [s.sub p u q] at hp; cases hp
  exact a (.ref p) (upd F p (.tup xs)) _ (s.updF hp) (Ext.updF s hp) (.dat (.tup (SqT.of upd_same) hl (h.mono (Same.updB fp)))) trivial
/-- a new list -/
theorem Aft.lst {xs : List V} {ds : List D} (a : Aft K as F H st (.own (.lst ds)) st Q) (s : StOk K F H as st) (h : DsOk K F xs ds) (hl : xs.length ≤ sizeLine) : ∀ p, H p = none → Q (.ref p) (upd H p (.lst xs)) := by
  intro p hp
  have fp : F p = none := by
    cases q : F p with
    | none => rfl
    | some u => rw [s.sub p u q] at hp; cases hp
  refine a (.ref p) F _ (s.upd hp) (Ext.updH hp) (.own fp (.lst upd_same hl h) fun z => ?_) (fun b e => by cases e; exact hp)
  exact s.cellSome z hp
end
theorem OpR.imp {X : Cx} {f : Value → Value → Sem Value} {r r' : R2} (h : OpR X f r) (i : ∀ x y H Q, r' x y H Q → r x y H Q) : OpR X f r' := fun pins s σ H x y v u Q I rx ry q => h pins s σ H x y v u Q I rx ry (i _ _ _ _ q)
theorem CallR.imp {X : Cx} {f : Value} {r r' : List V → Hp → VK → Prop} (h : CallR X f r) (i : ∀ xs H Q, r' xs H Q → r xs H Q) : CallR X f r' := fun pins s σ H xs us Q I rx q => h pins s σ H xs us Q I rx (i _ _ _ q)
def rBin (K : PySem.W.Frag) (op : Bop) : R2 := fun x y H Q => ∃ as F st p q r st', StOk K F H as st ∧ VOk K F H x p ∧ VOk K F H y q ∧ binop op p q st = .ok r st' ∧ Aft K as F H st r st' Q
def rCmp (K : PySem.W.Frag) (op : Cop) : R2 := fun x y H Q => ∃ as F st p q b st', StOk K F H as st ∧ VOk K F H x p ∧ VOk K F H y q ∧ cmpop op p q st = .ok b st' ∧ Q (.bl b) H
theorem no_inv {α : Type} {s' : Sto} {a : α} (h : (Res.no : Res α) = .ok a s') : False := nomatch h
section
variable {X : Cx}
theorem lenOk_iff {n : Nat} (h : lenOk n = true) : n ≤ sizeLine := of_decide_eq_true h
theorem op_bin {op : Bop} {op' : Operator} (h : bopB op op' = true) : OpR X (binaryOp op') (rBin X.K op) := by
  cases op with
  | add =>
    have e : op' = .Add := by cases op' <;> first | rfl | exact absurd h Bool.false_ne_true
    subst e
    refine OpR.imp (OpR.or op_add (OpR.or op_cat op_catA)) fun x y H Q hh => ?_
    obtain ⟨as, F, st, p, q, r, st', s, hx, hy, e, a⟩ := hh
    cases p with
    | int i =>
      cases q with
      | int j =>
        obtain ⟨rfl, rfl⟩ := pure_inv (show (pure (R.dat (.int (i + j))) : M R) st = .ok r st' from e)
        exact .inl ⟨i, j, hx.int, hy.int, a.dat s (.int _)⟩
      | _ => exact (no_inv e).elim
    | lst xs =>
      cases q with
      | lst ys =>
        obtain ⟨_, s1, e1, e2⟩ := bind_inv (show (M.guard (lenOk (xs.length + ys.length)) >>= fun _ => (pure (R.own (.lst (xs ++ ys))) : M R)) st = .ok r st' from e)
        obtain ⟨g, rfl⟩ := guard_inv e1
        obtain ⟨rfl, rfl⟩ := pure_inv e2
        obtain ⟨a1, vs, rfl, h1, l1, r1⟩ := hx.lst s.sub
        obtain ⟨a2, ws, rfl, h2, l2, r2⟩ := hy.lst s.sub
        have hz : vs.length + ws.length ≤ sizeLine := by rw [r1.length, r2.length]; exact lenOk_iff g
        exact .inr (.inl ⟨a1, a2, vs, ws, rfl, rfl, h1, h2, hz, a.lst s (r1.append r2) (by rw [List.length_append]; exact hz)⟩)
      | _ => exact (no_inv e).elim
    | tup xs =>
      cases q with
      | tup ys =>
        obtain ⟨_, s1, e1, e2⟩ := bind_inv (show (M.guard (lenOk (xs.length + ys.length)) >>= fun _ => (pure (R.dat (.tup (xs ++ ys))) : M R)) st = .ok r st' from e)
        obtain ⟨g, rfl⟩ := guard_inv e1
        obtain ⟨rfl, rfl⟩ := pure_inv e2
        obtain ⟨a1, vs, rfl, h1, l1, r1, d1⟩ := hx.tup s.sub
        obtain ⟨a2, ws, rfl, h2, l2, r2, d2⟩ := hy.tup s.sub
        have hz : vs.length + ws.length ≤ sizeLine := by rw [r1.length, r2.length]; exact lenOk_iff g
        refine .inr (.inr ⟨a1, a2, vs, ws, rfl, rfl, h1, h2, hz, fun z => ?_, fun z1 z2 => ?_, fun _ _ => a.tup s (r1.append r2) (by rw [List.length_append]; exact hz)⟩)
        · subst z
          cases r1
          exact a.dat s d2
        · subst z2
          cases r2
          rw [List.append_nil] at a
          exact a.dat s d1
      | _ => exact (no_inv e).elim
    | _ => exact (no_inv e).elim
  | sub =>
    have e : op' = .Sub := by cases op' <;> first | rfl | exact absurd h Bool.false_ne_true
    subst e
    refine OpR.imp op_sub fun x y H Q hh => ?_
    obtain ⟨as, F, st, p, q, r, st', s, hx, hy, e, a⟩ := hh
    cases p with
    | int i =>
      cases q with
      | int j =>
        obtain ⟨rfl, rfl⟩ := pure_inv (show (pure (R.dat (.int (i - j))) : M R) st = .ok r st' from e)
        exact ⟨i, j, hx.int, hy.int, a.dat s (.int _)⟩
      | _ => exact (no_inv e).elim
    | _ => exact (no_inv e).elim
  | mul =>
    have e : op' = .Mult := by cases op' <;> first | rfl | exact absurd h Bool.false_ne_true
    subst e
    refine OpR.imp (OpR.or op_mul (OpR.or L2.op_repT1 op_repT)) fun x y H Q hh => ?_
    obtain ⟨as, F, st, p, q, r, st', s, hx, hy, e, a⟩ := hh
    cases p with
    | int i =>
      cases q with
      | int j =>
        obtain ⟨_, s1, e1, e2⟩ := bind_inv (show (M.guard (mulOk i j) >>= fun _ => (pure (R.dat (.int (i * j))) : M R)) st = .ok r st' from e)
        obtain ⟨g, rfl⟩ := guard_inv e1
        obtain ⟨rfl, rfl⟩ := pure_inv e2
        refine .inl ⟨i, j, hx.int, hy.int, ?_, a.dat s (.int _)⟩
        unfold mulOk at g
        simp only [Bool.or_eq_true, Bool.and_eq_true, decide_eq_true_eq] at g
        exact g
      | _ => exact (no_inv e).elim
    | tup xs =>
      cases q with
      | int j =>
        obtain ⟨_, s1, e1, e2⟩ := bind_inv (show (M.guard (decide (1 ≤ j) && (decide (j ≤ 1000) && (decide (0 < xs.length) && decide (xs.length ≤ 1000)))) >>= fun _ => (pure (R.dat (.tup (List.replicate j.toNat xs).flatten)) : M R)) st = .ok r st' from e)
        obtain ⟨g, rfl⟩ := guard_inv e1
        obtain ⟨rfl, rfl⟩ := pure_inv e2
        simp only [Bool.and_eq_true, decide_eq_true_eq] at g
        obtain ⟨g1, g2, g3, g4⟩ := g
        obtain ⟨a1, vs, rfl, h1, l1, r1, d1⟩ := hx.tup s.sub
        by_cases hj : j = 1
        · subst hj
          rw [show (List.replicate (1 : Int).toNat xs).flatten = xs by simp] at a
          exact .inr (.inl ⟨a1, vs, rfl, hy.int, h1, a.dat s d1⟩)
        · have hl := r1.length
          refine .inr (.inr ⟨a1, j, vs, rfl, hy.int, h1, fun z => ?_, by omega, g2, by omega, a.tup s (r1.rep j.toNat) ?_⟩)
          · rw [z] at hl
            have hl : 0 = xs.length := hl
            omega
          · rw [PyProof.Rows.lm_len_rep_flat, sizeLine_eq]
            have : j.toNat * vs.length ≤ 1000 * 1000 := Nat.mul_le_mul (by omega) (by omega)
            omega
      | _ => exact (no_inv e).elim
    | _ => exact (no_inv e).elim
  | mod =>
    have e : op' = .Mod := by cases op' <;> first | rfl | exact absurd h Bool.false_ne_true
    subst e
    refine OpR.imp op_mod fun x y H Q hh => ?_
    obtain ⟨as, F, st, p, q, r, st', s, hx, hy, e, a⟩ := hh
    cases p with
    | int i =>
      cases q with
      | int j =>
        obtain ⟨_, s1, e1, e2⟩ := bind_inv (show (M.guard (decide (0 < j)) >>= fun _ => (pure (R.dat (.int (i % j))) : M R)) st = .ok r st' from e)
        obtain ⟨g, rfl⟩ := guard_inv e1
        obtain ⟨rfl, rfl⟩ := pure_inv e2
        exact ⟨i, j, hx.int, hy.int, of_decide_eq_true g, a.dat s (.int _)⟩
      | _ => exact (no_inv e).elim
    | _ => exact (no_inv e).elim
  | fdiv =>
    have e : op' = .FloorDiv := by cases op' <;> first | rfl | exact absurd h Bool.false_ne_true
    subst e
    refine OpR.imp op_fdiv fun x y H Q hh => ?_
    obtain ⟨as, F, st, p, q, r, st', s, hx, hy, e, a⟩ := hh
    cases p with
    | int i =>
      cases q with
      | int j =>
        obtain ⟨_, s1, e1, e2⟩ := bind_inv (show (M.guard (decide (0 < j) && decide (j < 1073741824)) >>= fun _ => (pure (R.dat (.int (i / j))) : M R)) st = .ok r st' from e)
        obtain ⟨g, rfl⟩ := guard_inv e1
        obtain ⟨rfl, rfl⟩ := pure_inv e2
        simp only [Bool.and_eq_true, decide_eq_true_eq] at g
        exact ⟨i, j, hx.int, hy.int, g, a.dat s (.int _)⟩
      | _ => exact (no_inv e).elim
    | _ => exact (no_inv e).elim
  | pow =>
    have e : op' = .Pow := by cases op' <;> first | rfl | exact absurd h Bool.false_ne_true
    subst e
    refine OpR.imp op_pow fun x y H Q hh => ?_
    obtain ⟨as, F, st, p, q, r, st', s, hx, hy, e, a⟩ := hh
    cases p with
    | int i =>
      cases q with
      | int j =>
        obtain ⟨_, s1, e1, e2⟩ := bind_inv (show (M.guard (powOk i j) >>= fun _ => (pure (R.dat (.int (i ^ j.toNat))) : M R)) st = .ok r st' from e)
        obtain ⟨g, rfl⟩ := guard_inv e1
        obtain ⟨rfl, rfl⟩ := pure_inv e2
        unfold powOk at g
        simp only [Bool.and_eq_true, decide_eq_true_eq] at g
        exact ⟨i, j, hx.int, hy.int, g, a.dat s (.int _)⟩
      | _ => exact (no_inv e).elim
    | _ => exact (no_inv e).elim

/-! ### comparisons -/
def rInT (K : PySem.W.Frag) : R2 := fun x y H Q => ∃ d ds, Dp K H x d ∧ Dp K H y (.tuple ds) ∧ SeqAt.shaped d = true ∧ SeqAt.shaped (.list ds) = true ∧ Q (.bl (ds.any fun z => PyData.eqv z d)) H
def rNotInT (K : PySem.W.Frag) : R2 := fun x y H Q => ∃ d ds, Dp K H x d ∧ Dp K H y (.tuple ds) ∧ SeqAt.shaped d = true ∧ SeqAt.shaped (.list ds) = true ∧ Q (.bl (!ds.any fun z => PyData.eqv z d)) H
theorem room_in {A : Around} {d : PyData} {ds : List PyData} (h : SeqAt.shaped d = true) (hu : A.units + 65 < cLine) : A.units + 1 + min (PyData.depthAll ds) d.depth < cLine := by
  have h1 := SeqAt.depth_of_shaped h
  have h2 : min (PyData.depthAll ds) d.depth ≤ d.depth := Nat.min_le_right _ _
  omega
theorem op_inT (hu : X.A.units + 65 < cLine) : OpR X (compareOp .In) (rInT X.K) := by
  intro pins s σ H x y v u Q I rx ry h
  obtain ⟨d, ds, hd, he, sd, se, q⟩ := h
  obtain ⟨as, r1⟩ := Dp.reads I d x v hd rx
  obtain ⟨bs, r2⟩ := Dp.reads I (.tuple ds) y u he ry
  exact SeqAt.in_tuple_reads r2 r1 (SeqAt.canLay_of_shaped se) (SeqAt.canLay_of_shaped sd) (room_in sd hu) ⟨.bl _, H, I, rfl, q⟩
theorem op_notInT (hu : X.A.units + 65 < cLine) : OpR X (compareOp .NotIn) (rNotInT X.K) := by
  intro pins s σ H x y v u Q I rx ry h
  obtain ⟨d, ds, hd, he, sd, se, q⟩ := h
  obtain ⟨as, r1⟩ := Dp.reads I d x v hd rx
  obtain ⟨bs, r2⟩ := Dp.reads I (.tuple ds) y u he ry
  exact SeqAt.notIn_tuple_reads r2 r1 (SeqAt.canLay_of_shaped se) (SeqAt.canLay_of_shaped sd) (room_in sd hu) ⟨.bl _, H, I, rfl, q⟩
theorem deq_inv {a b : D} {k : Bool} (h : deq a b = some k) : ∃ p q, a.toP = some p ∧ b.toP = some q ∧ SeqAt.shaped p = true ∧ SeqAt.shaped q = true ∧ k = PyData.eqv p q := by
  unfold deq at h
  split at h
  · rename_i p q e1 e2
    split at h
    · rename_i g
      cases h
      simp only [Bool.and_eq_true] at g
      exact ⟨p, q, e1, e2, g.1, g.2, rfl⟩
    · cases h
  · cases h
theorem din_inv {a : D} {bs : List D} {k : Bool} (h : din a bs = some k) : ∃ p qs, a.toP = some p ∧ D.toPs bs = some qs ∧ SeqAt.shaped p = true ∧ SeqAt.shaped (.list qs) = true ∧ k = qs.any fun q => PyData.eqv q p := by
  unfold din at h
  split at h
  · rename_i p q e1 e2
    split at h
    · rename_i g
      cases h
      simp only [Bool.and_eq_true] at g
      exact ⟨p, q, e1, e2, g.1, g.2, rfl⟩
    · cases h
  · cases h
theorem toP_lst {ds : List D} {qs : List PyData} (h : D.toPs ds = some qs) : (D.lst ds).toP = some (.list qs) := by simp only [D.toP, h]
theorem toP_tup {ds : List D} {qs : List PyData} (h : D.toPs ds = some qs) : (D.tup ds).toP = some (.tuple qs) := by simp only [D.toP, h]
/-- a dict's key -/
theorem VOk.key {K : PySem.W.Frag} {F H : Hp} {x : V} {p : D} (h : VOk K F H x p) (g : keyOk p = true) : ∃ k : Key, p = keyD k ∧ x = kV k := by
  cases p with
  | int i => exact ⟨.inl i, rfl, h.int⟩
  | str z => exact ⟨.inr z, rfl, h.str⟩
  | _ => cases g
def rInK (K : PySem.W.Frag) : R2 := fun x y H Q => ∃ a o, y = .ref a ∧ DGet H a x o ∧ Q (.bl o.isSome) H
theorem op_inK (hu : X.A.units + 1 < cLine) : OpR X (compareOp .In) (rInK X.K) := by
  intro pins s σ H x y v u Q I rx ry h
  obtain ⟨a, o, rfl, g, q⟩ := h
  cases ry
  exact d_in hu I g rx fun s' I' => ⟨.bl o.isSome, H, I', rfl, q⟩
def rNotInK (K : PySem.W.Frag) : R2 := fun x y H Q => ∃ a o, y = .ref a ∧ DGet H a x o ∧ Q (.bl (!o.isSome)) H
theorem op_notInK (hu : X.A.units + 1 < cLine) : OpR X (compareOp .NotIn) (rNotInK X.K) := by
  intro pins s σ H x y v u Q I rx ry h
  obtain ⟨a, o, rfl, g, q⟩ := h
  cases ry
  exact d_notIn hu I g rx fun s' I' => ⟨.bl (!o.isSome), H, I', rfl, q⟩
/-- what a dict has at a key -/
theorem VOk.dget {K : PySem.W.Frag} {F H : Hp} {y x : V} {ks vs : List D} {p : D} (s : Same F H) (h : VOk K F H y (.dct ks vs)) (hx : VOk K F H x p) (g : keyOk p = true) :
    ∃ (a : Addr) (o : Option V), y = .ref a ∧ DGet H a x o ∧ (∀ d, DB.dget ks vs p = some d → ∃ v, o = some v ∧ DOk K F v d) ∧ (DB.dget ks vs p = none → o = none) := by
  obtain ⟨a, kvs, rfl, h1, l1, rfl, n1, r1⟩ := h.dct s
  obtain ⟨k, rfl, rfl⟩ := hx.key g
  obtain ⟨i1, i2⟩ := dget_val k r1
  exact ⟨a, valV kvs k, rfl, DGet.k h1, i1, i2⟩
theorem op_cmp {op : Cop} {op' : CmpOp} (h : copB op op' = true) (hu : X.A.units + 65 < cLine) : OpR X (compareOp op') (rCmp X.K op) := by
  cases op with
  | eq =>
    have e : op' = .Eq := by cases op' <;> first | rfl | exact absurd h Bool.false_ne_true
    subst e
    refine OpR.imp (op_eqD (by omega)) fun x y H Q hh => ?_
    obtain ⟨as, F, st, p, q, b, st', s, hx, hy, e, a⟩ := hh
    obtain ⟨e1, rfl⟩ := opt_inv (show M.opt (deq p q) st = .ok b st' from e)
    obtain ⟨d, f, h1, h2, h3, h4, rfl⟩ := deq_inv e1
    exact ⟨d, f, hx.dp s.sub h1, hy.dp s.sub h2, h3, h4, a⟩
  | ne =>
    have e : op' = .NotEq := by cases op' <;> first | rfl | exact absurd h Bool.false_ne_true
    subst e
    refine OpR.imp (op_neD (by omega)) fun x y H Q hh => ?_
    obtain ⟨as, F, st, p, q, b, st', s, hx, hy, e, a⟩ := hh
    obtain ⟨k, s1, e0, e2⟩ := bind_inv (show (M.opt (deq p q) >>= fun r => (pure (!r) : M Bool)) st = .ok b st' from e)
    obtain ⟨e1, rfl⟩ := opt_inv e0
    obtain ⟨rfl, rfl⟩ := pure_inv e2
    obtain ⟨d, f, h1, h2, h3, h4, rfl⟩ := deq_inv e1
    exact ⟨d, f, hx.dp s.sub h1, hy.dp s.sub h2, h3, h4, a⟩
  | lt =>
    have e : op' = .Lt := by cases op' <;> first | rfl | exact absurd h Bool.false_ne_true
    subst e
    refine OpR.imp op_lt fun x y H Q hh => ?_
    obtain ⟨as, F, st, p, q, b, st', s, hx, hy, e, a⟩ := hh
    cases p with
    | int i =>
      cases q with
      | int j =>
        obtain ⟨rfl, rfl⟩ := pure_inv (show (pure (decide (i < j)) : M Bool) st = .ok b st' from e)
        exact ⟨i, j, hx.int, hy.int, a⟩
      | _ => exact (no_inv e).elim
    | _ => exact (no_inv e).elim
  | le =>
    have e : op' = .LtE := by cases op' <;> first | rfl | exact absurd h Bool.false_ne_true
    subst e
    refine OpR.imp op_le fun x y H Q hh => ?_
    obtain ⟨as, F, st, p, q, b, st', s, hx, hy, e, a⟩ := hh
    cases p with
    | int i =>
      cases q with
      | int j =>
        obtain ⟨rfl, rfl⟩ := pure_inv (show (pure (decide (i ≤ j)) : M Bool) st = .ok b st' from e)
        exact ⟨i, j, hx.int, hy.int, a⟩
      | _ => exact (no_inv e).elim
    | _ => exact (no_inv e).elim
  | gt =>
    have e : op' = .Gt := by cases op' <;> first | rfl | exact absurd h Bool.false_ne_true
    subst e
    refine OpR.imp op_gt fun x y H Q hh => ?_
    obtain ⟨as, F, st, p, q, b, st', s, hx, hy, e, a⟩ := hh
    cases p with
    | int i =>
      cases q with
      | int j =>
        obtain ⟨rfl, rfl⟩ := pure_inv (show (pure (decide (j < i)) : M Bool) st = .ok b st' from e)
        exact ⟨i, j, hx.int, hy.int, a⟩
      | _ => exact (no_inv e).elim
    | _ => exact (no_inv e).elim
  | ge =>
    have e : op' = .GtE := by cases op' <;> first | rfl | exact absurd h Bool.false_ne_true
    subst e
    refine OpR.imp op_ge fun x y H Q hh => ?_
    obtain ⟨as, F, st, p, q, b, st', s, hx, hy, e, a⟩ := hh
    cases p with
    | int i =>
      cases q with
      | int j =>
        obtain ⟨rfl, rfl⟩ := pure_inv (show (pure (decide (j ≤ i)) : M Bool) st = .ok b st' from e)
        exact ⟨i, j, hx.int, hy.int, a⟩
      | _ => exact (no_inv e).elim
    | _ => exact (no_inv e).elim
  | mem =>
    have e : op' = .In := by cases op' <;> first | rfl | exact absurd h Bool.false_ne_true
    subst e
    refine OpR.imp (OpR.or (op_inD hu) (OpR.or (op_inT hu) (op_inK (by omega)))) fun x y H Q hh => ?_
    obtain ⟨as, F, st, p, q, b, st', s, hx, hy, e, a⟩ := hh
    cases q with
    | lst ys =>
      obtain ⟨e1, rfl⟩ := opt_inv (show M.opt (din p ys) st = .ok b st' by cases p <;> exact e)
      obtain ⟨d, f, h1, h2, h3, h4, rfl⟩ := din_inv e1
      exact .inl ⟨d, f, hx.dp s.sub h1, hy.dp s.sub (toP_lst h2), h3, h4, a⟩
    | tup ys =>
      obtain ⟨e1, rfl⟩ := opt_inv (show M.opt (din p ys) st = .ok b st' by cases p <;> exact e)
      obtain ⟨d, f, h1, h2, h3, h4, rfl⟩ := din_inv e1
      exact .inr (.inl ⟨d, f, hx.dp s.sub h1, hy.dp s.sub (toP_tup h2), h3, h4, a⟩)
    | dct ks vs =>
      obtain ⟨_, s1, e0, e2⟩ := bind_inv (show (M.guard (keyOk p) >>= fun _ => (pure ((DB.dget ks vs p).isSome) : M Bool)) st = .ok b st' by cases p <;> exact e)
      obtain ⟨g, rfl⟩ := guard_inv e0
      obtain ⟨rfl, rfl⟩ := pure_inv e2
      obtain ⟨a1, o, rfl, dg, g1, g2⟩ := hy.dget s.sub hx g
      refine .inr (.inr ⟨a1, o, rfl, dg, ?_⟩)
      have eo : o.isSome = (DB.dget ks vs p).isSome := by
        cases q : DB.dget ks vs p with
        | none => rw [g2 q]; rfl
        | some d => obtain ⟨v, rfl, _⟩ := g1 d q; rfl
      rw [eo]
      exact a
    | _ => cases p <;> exact (no_inv e).elim
  | nmem =>
    have e : op' = .NotIn := by cases op' <;> first | rfl | exact absurd h Bool.false_ne_true
    subst e
    refine OpR.imp (OpR.or (op_notInD hu) (OpR.or (op_notInT hu) (op_notInK (by omega)))) fun x y H Q hh => ?_
    obtain ⟨as, F, st, p, q, b, st', s, hx, hy, e, a⟩ := hh
    cases q with
    | lst ys =>
      obtain ⟨k, s1, e0, e2⟩ := bind_inv (show (M.opt (din p ys) >>= fun r => (pure (!r) : M Bool)) st = .ok b st' by cases p <;> exact e)
      obtain ⟨e1, rfl⟩ := opt_inv e0
      obtain ⟨rfl, rfl⟩ := pure_inv e2
      obtain ⟨d, f, h1, h2, h3, h4, rfl⟩ := din_inv e1
      exact .inl ⟨d, f, hx.dp s.sub h1, hy.dp s.sub (toP_lst h2), h3, h4, a⟩
    | tup ys =>
      obtain ⟨k, s1, e0, e2⟩ := bind_inv (show (M.opt (din p ys) >>= fun r => (pure (!r) : M Bool)) st = .ok b st' by cases p <;> exact e)
      obtain ⟨e1, rfl⟩ := opt_inv e0
      obtain ⟨rfl, rfl⟩ := pure_inv e2
      obtain ⟨d, f, h1, h2, h3, h4, rfl⟩ := din_inv e1
      exact .inr (.inl ⟨d, f, hx.dp s.sub h1, hy.dp s.sub (toP_tup h2), h3, h4, a⟩)
    | dct ks vs =>
      obtain ⟨_, s1, e0, e2⟩ := bind_inv (show (M.guard (keyOk p) >>= fun _ => (pure (!(DB.dget ks vs p).isSome) : M Bool)) st = .ok b st' by cases p <;> exact e)
      obtain ⟨g, rfl⟩ := guard_inv e0
      obtain ⟨rfl, rfl⟩ := pure_inv e2
      obtain ⟨a1, o, rfl, dg, g1, g2⟩ := hy.dget s.sub hx g
      refine .inr (.inr ⟨a1, o, rfl, dg, ?_⟩)
      have eo : o.isSome = (DB.dget ks vs p).isSome := by
        cases q : DB.dget ks vs p with
        | none => rw [g2 q]; rfl
        | some d => obtain ⟨v, rfl, _⟩ := g1 d q; rfl
      rw [eo]
      exact a
    | _ => cases p <;> exact (no_inv e).elim

/-! ### built-in functions -/
def VsOk (K : PySem.W.Frag) (F H : Hp) : List V → List D → Prop := fun vs ds => Paired (VOk K F H) vs ds
def rBi (K : PySem.W.Frag) (b : Bi) : List V → Hp → VK → Prop := fun vs H Q => ∃ as F st ds r st', StOk K F H as st ∧ VsOk K F H vs ds ∧ bltn b ds st = .ok r st' ∧ Aft K as F H st r st' Q
theorem ints_inv : ∀ {ds : List D} {is : List Int}, intsOf ds = some is → ds = is.map D.int
  | [], _, h => by cases h; rfl
  | d :: ds, _, h => by
    cases d with
    | int i =>
      have h' : (match intsOf ds with | some is => some (i :: is) | none => none) = some _ := h
      split at h'
      · rename_i js e
        cases h'
        rw [ints_inv e]
        rfl
      · cases h'
    | _ => cases h
theorem bls_inv : ∀ {ds : List D} {is : List Bool}, blsOf ds = some is → ds = is.map D.bl
  | [], _, h => by cases h; rfl
  | d :: ds, _, h => by
    cases d with
    | bl i =>
      have h' : (match blsOf ds with | some is => some (i :: is) | none => none) = some _ := h
      split at h'
      · rename_i js e
        cases h'
        rw [bls_inv e]
        rfl
      · cases h'
    | _ => cases h
theorem DsOk.bls {K : PySem.W.Frag} {F : Hp} : ∀ {vs : List V} {is : List Bool}, DsOk K F vs (is.map D.bl) → vs = is.map V.bl
  | [], [], _ => rfl
  | [], _ :: _, h => by cases h
  | _ :: _, [], h => by cases h
  | v :: vs, i :: is, h => by
    cases h with
    | cons h r =>
      cases h
      rw [DsOk.bls r]
      rfl
theorem DsOk.ints {K : PySem.W.Frag} {F : Hp} : ∀ {vs : List V} {is : List Int}, DsOk K F vs (is.map D.int) → vs = is.map V.int
  | [], [], _ => rfl
  | [], _ :: _, h => by cases h
  | _ :: _, [], h => by cases h
  | v :: vs, i :: is, h => by
    cases h with
    | cons h r =>
      cases h
      rw [DsOk.ints r]
      rfl
/-- the built-in's own value -/
def biVal : Bi → Value
  | .len => .builtin "len" | .all => .builtin "all" | .any => .builtin "any" | .abs => .builtin "abs" | .min => .builtin "min" | .max => .builtin "max" | .divmod => .builtin "divmod" | .sorted => .builtin "sorted" | .sum => .builtin "sum" | .minL => .builtin "min" | .maxL => .builtin "max"
  | .int => .type "int" | .tuple => .type "tuple" | .list => .type "list" | .str => .type "str"
theorem prd1 {α β : Type} {G : α → β → Prop} {xs : List α} {b : β} (h : Paired G xs [b]) : ∃ a, xs = [a] ∧ G a b := by
  cases h with
  | cons h r => cases r; exact ⟨_, rfl, h⟩
theorem prd2 {α β : Type} {G : α → β → Prop} {xs : List α} {b c : β} (h : Paired G xs [b, c]) : ∃ a a', xs = [a, a'] ∧ G a b ∧ G a' c := by
  cases h with
  | cons h r =>
    cases r with
    | cons h' r => cases r; exact ⟨_, _, rfl, h, h'⟩
theorem arg1_inv {ds : List D} {d : D} (h : arg1 ds = some d) : ds = [d] := by
  match ds, h with
  | [_], h => cases h; rfl
theorem arg2_inv {ds : List D} {d : D × D} (h : arg2 ds = some d) : ds = [d.1, d.2] := by
  match ds, h with
  | [_, _], h => cases h; rfl
/-- one argument -/
theorem bi1 {f : D → M R} {K : PySem.W.Frag} {F H : Hp} {xs : List V} {ds : List D} {st st' : Sto} {r : R} (hv : VsOk K F H xs ds) (e : (M.opt (arg1 ds) >>= f) st = .ok r st') : ∃ v d, xs = [v] ∧ VOk K F H v d ∧ f d st = .ok r st' := by
  obtain ⟨d, s1, e0, e2⟩ := bind_inv e
  obtain ⟨e1, rfl⟩ := opt_inv e0
  rw [arg1_inv e1] at hv
  obtain ⟨v, rfl, h⟩ := prd1 hv
  exact ⟨v, d, rfl, h, e2⟩
theorem bi2 {f : D × D → M R} {K : PySem.W.Frag} {F H : Hp} {xs : List V} {ds : List D} {st st' : Sto} {r : R} (hv : VsOk K F H xs ds) (e : (M.opt (arg2 ds) >>= f) st = .ok r st') : ∃ v w d, xs = [v, w] ∧ VOk K F H v d.1 ∧ VOk K F H w d.2 ∧ f d st = .ok r st' := by
  obtain ⟨d, s1, e0, e2⟩ := bind_inv e
  obtain ⟨e1, rfl⟩ := opt_inv e0
  rw [arg2_inv e1] at hv
  obtain ⟨v, w, rfl, h, h'⟩ := prd2 hv
  exact ⟨v, w, d, rfl, h, h', e2⟩
theorem sorted_unique : ∀ {l m : List Int}, l.Perm m → l.Pairwise (· ≤ ·) → m.Pairwise (· ≤ ·) → l = m
  | [], m, h, _, _ => (List.Perm.nil_eq h)
  | a :: l, [], h, _, _ => absurd (List.Perm.length_eq h) (by simp)
  | a :: l, b :: m, h, h1, h2 => by
    have p1 := List.pairwise_cons.mp h1
    have p2 := List.pairwise_cons.mp h2
    have hab : a = b := by
      have ha : a ∈ b :: m := h.mem_iff.mp (List.mem_cons_self ..)
      have hb : b ∈ a :: l := h.mem_iff.mpr (List.mem_cons_self ..)
      rcases List.mem_cons.mp ha with e | ha
      · exact e
      · rcases List.mem_cons.mp hb with e | hb
        · exact e.symm
        · have := p2.1 a ha
          have := p1.1 b hb
          omega
    subst hab
    rw [sorted_unique (List.Perm.cons_inv h) p1.2 p2.2]
theorem insI_perm (x : Int) : ∀ l : List Int, (insI x l).Perm (x :: l)
  | [] => List.Perm.refl _
  | y :: ys => by
    unfold insI
    split
    · exact List.Perm.refl _
    · exact ((insI_perm x ys).cons y).trans (List.Perm.swap x y ys)
theorem isort_perm : ∀ l : List Int, (isort l).Perm l
  | [] => List.Perm.refl _
  | x :: l => (insI_perm x (isort l)).trans ((isort_perm l).cons x)
theorem insI_sorted (x : Int) : ∀ {l : List Int}, l.Pairwise (· ≤ ·) → (insI x l).Pairwise (· ≤ ·)
  | [], _ => by simp [insI]
  | y :: ys, h => by
    have p := List.pairwise_cons.mp h
    unfold insI
    split
    · rename_i hxy
      exact List.pairwise_cons.mpr ⟨fun z hz => by
        rcases List.mem_cons.mp hz with rfl | hz
        · exact hxy
        · have := p.1 z hz; omega, h⟩
    · rename_i hxy
      refine List.pairwise_cons.mpr ⟨fun z hz => ?_, insI_sorted x p.2⟩
      rcases List.mem_cons.mp ((insI_perm x ys).mem_iff.mp hz) with rfl | hz
      · omega
      · exact p.1 z hz
theorem isort_sorted : ∀ l : List Int, (isort l).Pairwise (· ≤ ·)
  | [] => .nil
  | x :: l => insI_sorted x (isort_sorted l)
theorem minI_of : ∀ {l : List Int} {m : Int}, minI l = some m → m ∈ l ∧ ∀ y ∈ l, m ≤ y
  | x :: xs, m, h => by
    have h : (match minI xs with | none => some x | some m => some (if x ≤ m then x else m)) = some m := h
    split at h
    · rename_i e
      cases h
      cases xs with
      | nil => exact ⟨List.mem_cons_self .., fun y hy => by rw [List.mem_singleton.mp hy]; exact Int.le_refl _⟩
      | cons a as =>
        have e : (match minI as with | none => some a | some m => some (if a ≤ m then a else m)) = none := e
        split at e <;> cases e
    · rename_i k e
      cases h
      obtain ⟨h1, h2⟩ := minI_of e
      split
      · rename_i hxk
        exact ⟨List.mem_cons_self .., fun y hy => by
          rcases List.mem_cons.mp hy with rfl | hy
          · exact Int.le_refl _
          · have := h2 y hy; omega⟩
      · rename_i hxk
        exact ⟨List.mem_cons_of_mem _ h1, fun y hy => by
          rcases List.mem_cons.mp hy with rfl | hy
          · omega
          · exact h2 y hy⟩
theorem maxI_of : ∀ {l : List Int} {m : Int}, maxI l = some m → m ∈ l ∧ ∀ y ∈ l, y ≤ m
  | x :: xs, m, h => by
    have h : (match maxI xs with | none => some x | some m => some (if m ≤ x then x else m)) = some m := h
    split at h
    · rename_i e
      cases h
      cases xs with
      | nil => exact ⟨List.mem_cons_self .., fun y hy => by rw [List.mem_singleton.mp hy]; exact Int.le_refl _⟩
      | cons a as =>
        have e : (match maxI as with | none => some a | some m => some (if m ≤ a then a else m)) = none := e
        split at e <;> cases e
    · rename_i k e
      cases h
      obtain ⟨h1, h2⟩ := maxI_of e
      split
      · rename_i hxk
        exact ⟨List.mem_cons_self .., fun y hy => by
          rcases List.mem_cons.mp hy with rfl | hy
          · exact Int.le_refl _
          · have := h2 y hy; omega⟩
      · rename_i hxk
        exact ⟨List.mem_cons_of_mem _ h1, fun y hy => by
          rcases List.mem_cons.mp hy with rfl | hy
          · omega
          · exact h2 y hy⟩
theorem DsOk.ofInts {K : PySem.W.Frag} {F : Hp} : ∀ is : List Int, DsOk K F (is.map V.int) (is.map D.int)
  | [] => .nil
  | i :: is => .cons (.int i) (DsOk.ofInts is)
theorem DsOk.keys {K : PySem.W.Frag} {F : Hp} : ∀ kvs : List (Key × V), DsOk K F (kvs.map fun kv => kV kv.1) (kvs.map fun p => keyD p.1)
  | [] => .nil
  | p :: kvs => .cons (by obtain ⟨k, v⟩ := p; cases k with | inl i => exact .int i | inr z => exact .str z) (DsOk.keys kvs)
theorem call_bi {b : Bi} (hc : X.calm = true) : CallR X (biVal b) (rBi X.K b) := by
  cases b with
  | len =>
    refine CallR.imp (CallR.or call_len_seq (CallR.or call_len_str call_lenD)) fun xs H Q hh => ?_
    obtain ⟨as, F, st, ds, r, st', s, hv, e, a⟩ := hh
    obtain ⟨v, d, rfl, hx, e⟩ := bi1 (f := lenB) hv e
    cases d with
    | tup ys =>
      obtain ⟨rfl, rfl⟩ := pure_inv (show (pure (R.dat (.int ys.length)) : M R) st = .ok r st' from e)
      obtain ⟨a1, vs, rfl, h1, l1, r1, d1⟩ := hx.tup s.sub
      exact .inl ⟨a1, vs, rfl, .inr h1, by rw [r1.length]; exact a.dat s (.int _)⟩
    | lst ys =>
      obtain ⟨rfl, rfl⟩ := pure_inv (show (pure (R.dat (.int ys.length)) : M R) st = .ok r st' from e)
      obtain ⟨a1, vs, rfl, h1, l1, r1⟩ := hx.lst s.sub
      exact .inl ⟨a1, vs, rfl, .inl (SqL.of h1), by rw [r1.length]; exact a.dat s (.int _)⟩
    | scr ys =>
      obtain ⟨rfl, rfl⟩ := pure_inv (show (pure (R.dat (.int ys.length)) : M R) st = .ok r st' from e)
      obtain ⟨a1, vs, rfl, h1, l1, r1⟩ := hx.scr s.sub
      exact .inl ⟨a1, vs, rfl, .inl h1, by rw [r1.length]; exact a.dat s (.int _)⟩
    | str z =>
      obtain ⟨_, s1, e1, e2⟩ := bind_inv (show (M.guard (lenOk z.length) >>= fun _ => (pure (R.dat (.int z.length)) : M R)) st = .ok r st' from e)
      obtain ⟨g, rfl⟩ := guard_inv e1
      obtain ⟨rfl, rfl⟩ := pure_inv e2
      exact .inr (.inl ⟨z, by rw [hx.str], lenOk_iff g, a.dat s (.int _)⟩)
    | dct ks ws =>
      obtain ⟨rfl, rfl⟩ := pure_inv (show (pure (R.dat (.int ks.length)) : M R) st = .ok r st' from e)
      obtain ⟨a1, kvs, rfl, h1, l1, rfl, n1, r1⟩ := hx.dct s.sub
      refine .inr (.inr ⟨a1, kvs, rfl, h1, ?_⟩)
      rw [List.length_map] at a
      exact a.dat s (.int _)
    | _ => exact (no_inv e).elim
  | all =>
    refine CallR.imp (cr_all hc) fun xs H Q hh => ?_
    obtain ⟨as, F, st, ds, r, st', s, hv, e, a⟩ := hh
    obtain ⟨v, d, rfl, hx, e⟩ := bi1 (f := allB) hv e
    cases d with
    | lst ys =>
      obtain ⟨bs, s1, e0, e2⟩ := bind_inv (show (M.opt (blsOf ys) >>= fun bs => (pure (R.dat (.bl (bs.all id))) : M R)) st = .ok r st' from e)
      obtain ⟨e1, rfl⟩ := opt_inv e0
      obtain ⟨rfl, rfl⟩ := pure_inv e2
      obtain ⟨a1, vs, rfl, h1, l1, r1⟩ := hx.lst s.sub
      rw [bls_inv e1] at r1
      rw [r1.bls] at h1
      exact ⟨a1, bs, rfl, SqL.of h1, a.dat s (.bl _)⟩
    | _ => exact (no_inv e).elim
  | any =>
    refine CallR.imp (cr_any hc) fun xs H Q hh => ?_
    obtain ⟨as, F, st, ds, r, st', s, hv, e, a⟩ := hh
    obtain ⟨v, d, rfl, hx, e⟩ := bi1 (f := anyB) hv e
    cases d with
    | lst ys =>
      obtain ⟨bs, s1, e0, e2⟩ := bind_inv (show (M.opt (blsOf ys) >>= fun bs => (pure (R.dat (.bl (bs.any id))) : M R)) st = .ok r st' from e)
      obtain ⟨e1, rfl⟩ := opt_inv e0
      obtain ⟨rfl, rfl⟩ := pure_inv e2
      obtain ⟨a1, vs, rfl, h1, l1, r1⟩ := hx.lst s.sub
      rw [bls_inv e1] at r1
      rw [r1.bls] at h1
      exact ⟨a1, bs, rfl, SqL.of h1, a.dat s (.bl _)⟩
    | _ => exact (no_inv e).elim
  | int =>
    refine CallR.imp call_int1 fun xs H Q hh => ?_
    obtain ⟨as, F, st, ds, r, st', s, hv, e, a⟩ := hh
    obtain ⟨v, d, rfl, hx, e⟩ := bi1 (f := intB) hv e
    cases d with
    | int i =>
      obtain ⟨rfl, rfl⟩ := pure_inv (show (pure (R.dat (.int i)) : M R) st = .ok r st' from e)
      exact .inl ⟨i, by rw [hx.int], a.dat s (.int _)⟩
    | _ => exact (no_inv e).elim
  | abs =>
    refine CallR.imp call_abs fun xs H Q hh => ?_
    obtain ⟨as, F, st, ds, r, st', s, hv, e, a⟩ := hh
    obtain ⟨v, d, rfl, hx, e⟩ := bi1 (f := absB) hv e
    cases d with
    | int i =>
      obtain ⟨rfl, rfl⟩ := pure_inv (show (pure (R.dat (.int (if i < 0 then -i else i))) : M R) st = .ok r st' from e)
      exact ⟨i, by rw [hx.int], a.dat s (.int _)⟩
    | _ => exact (no_inv e).elim
  | min =>
    refine CallR.imp (call_min2 hc) fun xs H Q hh => ?_
    obtain ⟨as, F, st, ds, r, st', s, hv, e, a⟩ := hh
    obtain ⟨v, w, ⟨d1, d2⟩, rfl, hx, hy, e⟩ := bi2 (f := fun p => minB p.1 p.2) hv e
    cases d1 with
    | int i =>
      cases d2 with
      | int j =>
        obtain ⟨rfl, rfl⟩ := pure_inv (show (pure (R.dat (.int (if j < i then j else i))) : M R) st = .ok r st' from e)
        exact ⟨i, j, by rw [hx.int, hy.int], a.dat s (.int _)⟩
      | _ => exact (no_inv e).elim
    | _ => exact (no_inv e).elim
  | max =>
    refine CallR.imp (call_max2 hc) fun xs H Q hh => ?_
    obtain ⟨as, F, st, ds, r, st', s, hv, e, a⟩ := hh
    obtain ⟨v, w, ⟨d1, d2⟩, rfl, hx, hy, e⟩ := bi2 (f := fun p => maxB p.1 p.2) hv e
    cases d1 with
    | int i =>
      cases d2 with
      | int j =>
        obtain ⟨rfl, rfl⟩ := pure_inv (show (pure (R.dat (.int (if j > i then j else i))) : M R) st = .ok r st' from e)
        exact ⟨i, j, by rw [hx.int, hy.int], a.dat s (.int _)⟩
      | _ => exact (no_inv e).elim
    | _ => exact (no_inv e).elim
  | divmod =>
    refine CallR.imp call_divmodW fun xs H Q hh => ?_
    obtain ⟨as, F, st, ds, r, st', s, hv, e, a⟩ := hh
    obtain ⟨v, w, ⟨d1, d2⟩, rfl, hx, hy, e⟩ := bi2 (f := fun p => dmB p.1 p.2) hv e
    cases d1 with
    | int i =>
      cases d2 with
      | int j =>
        obtain ⟨_, s1, e1, e2⟩ := bind_inv (show (M.guard (decide (0 < j) && decide (j.natAbs < 2 ^ 4000)) >>= fun _ => (pure (R.dat (.tup [.int (i / j), .int (i % j)])) : M R)) st = .ok r st' from e)
        obtain ⟨g, rfl⟩ := guard_inv e1
        obtain ⟨rfl, rfl⟩ := pure_inv e2
        simp only [Bool.and_eq_true, decide_eq_true_eq] at g
        refine ⟨i, j, by rw [hx.int, hy.int], ⟨g.1, ?_⟩, a.tup s (.cons (.int _) (.cons (.int _) .nil)) (by show 2 ≤ sizeLine; decide)⟩
        have hne : j.natAbs ≠ 0 := by omega
        have hb := (Nat.log2_lt hne).mpr g.2
        have hj : (j == 0) = false := by
          have : ¬ j = 0 := by omega
          simpa using this
        unfold Builtin.divisionGoesByPylong
        simp only [hj]
        have : decide (j.natAbs.log2 / 30 + 1 > 300) = false := decide_eq_false (by omega)
        simp only [Bool.false_eq_true, if_false, this, Bool.false_and]
      | _ => exact (no_inv e).elim
    | _ => exact (no_inv e).elim
  | tuple =>
    refine CallR.imp call_tuple_of fun xs H Q hh => ?_
    obtain ⟨as, F, st, ds, r, st', s, hv, e, a⟩ := hh
    obtain ⟨v, d, rfl, hx, e⟩ := bi1 (f := tupB) hv e
    cases d with
    | tup ys =>
      obtain ⟨rfl, rfl⟩ := pure_inv (show (pure (R.dat (.tup ys)) : M R) st = .ok r st' from e)
      obtain ⟨a1, vs, rfl, h1, l1, r1, d1⟩ := hx.tup s.sub
      exact ⟨a1, vs, rfl, .inr ⟨h1, a.dat s d1⟩⟩
    | lst ys =>
      obtain ⟨rfl, rfl⟩ := pure_inv (show (pure (R.dat (.tup ys)) : M R) st = .ok r st' from e)
      obtain ⟨a1, vs, rfl, h1, l1, r1⟩ := hx.lst s.sub
      exact ⟨a1, vs, rfl, .inl ⟨SqL.of h1, a.tup s r1 l1⟩⟩
    | _ => exact (no_inv e).elim
  | list =>
    refine CallR.imp (CallR.or call_list_of (call_list_dK hc)) fun xs H Q hh => ?_
    obtain ⟨as, F, st, ds, r, st', s, hv, e, a⟩ := hh
    obtain ⟨v, d, rfl, hx, e⟩ := bi1 (f := lstB) hv e
    cases d with
    | tup ys =>
      obtain ⟨rfl, rfl⟩ := pure_inv (show (pure (R.own (.lst ys)) : M R) st = .ok r st' from e)
      obtain ⟨a1, vs, rfl, h1, l1, r1, d1⟩ := hx.tup s.sub
      exact .inl ⟨a1, vs, rfl, .inr h1, a.lst s r1 l1⟩
    | lst ys =>
      obtain ⟨rfl, rfl⟩ := pure_inv (show (pure (R.own (.lst ys)) : M R) st = .ok r st' from e)
      obtain ⟨a1, vs, rfl, h1, l1, r1⟩ := hx.lst s.sub
      exact .inl ⟨a1, vs, rfl, .inl (SqL.of h1), a.lst s r1 l1⟩
    | scr ys =>
      obtain ⟨rfl, rfl⟩ := pure_inv (show (pure (R.own (.lst ys)) : M R) st = .ok r st' from e)
      obtain ⟨a1, vs, rfl, h1, l1, r1⟩ := hx.scr s.sub
      exact .inl ⟨a1, vs, rfl, .inl h1, a.lst s r1 l1⟩
    | dct ks ws =>
      obtain ⟨rfl, rfl⟩ := pure_inv (show (pure (R.own (.lst ks)) : M R) st = .ok r st' from e)
      obtain ⟨a1, kvs, rfl, h1, l1, rfl, n1, r1⟩ := hx.dct s.sub
      exact .inr ⟨a1, kvs, rfl, h1, a.lst s (DsOk.keys kvs) (by rw [List.length_map]; exact l1)⟩
    | _ => exact (no_inv e).elim
  | sorted =>
    refine CallR.imp L2.cr_sortedIT fun xs H Q hh => ?_
    obtain ⟨as, F, st, ds, r, st', s, hv, e, a⟩ := hh
    obtain ⟨v, d, rfl, hx, e⟩ := bi1 (f := sortB) hv e
    cases d with
    | lst ys =>
      obtain ⟨is, s1, e0, e2⟩ := bind_inv (show (M.opt (intsOf ys) >>= fun is => (pure (R.own (.lst ((isort is).map D.int))) : M R)) st = .ok r st' from e)
      obtain ⟨e1, rfl⟩ := opt_inv e0
      obtain ⟨rfl, rfl⟩ := pure_inv e2
      obtain ⟨a1, vs, rfl, h1, l1, r1⟩ := hx.lst s.sub
      rw [ints_inv e1] at r1
      rw [r1.ints] at h1 l1
      refine ⟨a1, is, rfl, .inl (SqL.of h1), fun ns' p q1 q2 q3 => ?_⟩
      have e3 : ns' = isort is := sorted_unique (q1.trans (isort_perm is).symm) q2 (isort_sorted is)
      subst e3
      exact a.lst s (DsOk.ofInts _) (by rw [List.length_map] at l1 ⊢; rw [q1.length_eq]; exact l1) p q3
    | tup ys =>
      obtain ⟨is, s1, e0, e2⟩ := bind_inv (show (M.opt (intsOf ys) >>= fun is => (pure (R.own (.lst ((isort is).map D.int))) : M R)) st = .ok r st' from e)
      obtain ⟨e1, rfl⟩ := opt_inv e0
      obtain ⟨rfl, rfl⟩ := pure_inv e2
      obtain ⟨a1, vs, rfl, h1, l1, r1, d1⟩ := hx.tup s.sub
      rw [ints_inv e1] at r1
      rw [r1.ints] at h1 l1
      refine ⟨a1, is, rfl, .inr h1, fun ns' p q1 q2 q3 => ?_⟩
      have e3 : ns' = isort is := sorted_unique (q1.trans (isort_perm is).symm) q2 (isort_sorted is)
      subst e3
      exact a.lst s (DsOk.ofInts _) (by rw [List.length_map] at l1 ⊢; rw [q1.length_eq]; exact l1) p q3
    | _ => exact (no_inv e).elim
  | sum =>
    refine CallR.imp (cr_sum hc) fun xs H Q hh => ?_
    obtain ⟨as, F, st, ds, r, st', s, hv, e, a⟩ := hh
    obtain ⟨v, d, rfl, hx, e⟩ := bi1 (f := sumB) hv e
    cases d with
    | lst ys =>
      obtain ⟨is, s1, e0, e2⟩ := bind_inv (show (M.opt (intsOf ys) >>= fun is => (pure (R.dat (.int is.sum)) : M R)) st = .ok r st' from e)
      obtain ⟨e1, rfl⟩ := opt_inv e0
      obtain ⟨rfl, rfl⟩ := pure_inv e2
      obtain ⟨a1, vs, rfl, h1, l1, r1⟩ := hx.lst s.sub
      rw [ints_inv e1] at r1
      rw [r1.ints] at h1
      exact ⟨a1, is, rfl, SqL.of h1, a.dat s (.int _)⟩
    | _ => exact (no_inv e).elim
  | minL =>
    refine CallR.imp (cr_min hc) fun xs H Q hh => ?_
    obtain ⟨as, F, st, ds, r, st', s, hv, e, a⟩ := hh
    obtain ⟨v, d, rfl, hx, e⟩ := bi1 (f := minLB) hv e
    cases d with
    | lst ys =>
      obtain ⟨is, s1, e0, e2⟩ := bind_inv (show (M.opt (intsOf ys) >>= fun is => M.opt (minI is) >>= fun m => (pure (R.dat (.int m)) : M R)) st = .ok r st' from e)
      obtain ⟨e1, rfl⟩ := opt_inv e0
      obtain ⟨m, s2, e3, e4⟩ := bind_inv e2
      obtain ⟨e5, rfl⟩ := opt_inv e3
      obtain ⟨rfl, rfl⟩ := pure_inv e4
      obtain ⟨a1, vs, rfl, h1, l1, r1⟩ := hx.lst s.sub
      rw [ints_inv e1] at r1
      rw [r1.ints] at h1
      obtain ⟨m1, m2⟩ := minI_of e5
      refine ⟨a1, is, rfl, SqL.of h1, List.length_pos_of_mem m1, fun k k1 k2 => ?_⟩
      have : k = m := by have := k2 m m1; have := m2 k k1; omega
      subst this
      exact a.dat s (.int _)
    | _ => exact (no_inv e).elim
  | str =>
    refine CallR.imp call_str_int fun xs H Q hh => ?_
    obtain ⟨as, F, st, ds, r, st', s, hv, e, a⟩ := hh
    obtain ⟨v, d, rfl, hx, e⟩ := bi1 (f := strB) hv e
    cases d with
    | int i =>
      obtain ⟨_, s1, e1, e2⟩ := bind_inv (show (M.guard (decide (i.natAbs.log2 < 1920)) >>= fun _ => (pure (R.dat (.str (Str.ofString (toString i)))) : M R)) st = .ok r st' from e)
      obtain ⟨g, rfl⟩ := guard_inv e1
      obtain ⟨rfl, rfl⟩ := pure_inv e2
      exact ⟨i, by rw [hx.int], of_decide_eq_true g, a.dat s (.str _)⟩
    | _ => exact (no_inv e).elim
  | maxL =>
    refine CallR.imp (cr_max hc) fun xs H Q hh => ?_
    obtain ⟨as, F, st, ds, r, st', s, hv, e, a⟩ := hh
    obtain ⟨v, d, rfl, hx, e⟩ := bi1 (f := maxLB) hv e
    cases d with
    | lst ys =>
      obtain ⟨is, s1, e0, e2⟩ := bind_inv (show (M.opt (intsOf ys) >>= fun is => M.opt (maxI is) >>= fun m => (pure (R.dat (.int m)) : M R)) st = .ok r st' from e)
      obtain ⟨e1, rfl⟩ := opt_inv e0
      obtain ⟨m, s2, e3, e4⟩ := bind_inv e2
      obtain ⟨e5, rfl⟩ := opt_inv e3
      obtain ⟨rfl, rfl⟩ := pure_inv e4
      obtain ⟨a1, vs, rfl, h1, l1, r1⟩ := hx.lst s.sub
      rw [ints_inv e1] at r1
      rw [r1.ints] at h1
      obtain ⟨m1, m2⟩ := maxI_of e5
      refine ⟨a1, is, rfl, SqL.of h1, List.length_pos_of_mem m1, fun k k1 k2 => ?_⟩
      have : k = m := by have := k2 m m1; have := m2 k k1; omega
      subst this
      exact a.dat s (.int _)
    | _ => exact (no_inv e).elim
/-! ### indices, slices, isinstance, truth -/
def rIxD (K : PySem.W.Frag) : R2 := fun x y H Q => ∃ (as : List Addr) (F : Hp) (st : Sto) (ds : List D) (d : D) (j : Int), StOk K F H as st ∧ (VOk K F H x (.tup ds) ∨ VOk K F H x (.lst ds) ∨ VOk K F H x (.scr ds)) ∧ y = .int j ∧ at? ds j = some d ∧ ∀ v, DOk K F v d → Q v H
theorem DsOk.atI {K : PySem.W.Frag} {F : Hp} {vs : List V} {ds : List D} {j : Int} {d : D} (h : DsOk K F vs ds) (e : at? ds j = some d) : ∃ v, L2.atI vs j = some v ∧ DOk K F v d := by
  unfold at? at e
  unfold L2.atI at e ⊢
  rw [h.length]
  cases q : ixN ds.length j with
  | none => rw [q] at e; cases e
  | some i =>
    rw [q] at e
    exact h.get (i := i) e
theorem IxR.imp {X : Cx} {r r' : R2} (h : IxR X r) (i : ∀ x y H Q, r' x y H Q → r x y H Q) : IxR X r' := by
  intro a b pins s σ H x y v u Q I rx ry q
  exact h a b pins s σ H x y v u Q I rx ry (i _ _ _ _ q)
theorem ix_D : IxR X (rIxD X.K) := by
  refine IxR.imp ix_seq fun x y H Q h => ?_
  obtain ⟨as, F, st, ds, d, j, so, hx, rfl, e, q⟩ := h
  rcases hx with hx | hx | hx
  · obtain ⟨a1, vs, rfl, h1, l1, r1, d1⟩ := hx.tup so.sub
    obtain ⟨w, e2, hw⟩ := r1.atI e
    exact .inr (.inl ⟨a1, vs, j, w, rfl, rfl, h1, e2, q w hw⟩)
  · obtain ⟨a1, vs, rfl, h1, l1, r1⟩ := hx.lst so.sub
    obtain ⟨w, e2, hw⟩ := r1.atI e
    exact .inl ⟨a1, vs, j, w, rfl, rfl, SqL.of h1, e2, q w hw⟩
  · obtain ⟨a1, vs, rfl, h1, l1, r1⟩ := hx.scr so.sub
    obtain ⟨w, e2, hw⟩ := r1.atI e
    exact .inl ⟨a1, vs, j, w, rfl, rfl, h1, e2, q w hw⟩
def rIxK : R2 := fun x y H Q => ∃ a v, x = .ref a ∧ DGet H a y (some v) ∧ Q v H
theorem ix_dK (hu : X.A.units + 1 < cLine) : IxR X rIxK := by
  intro value slice pins s σ H x y v u Q I rx ry h hs
  obtain ⟨a, z, rfl, g, q⟩ := h
  cases rx
  exact PyProof.Rows.tail_any (dict_typeIs I g) PySem.F.slot_dict_getitem.lookup (d_getItem hu I g ry fun w' s' I' rw' => ⟨z, H, I', rw', q⟩) hs
def rSlD (K : PySem.W.Frag) : V → Option Int → Option Int → Hp → VK → Prop := fun x lo hi H Q => ∃ as F st p r st', StOk K F H as st ∧ VOk K F H x p ∧ slB p lo hi st = .ok r st' ∧ Aft K as F H st r st' Q
theorem DsOk.cut {K : PySem.W.Frag} {F : Hp} {vs : List V} {ds : List D} {lo hi : Option Int} (h : DsOk K F vs ds) : DsOk K F (cutV vs lo hi) (cut ds lo hi) := by
  unfold cutV DB.cut
  rw [h.length]
  exact (h.drop _).take _
theorem cut_whole {ds : List D} {lo hi : Option Int} (h : HT.sIx ds.length 0 lo = 0 ∧ HT.sIx ds.length ds.length hi = ds.length) : cut ds lo hi = ds := by
  unfold cut
  rw [h.1, h.2]
  simp
theorem sl_D : SlR X (rSlD X.K) := by
  intro pins s σ H x v vl vu lo hi sl Q I rx hs pl pu h
  obtain ⟨as, F, st, p, r, st', so, hx, e, a⟩ := h
  cases p with
  | tup ys =>
    obtain ⟨rfl, rfl⟩ := pure_inv (show (pure (R.dat (.tup (cut ys lo hi))) : M R) st = .ok r st' from e)
    obtain ⟨a1, vs, rfl, h1, l1, r1, d1⟩ := hx.tup so.sub
    refine sl_tupA pins s σ H _ v vl vu lo hi sl Q I rx hs pl pu ⟨a1, vs, rfl, h1, fun z => ?_, fun _ => a.tup so r1.cut (Nat.le_trans (cutV_length _ _ _) l1)⟩
    rw [r1.length] at z
    rw [cut_whole z] at a
    exact a.dat so d1
  | lst ys =>
    obtain ⟨rfl, rfl⟩ := pure_inv (show (pure (R.own (.lst (cut ys lo hi))) : M R) st = .ok r st' from e)
    obtain ⟨a1, vs, rfl, h1, l1, r1⟩ := hx.lst so.sub
    exact sl_list pins s σ H _ v vl vu lo hi sl Q I rx hs pl pu ⟨a1, vs, rfl, SqL.of h1, a.lst so r1.cut (Nat.le_trans (cutV_length _ _ _) l1)⟩
  | scr ys =>
    obtain ⟨rfl, rfl⟩ := pure_inv (show (pure (R.own (.lst (cut ys lo hi))) : M R) st = .ok r st' from e)
    obtain ⟨a1, vs, rfl, h1, l1, r1⟩ := hx.scr so.sub
    exact sl_list pins s σ H _ v vl vu lo hi sl Q I rx hs pl pu ⟨a1, vs, rfl, h1, a.lst so r1.cut (Nat.le_trans (cutV_length _ _ _) l1)⟩
  | _ => exact (no_inv e).elim
theorem SqL.tyX {K : PySem.W.Frag} {H : Hp} {a : Addr} {xs : List V} (h : SqL K H a xs) : TyX K H (.ref a) (.type "list") := by
  rcases h with (h | ⟨o, h⟩) | ⟨o, its, n, h1, h2, _⟩
  · exact .base (.lst h)
  · exact .base (.frz h)
  · exact .kList h1 h2
theorem SqT.tyX {K : PySem.W.Frag} {H : Hp} {a : Addr} {xs : List V} (h : SqT K H a xs) : TyX K H (.ref a) (.type "tuple") := by
  rcases h with (h | ⟨o, h⟩) | ⟨o, its, n, h1, h2, _⟩
  · exact .base (.tup h)
  · exact .fTuple h
  · exact .kTuple h1 h2
theorem VOk.tyX {K : PySem.W.Frag} {F H : Hp} {v : V} {d : D} (s : Same F H) (h : VOk K F H v d) (ho : (tyName d != "object") = true) : TyX K H v (.type (tyName d)) := by
  cases d with
  | non => rw [h.non]; exact .base .non
  | bl b => rw [h.bl]; exact .base (.bl b)
  | int i => rw [h.int]; exact .base (.int i)
  | str x => rw [h.str]; exact .base (.str x)
  | tup ds => obtain ⟨a, vs, rfl, h1, _⟩ := h.tup s; exact SqT.tyX h1
  | lst ds => obtain ⟨a, vs, rfl, h1, _⟩ := h.lst s; exact .base (.lst h1)
  | scr ds => obtain ⟨a, vs, rfl, h1, _⟩ := h.scr s; exact SqL.tyX h1
  | dct ks ws => obtain ⟨a, kvs, rfl, h1, _⟩ := h.dct s; exact .base (.dK h1)
  | obj _ _ => exact absurd ho (by simp [tyName])
  | fn _ => exact absurd ho (by simp [tyName])
  | itr _ => exact absurd ho (by simp [tyName])
theorem kitB_names {tn t : String} (h1 : tn = "NoneType" ∨ tn = "bool" ∨ tn = "int" ∨ tn = "str" ∨ tn = "tuple" ∨ tn = "list" ∨ tn = "dict") (h2 : t = "int" ∨ t = "bool" ∨ t = "str" ∨ t = "tuple" ∨ t = "list" ∨ t = "dict") :
    kitB tn t = some ((tn == t) || (t == "int" && tn == "bool")) := by
  rcases h1 with rfl | rfl | rfl | rfl | rfl | rfl | rfl <;> rcases h2 with rfl | rfl | rfl | rfl | rfl | rfl <;> decide +kernel
theorem kitB_ok {t : String} (ht : tyOk t = true) {d : D} (ho : (tyName d != "object") = true) : kitB (tyName d) t = some (isTy t d) := by
  have ht' : t = "int" ∨ t = "bool" ∨ t = "str" ∨ t = "tuple" ∨ t = "list" ∨ t = "dict" := by
    have : t ∈ ["int", "bool", "str", "tuple", "list", "dict"] := by simpa [tyOk] using ht
    simpa using this
  refine kitB_names ?_ ht'
  cases d with
  | obj _ _ => exact absurd ho (by simp [tyName])
  | fn _ => exact absurd ho (by simp [tyName])
  | itr _ => exact absurd ho (by simp [tyName])
  | _ => simp [tyName]
theorem VOk.tru {K : PySem.W.Frag} {F H : Hp} {v : V} {d : D} {b : Bool} {st st' : Sto} (s : Same F H) (h : VOk K F H v d) (e : truth d st = .ok b st') : TruV K v H b ∧ st' = st := by
  cases d with
  | non => rw [h.non]; obtain ⟨rfl, rfl⟩ := pure_inv (show (pure false : M Bool) st = .ok b st' from e); exact ⟨rfl, rfl⟩
  | bl k => rw [h.bl]; obtain ⟨rfl, rfl⟩ := pure_inv (show (pure k : M Bool) st = .ok b st' from e); exact ⟨rfl, rfl⟩
  | int i => rw [h.int]; obtain ⟨rfl, rfl⟩ := pure_inv (show (pure (i != 0) : M Bool) st = .ok b st' from e); exact ⟨rfl, rfl⟩
  | str z =>
    rw [h.str]
    obtain ⟨_, s1, e1, e2⟩ := bind_inv (show (M.guard (lenOk z.length) >>= fun _ => (pure (z.length != 0) : M Bool)) st = .ok b st' from e)
    obtain ⟨g, rfl⟩ := guard_inv e1
    obtain ⟨rfl, rfl⟩ := pure_inv e2
    refine ⟨⟨lenOk_iff g, ?_⟩, rfl⟩
    rw [Bool.eq_iff_iff]
    simp
  | tup ds =>
    obtain ⟨a, vs, rfl, h1, _, r, _⟩ := h.tup s
    obtain ⟨rfl, rfl⟩ := pure_inv (show (pure (!ds.isEmpty) : M Bool) st = .ok b st' from e)
    exact ⟨.inr (.inl ⟨vs, h1, by cases r <;> rfl⟩), rfl⟩
  | lst ds =>
    obtain ⟨a, vs, rfl, h1, _, r⟩ := h.lst s
    obtain ⟨rfl, rfl⟩ := pure_inv (show (pure (!ds.isEmpty) : M Bool) st = .ok b st' from e)
    exact ⟨.inl ⟨vs, SqL.of h1, by cases r <;> rfl⟩, rfl⟩
  | scr ds =>
    obtain ⟨a, vs, rfl, h1, _, r⟩ := h.scr s
    obtain ⟨rfl, rfl⟩ := pure_inv (show (pure (!ds.isEmpty) : M Bool) st = .ok b st' from e)
    exact ⟨.inl ⟨vs, h1, by cases r <;> rfl⟩, rfl⟩
  | dct ks ws =>
    obtain ⟨a, kvs, rfl, h1, _, rfl, _, r⟩ := h.dct s
    obtain ⟨rfl, rfl⟩ := pure_inv (show (pure (!(kvs.map fun p => keyD p.1).isEmpty) : M Bool) st = .ok b st' from e)
    exact ⟨.inr (.inr ⟨kvs, h1, by cases kvs <;> rfl⟩), rfl⟩
  | _ => exact (no_inv e).elim
end
end DB
set_option maxHeartbeats 4000000
/-! calls under which no guarded built-in is under way -/
namespace DB
open PySem PySem.Spec L2 PyProof.Rows
/-- what a def of ours promises where nothing guarded is under way -/
structure FnG (P : Program) (w : World) (K : PySem.W.Frag) (mg : Str → Option Value) (base : Heap) (k : Nat) (f : Addr) (fd : FuncData) (ps : List Str) (sp : Sp) : Prop where
  len : ∀ vs H Q E, sp vs H Q E → vs.length = ps.length
  run : ∀ (A : Around) (outer : List PySem.Env) (s : Shared) (H : Hp) (args : Args) (us : List Value) (vs : List V) (Q : VK) (E : XK), Room k A → A.guards = some [] → Env0 P w K mg base A outer s H → BindsTo s fd args (ps.zip us) → Vals vs us → sp vs H Q E →
    codeAny (model P w) A (.call (.ref f) args) (CR CX0 outer P w H s Q E) s
section
variable {X : Cx} {k : Nat} {f : Addr} {fd : FuncData} {ps : List Str} {sp : Sp} {E : XK}
/-- the callee runs -/
theorem run_G {pins : List (Addr × Obj)} {σ : L2.St} {H : Hp} {s : Shared} {Q : VK} {us pos : List Value} {kw : List (Str × Value)} {vs : List V} (F : FnG X.prog X.w X.K X.mg X.base k f fd ps sp) (hr : Room k X.A) (hg : X.A.guards = some [])
    (I : Inv X pins σ H s) (hb : BindsTo s fd ⟨pos, kw⟩ (ps.zip us)) (r : Vals vs us) (h : sp vs H Q E) : wpAny (model X.prog X.w) X.A (call (.ref f) pos kw) (EP X pins σ Q) X.xe s :=
  wpAny_call (codeAny_mono (F.run X.A X.stack s H ⟨pos, kw⟩ us vs Q E hr hg I.env0 hb r h) fun r s' hq => by
    rcases r with e | fl
    · exact hq.elim
    · rcases fl with _ | _ | _ | u <;> first | exact I.after hq | exact hq.elim)
end
section
variable {P : Program} {w : World} {K : PySem.W.Frag} {mg : Str → Option Value} {base : Heap} {x qual : Str} {params : Arguments} {body : List Stmt} {scope : Scope} {dvs : List V} {kws : List (Str × V)} {f : Addr} {fd : FuncData}
/-- a def keeps its promise if its body does, nothing guarded under way -/
theorem okG {N ps : List Str} {k : Nat} {sp : Sp} (F : FunD K x qual params body scope dvs kws f fd) (S : FnScope N ps scope) (len : ∀ vs H Q E, sp vs H Q E → vs.length = ps.length)
    (hbody : ∀ (cdv : Value) (A : Around) (outer : List PySem.Env) (s : Shared) (H : Hp) (vs : List V) (Q : VK) (E : XK), Room k (A.deeper (envOfC qual scope s.heap.objs.size f cdv)) → A.guards = some [] → sp vs H Q E →
      ∃ t, PSs (cxOf CX0 P w K mg base N qual scope f cdv A outer s H E) body t ∧ t { nx := fun _ H' => Q .non H', rt := Q } (L2.start N vs) H) : FnG P w K mg base (k + 1) f fd ps sp := by
  obtain ⟨oc, od, dV, kV, doc, pm, an, cdv, ct, osl, rfl, lk, hcd, _, _⟩ := F.ex
  refine ⟨len, fun A outer s H args us vs Q E hr hg e0 hb r hsp => ?_⟩
  have KX : K.In s.heap := e0.mod.kin.keeps fun b o e => (e0.bs b o e).1
  have cells : ∀ y ∈ ps.zip us, scope.names.lookup y.1 = some .local ∨ (scope.names.lookup y.1 = some .cell ∧ ((cellsFrom (s.heap.objs.size + 1) scope.names []).lookup y.1).isSome = true) := by
    rintro ⟨n, v⟩ hy
    exact (S.par n (List.of_mem_zip hy).1).imp id fun q => ⟨q, PySem.W.cellsFrom_some _ _ _ (.inl q)⟩
  refine codeAny_call_function hr.depth (KX _ _ lk) rfl S.co S.gen rfl (PySem.W.codeRec_of KX hcd) (hb _ _ _ _ (wpAny_newFunctionEnv_cells S.kind cells fun env he s1 x => ?_))
  subst he
  obtain ⟨t, ht, hq⟩ := hbody cdv A outer s H vs Q E (hr.deeper _) hg hsp
  refine ⟨(e0.mod.nolimit.keeps fun b o e => (e0.bs b o e).1).keeps x.toInCall.keep, codeAny_func (wpAny_mono (ht.run [] s1 (L2.start N vs) H _ (inv_start S hr.hd e0 (len _ _ _ _ hsp) r x) hq) (fun fl s' hs => ?_) fun e s' hs => hs)⟩
  rcases fl with _ | _ | _ | u
  · obtain ⟨σ', H', J, q⟩ := hs
    exact ⟨.non, H', J.os, J.bare, J.base, J.hok, rfl, q⟩
  · obtain ⟨_, _, _, q⟩ := hs
    exact q.elim
  · obtain ⟨_, _, _, q⟩ := hs
    exact q.elim
  · obtain ⟨v, σ', H', J, rv, q⟩ := hs
    exact ⟨v, H', J.os, J.bare, J.base, J.hok, rv, q⟩
end
section
variable {X : Cx} {k n : Nat} {f : Addr} {fd : FuncData} {ps ks : List Str} {sp : Sp} {E : XK} {x : Str} {p pos : Pos} {e : Expr} {es : List Expr} {kws : List Keyword} {t tk : TA} {g : List Value → List Value → List Value} {gV : List V → List V → List V}
/-- f(e, ..) -/
theorem pe_callG (F : FnG X.prog X.w X.K X.mg X.base k f fd ps sp) (hr : Room k X.A) (hgd : X.A.guards = some []) (hg : Gl X x) (hm : X.mg x = some (.ref f)) (hk : PySem.W.keepIn X.K (.ref f) = true) (hb : Binds X.K fd ps [])
    (ha : PA X (e :: es) t) (hdb : (x == ("__debug__" : Str)) = false) (he : starEach (e :: es) X.env = (false, eval e X.env) :: starEach es X.env) (hpl : (backTo pos (starEach es X.env)).any (·.1) = false) :
    PE X (.Call (.Name x p) (e :: es) [] pos) (tCall sp [] E t) := by
  refine ⟨fun pins s σ H Q I h => wpAny_Call_Name_kw (ld_glob I hg hm (PySem.W.callWith_K (h₀ := X.base) I.ok.mod.kin hk (thn (ha.run pos pins s σ H _ I h) fun us s1 ⟨vs, H1, I1, r, q⟩ => ⟨I1.kIn, ?_⟩) he hpl) hdb)⟩
  have q' : sp vs H1 Q E := by rw [← List.append_nil vs]; exact q
  exact run_G F hr hgd I1 (by have := hb s1 us I1.kIn (by rw [List.append_nil, ← r.length]; exact F.len _ _ _ _ q'); rw [List.append_nil] at this; exact this) r q'
theorem pe_call0G (F : FnG X.prog X.w X.K X.mg X.base k f fd ps sp) (hr : Room k X.A) (hgd : X.A.guards = some []) (hg : Gl X x) (hm : X.mg x = some (.ref f)) (hk : PySem.W.keepIn X.K (.ref f) = true) (hb : Binds X.K fd ps [])
    (hdb : (x == ("__debug__" : Str)) = false) : PE X (.Call (.Name x p) [] [] pos) (tCall sp [] E tNil) := by
  refine ⟨fun pins s σ H Q I h => wpAny_Call_Name_kw (ld_glob I hg hm (PySem.W.callWith_K0 I.kIn hk ?_) hdb)⟩
  have q' : sp [] H Q E := h
  exact run_G F hr hgd I (by have := hb s [] I.kIn (by exact F.len _ _ _ _ q'); exact this) .nil q'
/-- f(e, .., k = v, ..) -/
theorem pe_callNG (F : FnG X.prog X.w X.K X.mg X.base k f fd ps sp) (hr : Room k X.A) (hgd : X.A.guards = some []) (hg : Gl X x) (hm : X.mg x = some (.ref f)) (hk : PySem.W.keepIn X.K (.ref f) = true) (hb : KBn X.K fd ps n ks g gV)
    (ha : PA X (e :: es) t) (hkw : PK X kws tk) (hall : (backToKw pos (keywordEach kws X.env)).all (·.1.isSome) = true) (hks : (backToKw pos (keywordEach kws X.env)).filterMap (·.1) = ks)
    (hdb : (x == ("__debug__" : Str)) = false) (he : starEach (e :: es) X.env = (false, eval e X.env) :: starEach es X.env)
    (hpl : ((backTo pos (starEach (e :: es) X.env)).any (·.1) || (backToKw pos (keywordEach kws X.env)).any (·.1.isNone)) = false) :
    PE X (.Call (.Name x p) (e :: es) kws pos) (tCallN n ks.length sp gV E t tk) := by
  refine ⟨fun pins s σ H Q I h => wpAny_Call_Name_kw (ld_glob I hg hm (PySem.W.callWith_KW (h₀ := X.base) I.ok.mod.kin hk hall (thn (ha.run pos pins s σ H _ I h) fun us s1 ⟨vs, H1, I1, r, q⟩ =>
    thn (hkw.run pos pins s1 σ H1 _ I1 q) fun ws s2 ⟨zs, H2, I2, rz, l1, l2, q2⟩ => ⟨I2.kIn, ?_⟩) hpl he) hdb)⟩
  rw [hks]
  exact run_G F hr hgd I2 (hb.to s2 us ws I2.kIn (r.length.symm.trans l1) (rz.length.symm.trans l2)) (hb.rel r rz) q2
theorem pe_callN0G (F : FnG X.prog X.w X.K X.mg X.base k f fd ps sp) (hr : Room k X.A) (hgd : X.A.guards = some []) (hg : Gl X x) (hm : X.mg x = some (.ref f)) (hk : PySem.W.keepIn X.K (.ref f) = true) (hb : KBn X.K fd ps n ks g gV) (hn : n = 0)
    (hkw : PK X kws tk) (hall : (backToKw pos (keywordEach kws X.env)).all (·.1.isSome) = true) (hks : (backToKw pos (keywordEach kws X.env)).filterMap (·.1) = ks)
    (hdb : (x == ("__debug__" : Str)) = false)
    (hpl : ((backTo pos (starEach [] X.env)).any (·.1) || (backToKw pos (keywordEach kws X.env)).any (·.1.isNone)) = false) :
    PE X (.Call (.Name x p) [] kws pos) (tCallN n ks.length sp gV E tNil tk) := by
  refine ⟨fun pins s σ H Q I h => wpAny_Call_Name_kw (ld_glob I hg hm (PySem.W.callWith_KW0 (h₀ := X.base) I.ok.mod.kin hk hall (thn (hkw.run pos pins s σ H _ I h) fun ws s2 ⟨zs, H2, I2, rz, l1, l2, q2⟩ => ⟨I2.kIn, ?_⟩) hpl) hdb)⟩
  rw [hks]
  exact run_G F hr hgd I2 (hb.to s2 [] ws I2.kIn l1 (rz.length.symm.trans l2)) (hb.rel .nil rz) q2
end
end DB
set_option maxHeartbeats 1000000
namespace DB
open PySem PySem.Spec L2

structure Know where
  fn : Nat → Fn → Prop
  gl : Str → D → Prop
  kw : Nat → Nat → List Str → List D → List Nat → Prop
mutual
def KnE (k : Know) : E → Prop
  | .k _ => True
  | .v _ => True
  | .glob x d => k.gl x d
  | .bin _ a b => KnE k a ∧ KnE k b
  | .neg a => KnE k a
  | .cmp _ a b => KnE k a ∧ KnE k b
  | .repEq _ a b => KnE k a ∧ KnE k b
  | .dctk _ _ => True
  | .chain _ _ a b c => KnE k a ∧ KnE k b ∧ KnE k c
  | .isN _ a => KnE k a
  | .and es => KnEs k es
  | .or es => KnEs k es
  | .not a => KnE k a
  | .ite t a b => KnT k t ∧ KnE k a ∧ KnE k b
  | .tup es => KnEs k es
  | .lst es => KnEs k es
  | .ix a i => KnE k a ∧ KnE k i
  | .sl a lo hi => KnE k a ∧ KnEs k lo ∧ KnEs k hi
  | .isI _ a => KnE k a
  | .call f id es => k.fn id f ∧ KnEs k es
  | .callK f id n ks dd perm es kes => k.fn id f ∧ k.kw id n ks dd perm ∧ KnEs k es ∧ KnEs k kes
  | .bi _ es => KnEs k es
  | .mth _ a es => KnE k a ∧ KnEs k es
  | .lrng _ es => KnEs k es
  | .comp tg it cond elt => KnTg k tg ∧ KnIt k it ∧ KnTs k cond ∧ KnE k elt
  | .compp tg it cond elt => KnTg k tg ∧ KnIt k it ∧ KnTs k cond ∧ KnE k elt
  | .comp2 tg it tg2 it2 cond elt => KnTg k tg ∧ KnIt k it ∧ KnTg k tg2 ∧ KnIt k it2 ∧ KnTs k cond ∧ KnE k elt
  | .setw _ a => KnE k a
  | .tups es => KnEs k es
  | .lsts es => KnEs k es
  | .sls _ a => KnE k a
  | .isIs _ a => KnE k a
  | .isB _ _ a => KnE k a
  | _ => False
def KnEs (k : Know) : Es → Prop
  | .nil => True
  | .cons e es => KnE k e ∧ KnEs k es
  | .star e es => KnE k e ∧ KnEs k es
def KnT (k : Know) : T → Prop
  | .val e => KnE k e
  | .and ts => KnTs k ts
  | .or ts => KnTs k ts
  | .not t => KnT k t
  | .cmp _ a b => KnE k a ∧ KnE k b
  | .chain _ _ a b c => KnE k a ∧ KnE k b ∧ KnE k c
  | .isN _ a => KnE k a
def KnTs (k : Know) : Ts → Prop
  | .nil => True
  | .cons t ts => KnT k t ∧ KnTs k ts
def KnIt (k : Know) : It → Prop
  | .seq e => KnE k e
  | .rng es => KnEs k es
  | .enum e => KnE k e
  | .zip a b => KnE k a ∧ KnE k b
  | .zip3 es => KnEs k es
def KnTg (k : Know) : Tg → Prop
  | .n _ => True
  | .t ts => KnTgs k ts
  | .ix a i => KnE k a ∧ KnE k i
def KnTgs (k : Know) : Tgs → Prop
  | .nil => True
  | .cons t ts => KnTg k t ∧ KnTgs k ts
end
/-- what a def of ours promises -/
def spF (K : PySem.W.Frag) (f : Fn) : Sp := fun vs H Q _ => ∃ as F st rs r st', StOk K F H as st ∧ RsOk K F H as vs rs ∧ runFn f rs st = .ok r st' ∧
  ∀ v F' H', StOk K F' H' as st' → Ext (ownsA vs rs) as F H st as F' H' st' → ROk K F' H' as v r → (∀ a ∈ ownA v r, H a = none ∨ a ∈ ownsA vs rs) → Q v H'
/-- the values of a call with keywords and defaults, in the parameters' order -/
def gP {α : Type} (perm : List Nat) (d : List α) (us ws : List α) : List α := permL perm (us ++ (ws ++ d))
def freeNames : List Str := ["len", "all", "any", "int", "abs", "min", "max", "tuple", "list", "range", "enumerate", "zip", "isinstance", "bool", "str", "dict", "divmod", "sorted", "sum", "set", "repr"]
structure XOk (c : AC) (kn : Know) (k : Nat) (X : Cx) : Prop where
  N : X.N = c.N
  nd : X.N.Nodup
  sc : X.env.scope = c.sc
  calm : X.calm = true
  fn : ∀ x, (match c.blk with | none => True | some s => s.names.lookup x = some .cell) → X.fn x = true
  room : Room k X.A
  gd : X.A.guards = some []
  free : ∀ x ∈ freeNames, X.mg x = none
  gl : ∀ x d, kn.gl x d → ∃ u v, X.mg x = some u ∧ RelV v u ∧ ∀ F, DOk X.K F v d
  call : ∀ id f x, kn.fn id f → c.fns[id]? = some x → ∃ fa fd ps, X.mg x = some (.ref fa) ∧ PySem.W.keepIn X.K (.ref fa) = true ∧ Binds X.K fd ps [] ∧ FnG X.prog X.w X.K X.mg X.base k fa fd ps (spF X.K f)
  callK : ∀ id f x n ks dd perm, kn.fn id f → kn.kw id n ks dd perm → c.fns[id]? = some x → ∃ fa fd ps dv du, X.mg x = some (.ref fa) ∧ PySem.W.keepIn X.K (.ref fa) = true ∧ KBn X.K fd ps n ks (gP perm du) (gP perm dv) ∧ (∀ F, DsOk X.K F dv dd) ∧
    FnG X.prog X.w X.K X.mg X.base k fa fd ps (spF X.K f)
section
variable {c : AC} {kn : Know} {k : Nat} {X : Cx}
theorem XOk.units (x : XOk c kn k X) : X.A.units + 65 < cLine := by have := x.room.un; omega
theorem XOk.glb (x : XOk c kn k X) {y : Str} (h : glB c.sc y = true) : Gl X y ∧ (y == ("__debug__" : Str)) = false := by
  unfold glB at h
  simp only [Bool.and_eq_true, decide_eq_true_eq, Bool.not_eq_true'] at h
  refine ⟨?_, h.2⟩
  show X.env.scope.names.lookup y = _
  rw [x.sc]
  exact h.1
theorem XOk.vis (x : XOk c kn k X) {y : Str} (h : visB c.sc y = true) : Vis X.env.scope y := by
  unfold visB at h
  unfold Vis
  rw [x.sc]
  split at h
  · exact .inl (by assumption)
  · exact .inr (.inl (by assumption))
  · exact .inr (.inr (by assumption))
  · cases h
theorem XOk.loc (x : XOk c kn k X) {y : Str} (h : locB c.sc c.blk y = true) : L2.Loc X.env.scope y ∧ (X.fn y = true ∨ X.env.scope.names.lookup y = some .local) := by
  unfold locB at h
  unfold L2.Loc
  rw [x.sc]
  split at h
  · rename_i q
    exact ⟨.inl q, .inr q⟩
  · rename_i q
    refine ⟨.inr q, .inl (x.fn y ?_)⟩
    split at h
    · rename_i e
      first | trivial | (rw [e]; trivial)
    · rename_i s e
      first | exact beq_iff_eq.mp h | (rw [e]; exact beq_iff_eq.mp h)
  · cases h
/-- a comprehension's block -/
theorem XOk.blk (x : XOk c kn k X) {scope : Scope} (s : Shared) (H : Hp) (C : Addr) (cl : List (Str × Addr)) (fp : List Addr) : XOk (c.sub scope) kn k (X.blk s H scope (compEnvC scope cl C X.env) fp) where
  N := x.N
  nd := x.nd
  sc := by
    show relS scope X.env.scope = relS scope c.sc
    rw [x.sc]
  calm := x.calm
  fn := fun y hy => by
    have hy : scope.names.lookup y = some .cell := hy
    show (scope.names.lookup y == some .cell) = true
    rw [hy]
    rfl
  room := x.room
  gd := x.gd
  free := x.free
  gl := x.gl
  call := x.call
  callK := x.callK
end
theorem PE.imp {X : Cx} {e : Expr} {t t' : TE} (h : PE X e t) (i : ∀ σ H Q, t' σ H Q → t σ H Q) : PE X e t' := ⟨fun pins s σ H Q I hw => h.run pins s σ H Q I (i _ _ _ hw)⟩
theorem PT.imp {X : Cx} {e : Expr} {t t' : TT} (h : PT X e t) (i : ∀ σ H Q, t' σ H Q → t σ H Q) : PT X e t' := ⟨fun pins s σ H Q I hw => h.run pins s σ H Q I (i _ _ _ hw)⟩
theorem PW.imp {X : Cx} {e : Expr} {t t' : TT} (h : PW X e t) (i : ∀ σ H Q, t' σ H Q → t σ H Q) : PW X e t' := ⟨fun wh pins s σ H Q I hw => h.run wh pins s σ H Q I (i _ _ _ hw)⟩
theorem PA.imp {X : Cx} {e : List Expr} {t t' : TA} (h : PA X e t) (i : ∀ σ H Q, t' σ H Q → t σ H Q) : PA X e t' := ⟨fun pos pins s σ H Q I hw => h.run pos pins s σ H Q I (i _ _ _ hw)⟩
theorem PTs.imp {X : Cx} {e : List Expr} {t t' : TT} (h : PTs X e t) (i : ∀ σ H Q, t' σ H Q → t σ H Q) : PTs X e t' := ⟨fun pins s σ H Q I hw => h.run pins s σ H Q I (i _ _ _ hw)⟩
theorem PO.imp {X : Cx} {e : Option Expr} {t t' : TO} (h : PO X e t) (i : ∀ σ H Q, t' σ H Q → t σ H Q) : PO X e t' := ⟨fun pins s σ H Q I hw => h.run pins s σ H Q I (i _ _ _ hw)⟩
theorem PI.imp {X : Cx} {tg e : Expr} {t t' : TI} (h : PI X tg e t) (i : ∀ σ H R, t' σ H R → t σ H R) : PI X tg e t' := ⟨fun pins s σ H R I hw => h.run pins s σ H R I (i _ _ _ hw)⟩
theorem PG.imp {X : Cx} {e : Expr} {t t' : TG} (h : PG X e t) (i : ∀ v σ H Q, t' v σ H Q → t v σ H Q) : PG X e t' := ⟨fun pins s σ H v u Q I r hw => h.run pins s σ H v u Q I r (i _ _ _ _ hw)⟩
theorem PGs.imp {X : Cx} {e : List Expr} {t t' : TGs} (h : PGs X e t) (i : ∀ v σ H Q, t' v σ H Q → t v σ H Q) : PGs X e t' := ⟨fun pins s σ H v u Q I r hw => h.run pins s σ H v u Q I r (i _ _ _ _ hw)⟩
theorem PS.imp {X : Cx} {e : Stmt} {t t' : TS} (h : PS X e t) (i : ∀ D σ H, t' D σ H → t D σ H) : PS X e t' := ⟨fun pins s σ H D I hw => h.run pins s σ H D I (i _ _ _ hw)⟩
theorem PSs.imp {X : Cx} {e : List Stmt} {t t' : TS} (h : PSs X e t) (i : ∀ D σ H, t' D σ H → t D σ H) : PSs X e t' := ⟨fun pins s σ H D I hw => h.run pins s σ H D I (i _ _ _ hw)⟩

/-! ### of the syntax -/
theorem star_cons {e : Expr} {es : List Expr} {env : PySem.Env} (h : notStar e = true) : starEach (e :: es) env = (false, eval e env) :: starEach es env := by
  cases e <;> first | rfl | exact absurd h Bool.false_ne_true
theorem plain_ix {b : Expr} (h : notSlice b = true) : PlainIx b := by
  intro o i
  cases b <;> first | rfl | exact absurd h Bool.false_ne_true
theorem marks_of {op : CmpOp} {b : Expr} (h : notSet b = true) : behindInMarks op b = false := by
  cases b <;> first | rfl | exact absurd h Bool.false_ne_true
theorem fold_of {it : Expr} {env : PySem.Env} (h : notSet it = true) (x : Value) : foldedSetIterable it env x = pure x := by
  cases it <;> first | rfl | exact absurd h Bool.false_ne_true
theorem plain_of {e : Expr} {env : PySem.Env} (h : plainX e = true) (whole : Sem Value) : isTrue e env whole = (do let v ← whole; standAt e.pos; holding [v] (truthy v)) := by
  cases e with
  | UnaryOp op a p => cases op <;> first | rfl | exact absurd h Bool.false_ne_true
  | _ => first | rfl | exact absurd h Bool.false_ne_true
theorem agEs_star {c : AC} : ∀ {es : Es} {es' : List Expr}, agEs c es es' = true → ∀ e ∈ es', notStar e = true
  | .nil, [], _ => fun _ h => nomatch h
  | .nil, _ :: _, h => absurd h Bool.false_ne_true
  | .cons _ _, [], h => absurd h Bool.false_ne_true
  | .cons e es, e' :: es', h => fun x hx => by
    have h : (notStar e' && (agE c e e' && agEs c es es')) = true := h
    simp only [Bool.and_eq_true] at h
    rcases List.mem_cons.mp hx with rfl | hx
    · exact h.1
    · exact agEs_star h.2.2 x hx
theorem backTo_plain {pos : Pos} {env : PySem.Env} : ∀ {es : List Expr}, (∀ e ∈ es, notStar e = true) → (backTo pos (starEach es env)).any (·.1) = false
  | [], _ => rfl
  | e :: es, h => by
    rw [star_cons (h e (List.mem_cons_self ..))]
    have ih := backTo_plain (pos := pos) (env := env) (es := es) fun x hx => h x (List.mem_cons_of_mem _ hx)
    show (false || (backTo pos (starEach es env)).any (·.1)) = false
    rw [ih]
    rfl
theorem b2 {a b : Bool} (h : (a && b) = true) : a = true ∧ b = true := Bool.and_eq_true_iff.mp h
theorem own_map {N : List Str} {is : List Nat} : (ownOf N is).map (·.2) = is := by
  unfold ownOf
  rw [List.map_map]
  exact List.map_id' is
theorem wipe_eq (σ : L2.St) : ∀ is : List Nat, L2.wipe (L2.wipe σ is) is = L2.wipe σ is := by
  intro is
  apply List.ext_getElem?
  intro i
  have key : ∀ (τ : L2.St) (js : List Nat) (i : Nat), (L2.wipe τ js)[i]? = if i ∈ js then (τ[i]?.map fun _ => none) else τ[i]? := by
    intro τ js
    induction js with
    | nil => intro i; simp [L2.wipe]
    | cons j js ih =>
      intro i
      unfold L2.wipe
      by_cases e : j = i
      · subst e
        rw [if_pos (List.mem_cons_self ..)]
        by_cases hj : j < τ.length
        · rw [List.getElem?_set_self (by rw [L2.wipe_length]; exact hj), List.getElem?_eq_getElem hj]
          rfl
        · rw [List.getElem?_eq_none (by rw [List.length_set, L2.wipe_length]; omega), List.getElem?_eq_none (by omega)]
          rfl
      · rw [List.getElem?_set_ne e, ih]
        by_cases hm : i ∈ js
        · rw [if_pos hm, if_pos (List.mem_cons_of_mem _ hm)]
        · rw [if_neg hm, if_neg (by simp [hm]; exact fun z => e z.symm)]
  rw [key, key]
  split
  · cases σ[i]? <;> rfl
  · rfl
theorem wipe_get {α : Type} (τ : List (Option α)) (w : List (Option α) → List Nat → List (Option α)) (h0 : ∀ τ, w τ [] = τ) (h1 : ∀ τ v vs, w τ (v :: vs) = (w τ vs).set v none) (js : List Nat) :
    ∀ i : Nat, (w τ js)[i]? = if i ∈ js then (τ[i]?.map fun _ => none) else τ[i]? := by
  have hl : ∀ js, (w τ js).length = τ.length := by
    intro js
    induction js with
    | nil => rw [h0]
    | cons j js ih => rw [h1, List.length_set, ih]
  induction js with
  | nil => intro i; rw [h0]; simp
  | cons j js ih =>
    intro i
    rw [h1]
    by_cases e : j = i
    · subst e
      rw [if_pos (List.mem_cons_self ..)]
      by_cases hj : j < τ.length
      · rw [List.getElem?_set_self (by rw [hl]; exact hj), List.getElem?_eq_getElem hj]
        rfl
      · rw [List.getElem?_eq_none (by rw [List.length_set, hl]; omega), List.getElem?_eq_none (by omega)]
        rfl
    · rw [List.getElem?_set_ne e, ih]
      by_cases hm : i ∈ js
      · rw [if_pos hm, if_pos (List.mem_cons_of_mem _ hm)]
      · rw [if_neg hm, if_neg (by simp [hm]; exact fun z => e z.symm)]
theorem EnvOk.wipe {K : PySem.W.Frag} {F : Hp} {as : List Addr} {σ : L2.St} {env : Env} (h : EnvOk K F as σ env) (is : List Nat) : EnvOk K F as (L2.wipe σ is) (DB.wipe env is) := by
  have g1 := wipe_get σ L2.wipe (fun _ => rfl) (fun _ _ _ => rfl) is
  have g2 := wipe_get env DB.wipe (fun _ => rfl) (fun _ _ _ => rfl) is
  refine ⟨?_, fun i r hi => ?_⟩
  · have hl : ∀ js, (DB.wipe env js).length = env.length := by
      intro js
      induction js with
      | nil => rfl
      | cons j js ih => unfold DB.wipe; rw [List.length_set, ih]
    rw [hl, L2.wipe_length, h.len]
  · rw [g2] at hi
    rw [g1]
    split at hi
    · cases q : env[i]? with
      | none => rw [q] at hi; cases hi
      | some o => rw [q] at hi; cases hi
    · rename_i hm
      rw [if_neg hm]
      exact h.get i r hi
theorem EnvOk.set {K : PySem.W.Frag} {F : Hp} {as : List Addr} {σ : L2.St} {env : Env} (h : EnvOk K F as σ env) (i : Nat) {v : V} {r : R} (hr : (∃ d, r = .dat d ∧ DOk K F v d) ∨ ∃ c a, r = .cell c ∧ v = .ref a ∧ as[c]? = some a) :
    EnvOk K F as (σ.set i (some v)) (env.set i (some r)) := by
  refine ⟨by rw [List.length_set, List.length_set, h.len], fun j q hj => ?_⟩
  by_cases e : i = j
  · subst e
    by_cases hi : i < env.length
    · rw [List.getElem?_set_self hi] at hj
      cases hj
      exact ⟨v, List.getElem?_set_self (by rw [← h.len]; exact hi), hr⟩
    · rw [List.getElem?_eq_none (by rw [List.length_set]; omega)] at hj
      cases hj
  · rw [List.getElem?_set_ne e] at hj
    rw [List.getElem?_set_ne e]
    exact h.get j q hj
end DB
set_option maxHeartbeats 4000000
namespace DB
open PySem PySem.Spec L2

section
variable {c : AC} {kn : Know} {k : Nat} {X : Cx}
/-! ### one lemma a form -/
theorem cmp_st {op : Cop} {p q : D} {st st' : Sto} {b : Bool} (e : cmpop op p q st = .ok b st') : st' = st := by
  have key : ∀ (o : Option Bool), M.opt o st = .ok b st' → st' = st := fun o h => (opt_inv h).2
  have key2 : ∀ (o : Option Bool), (M.opt o >>= fun r => (pure (!r) : M Bool)) st = .ok b st' → st' = st := fun o h => by
    obtain ⟨a, s1, h1, h2⟩ := bind_inv h
    obtain ⟨_, rfl⟩ := opt_inv h1
    exact (pure_inv h2).2
  have key3 : ∀ (g : Bool) (f : Bool), (M.guard g >>= fun _ => (pure f : M Bool)) st = .ok b st' → st' = st := fun g f h => by
    obtain ⟨a, s1, h1, h2⟩ := bind_inv h
    obtain ⟨_, rfl⟩ := guard_inv h1
    exact (pure_inv h2).2
  cases op with
  | eq => exact key _ e
  | ne => exact key2 _ e
  | mem =>
    cases q with
    | dct ks vs => exact key3 (keyOk p) ((dget ks vs p).isSome) (by cases p <;> exact e)
    | lst ys => exact key (din p ys) (by cases p <;> exact e)
    | tup ys => exact key (din p ys) (by cases p <;> exact e)
    | _ => cases p <;> exact (no_inv e).elim
  | nmem =>
    cases q with
    | dct ks vs => exact key3 (keyOk p) (!(dget ks vs p).isSome) (by cases p <;> exact e)
    | lst ys => exact key2 (din p ys) (by cases p <;> exact e)
    | tup ys => exact key2 (din p ys) (by cases p <;> exact e)
    | _ => cases p <;> exact (no_inv e).elim
  | _ => cases p <;> first | exact (no_inv e).elim | (cases q <;> first | exact (no_inv e).elim | (cases e; rfl))
theorem s_k {d : D} {e' : Expr} (x : XOk c kn k X) (h : agE c (.k d) e' = true) : PE X e' (tE X.K (.k d)) := by
  cases e' with
  | Constant v j p =>
    have h : constB d v = true := h
    have fin : ∀ w, DOk X.K (fun _ => none) w d → (∀ F, DOk X.K F w d) → PE X (.Constant v j p) (tC w) → PE X (.Constant v j p) (tE X.K (.k d)) := fun w _ hw hp => PE.imp hp fun σ H Q hh => by
      obtain ⟨as, F, st, env, r, st', s, en, e, a⟩ := hh
      obtain ⟨rfl, rfl⟩ := pure_inv (show (pure (R.dat d) : M R) st = .ok r st' from e)
      exact a w F H s .refl (.dat (hw F)) trivial
    cases d with
    | non => cases v <;> first | exact absurd h Bool.false_ne_true | exact fin .non .non (fun _ => .non) pe_non
    | bl b => cases v <;> first | exact absurd h Bool.false_ne_true | (cases (show b = _ from beq_iff_eq.mp h); exact fin (.bl b) (.bl b) (fun _ => .bl b) pe_bl)
    | int i => cases v <;> first | exact absurd h Bool.false_ne_true | (cases (show i = _ from of_decide_eq_true h); exact fin (.int i) (.int i) (fun _ => .int i) pe_int)
    | str z => cases v <;> first | exact absurd h Bool.false_ne_true | (cases (show z = _ from of_decide_eq_true h); exact fin (.str z) (.str z) (fun _ => .str z) pe_str)
    | _ => cases v <;> exact absurd h Bool.false_ne_true
  | _ => exact absurd h Bool.false_ne_true
theorem s_v {i : Nat} {e' : Expr} (x : XOk c kn k X) (h : agE c (.v i) e' = true) : PE X e' (tE X.K (.v i)) := by
  cases e' with
  | Name y p =>
    have h : (decide (c.N[i]? = some y) && (visB c.sc y && (!(y == ("__debug__" : Str)) && !(y == ("__classdict__" : Str))))) = true := h
    obtain ⟨h1, h⟩ := b2 h
    obtain ⟨h2, h⟩ := b2 h
    obtain ⟨h3, h4⟩ := b2 h
    refine PE.imp (pe_var (i := i) (x := y) (by rw [x.N]; exact of_decide_eq_true h1) (x.vis h2) (by simpa using h3) (by simpa using h4)) fun σ H Q hh => ?_
    obtain ⟨as, F, st, env, r, st', s, en, e, a⟩ := hh
    obtain ⟨e1, rfl⟩ := opt_inv (show M.opt env[i]?.join st = .ok r st' from e)
    have e2 : env[i]? = some (some r) := by
      cases q : env[i]? with
      | none => rw [q] at e1; cases e1
      | some o => rw [q] at e1; cases o with
        | none => cases e1
        | some r' => cases e1; rfl
    obtain ⟨v, hv, hr⟩ := en.get i r e2
    refine ⟨v, hv, a v F H s .refl ?_ ?_⟩
    · rcases hr with ⟨d, rfl, hd⟩ | ⟨c', a', rfl, rfl, ha⟩
      · exact .dat hd
      · exact .cell ha
    · rcases hr with ⟨d, rfl, hd⟩ | ⟨c', a', rfl, rfl, ha⟩ <;> trivial
  | _ => exact absurd h Bool.false_ne_true
theorem s_glob {y : Str} {d : D} {e' : Expr} (x : XOk c kn k X) (hk : kn.gl y d) (h : agE c (.glob y d) e' = true) : PE X e' (tE X.K (.glob y d)) := by
  cases e' with
  | Name z p =>
    obtain ⟨h1, h2⟩ := b2 (show (decide (y = z) && glB c.sc z) = true from h)
    cases of_decide_eq_true h1
    obtain ⟨g1, d1⟩ := x.glb h2
    obtain ⟨u, v, hm, hr, hd⟩ := x.gl y d hk
    refine PE.imp (pe_glob g1 hm hr d1) fun σ H Q hh => ?_
    obtain ⟨as, F, st, env, r, st', s, en, e, a⟩ := hh
    obtain ⟨rfl, rfl⟩ := pure_inv (show (pure (R.dat d) : M R) st = .ok r st' from e)
    exact a v F H s .refl (.dat (hd F)) trivial
  | _ => exact absurd h Bool.false_ne_true
/-- two operands, then what both are -/
theorem two_ops {a b : E} {σ : L2.St} {H : Hp} {Q : VK} {as : List Addr} {F : Hp} {st st' : Sto} {env : Env} {α : Type} {f : D → D → M α} {r : α} {G : V → V → Hp → Prop}
    (s : StOk X.K F H as st) (en : EnvOk X.K F as σ env) (e : (evE a env >>= fun x => evE b env >>= fun y => peek x >>= fun p => peek y >>= fun q => f p q) st = .ok r st')
    (fin : ∀ x y F2 H2 st2 p q, StOk X.K F2 H2 as st2 → Ext [] as F H st as F2 H2 st2 → VOk X.K F2 H2 x p → VOk X.K F2 H2 y q → f p q st2 = .ok r st' → G x y H2) :
    tE X.K a σ H fun x H1 => tE X.K b σ H1 fun y H2 => G x y H2 := by
  obtain ⟨ra, s1, e1, z1⟩ := bind_inv e
  obtain ⟨rb, s2, e2, z2⟩ := bind_inv z1
  obtain ⟨p, s3, e3, z3⟩ := bind_inv z2
  obtain ⟨q, s4, e4, z4⟩ := bind_inv z3
  refine ⟨as, F, st, env, ra, s1, s, en, e1, fun v F1 H1 k1 x1 r1 f1 => ?_⟩
  refine ⟨as, F1, s1, env, rb, s2, k1, en.ext x1, e2, fun w F2 H2 k2 x2 r2 f2 => ?_⟩
  obtain ⟨rfl, v1⟩ := peek_ok k2 (r1.ext k1.len x2 fun _ _ z => nomatch z) e3
  obtain ⟨rfl, v2⟩ := peek_ok k2 r2 e4
  exact fin v w F2 H2 s4 p q k2 (x1.trans s.len k1.len x2) v1 v2 z4
theorem s_bin {op : Bop} {a b : E} {e' : Expr} (x : XOk c kn k X) (h : agE c (.bin op a b) e' = true)
    (ha : ∀ a', agE c a a' = true → PE X a' (tE X.K a)) (hb : ∀ b', agE c b b' = true → PE X b' (tE X.K b)) : PE X e' (tE X.K (.bin op a b)) := by
  cases e' with
  | BinOp a' op' b' p =>
    obtain ⟨h1, h⟩ := b2 (show (bopB op op' && (agE c a a' && agE c b b')) = true from h)
    obtain ⟨h2, h3⟩ := b2 h
    refine PE.imp (pe_op (op_bin h1) (ha a' h2) (hb b' h3)) fun σ H Q hh => ?_
    obtain ⟨as, F, st, env, r, st', s, en, e, af⟩ := hh
    refine two_ops (Q := Q) (f := binop op) s en e fun v w F2 H2 st2 p q k2 x2 v1 v2 e5 => ?_
    exact ⟨as, F2, st2, p, q, r, st', k2, v1, v2, e5, fun u F3 H3 k3 x3 r3 f3 => af u F3 H3 k3 (x2.trans s.len k2.len x3) r3 (Fresh.back x2 f3)⟩
  | _ => exact absurd h Bool.false_ne_true
theorem s_cmp {op : Cop} {a b : E} {e' : Expr} (x : XOk c kn k X) (h : agE c (.cmp op a b) e' = true)
    (ha : ∀ a', agE c a a' = true → PE X a' (tE X.K a)) (hb : ∀ b', agE c b b' = true → PE X b' (tE X.K b)) : PE X e' (tE X.K (.cmp op a b)) := by
  cases e' with
  | Compare a' ops bs p =>
    match ops, bs, h with
    | [op'], [b'], h =>
      obtain ⟨h1, h⟩ := b2 (show (copB op op' && (notSet b' && (agE c a a' && agE c b b'))) = true from h)
      obtain ⟨h0, h⟩ := b2 h
      obtain ⟨h2, h3⟩ := b2 h
      refine PE.imp (pe_cmpR (op_cmp h1 x.units) (ha a' h2) (hb b' h3) (marks_of h0)) fun σ H Q hh => ?_
      obtain ⟨as, F, st, env, r, st', s, en, e, af⟩ := hh
      refine two_ops (Q := Q) (f := fun p q => cmpop op p q >>= fun b => pure (R.dat (.bl b))) s en e fun v w F2 H2 st2 p q k2 x2 v1 v2 e5 => ?_
      obtain ⟨b, s3, e6, e7⟩ := bind_inv e5
      obtain ⟨rfl, rfl⟩ := pure_inv e7
      have e8 := cmp_st e6
      subst e8
      exact ⟨as, F2, _, p, q, b, _, k2, v1, v2, e6, af (.bl b) F2 H2 k2 x2 (.dat (.bl b)) trivial⟩
    | [], _, h => exact absurd h Bool.false_ne_true
    | [_], [], h => exact absurd h Bool.false_ne_true
    | [_], _ :: _ :: _, h => exact absurd h Bool.false_ne_true
    | _ :: _ :: _, _, h => exact absurd h Bool.false_ne_true
  | _ => exact absurd h Bool.false_ne_true
end
end DB
set_option maxHeartbeats 4000000
namespace DB
open PySem PySem.Spec L2
def lenEs : Es → Nat
  | .nil => 0
  | .cons _ es => lenEs es + 1
  | .star _ es => lenEs es + 1
section
variable {c : AC} {kn : Know} {k : Nat} {X : Cx}
theorem s_neg {a : E} {e' : Expr} (x : XOk c kn k X) (h : agE c (.neg a) e' = true) (ha : ∀ a', agE c a a' = true → PE X a' (tE X.K a)) : PE X e' (tE X.K (.neg a)) := by
  cases e' with
  | UnaryOp op a' p =>
    cases op with
    | USub =>
      refine PE.imp (pe_un un_neg (ha a' h)) fun σ H Q hh => ?_
      obtain ⟨as, F, st, env, r, st', s, en, e, af⟩ := hh
      obtain ⟨ra, s1, e1, z1⟩ := bind_inv (show (evE a env >>= fun r => match r with | .dat (.int i) => pure (.dat (.int (-i))) | _ => M.no) st = .ok r st' from e)
      refine ⟨as, F, st, env, ra, s1, s, en, e1, fun v F1 H1 k1 x1 r1 f1 => ?_⟩
      cases ra with
      | dat d =>
        cases d with
        | int i =>
          obtain ⟨rfl, rfl⟩ := pure_inv (show (pure (R.dat (.int (-i))) : M R) s1 = .ok r st' from z1)
          cases r1 with
          | dat r1 =>
            cases r1
            exact ⟨i, rfl, af (.int (-i)) F1 H1 k1 x1 (.dat (.int _)) trivial⟩
        | _ => exact (no_inv z1).elim
      | _ => exact (no_inv z1).elim
    | _ => exact absurd h Bool.false_ne_true
  | _ => exact absurd h Bool.false_ne_true
/-- a chain of two comparisons, read -/
theorem chain_run {op op' : Cop} {a b d : E} {σ : L2.St} {H : Hp} {Q : VK} {as : List Addr} {F : Hp} {st st' : Sto} {env : Env} {α : Type} {g : Bool → M α} {r : α}
    (s : StOk X.K F H as st) (en : EnvOk X.K F as σ env)
    (e : (evE a env >>= fun x => evE b env >>= fun y => peek x >>= fun p => peek y >>= fun q => cmpop op p q >>= fun r => if r then (evE d env >>= fun z => peek y >>= fun q' => peek z >>= fun t => cmpop op' q' t >>= g) else g false) st = .ok r st')
    (fin : ∀ F2 H2 st2 b, StOk X.K F2 H2 as st2 → Ext [] as F H st as F2 H2 st2 → g b st2 = .ok r st' → Q (.bl b) H2) :
    tChain (rCmp X.K op) (rCmp X.K op') (tE X.K a) (tE X.K b) (tE X.K d) σ H Q := by
  obtain ⟨ra, s1, e1, z1⟩ := bind_inv e
  obtain ⟨rb, s2, e2, z2⟩ := bind_inv z1
  obtain ⟨p, s3, e3, z3⟩ := bind_inv z2
  obtain ⟨q, s4, e4, z4⟩ := bind_inv z3
  obtain ⟨b1, s5, e5, z5⟩ := bind_inv z4
  refine ⟨as, F, st, env, ra, s1, s, en, e1, fun v F1 H1 k1 x1 r1 f1 => ?_⟩
  refine ⟨as, F1, s1, env, rb, s2, k1, en.ext x1, e2, fun w F2 H2 k2 x2 r2 f2 => ?_⟩
  obtain ⟨rfl, v1⟩ := peek_ok k2 (r1.ext k1.len x2 fun _ _ z => nomatch z) e3
  obtain ⟨rfl, v2⟩ := peek_ok k2 r2 e4
  have e6 := cmp_st e5
  subst e6
  have x12 : Ext [] as F H st as F2 H2 s5 := x1.trans s.len k1.len x2
  refine ⟨as, F2, s5, p, q, b1, s5, k2, v1, v2, e5, b1, rfl, ?_⟩
  cases b1 with
  | false =>
    rw [if_neg Bool.false_ne_true]
    exact fin F2 H2 s5 false k2 x12 (by simpa using z5)
  | true =>
    rw [if_pos rfl]
    obtain ⟨rd, t1, g1, y1⟩ := bind_inv (show (evE d env >>= fun z => peek rb >>= fun q' => peek z >>= fun t => cmpop op' q' t >>= g) s5 = .ok r st' from z5)
    obtain ⟨q', t2, g2, y2⟩ := bind_inv y1
    obtain ⟨t, t3, g3, y3⟩ := bind_inv y2
    obtain ⟨b2, t4, g4, y4⟩ := bind_inv y3
    refine ⟨as, F2, s5, env, rd, t1, k2, (en.ext x1).ext x2, g1, fun u F3 H3 k3 x3 r3 f3 => ?_⟩
    obtain ⟨rfl, v3⟩ := peek_ok k3 (r2.ext k2.len x3 fun _ _ z => nomatch z) g2
    obtain ⟨rfl, v4⟩ := peek_ok k3 r3 g3
    have e7 := cmp_st g4
    subst e7
    exact ⟨as, F3, t4, q', t, b2, t4, k3, v3, v4, g4, fin F3 H3 t4 b2 k3 (x12.trans s.len k2.len x3) y4⟩
theorem marks2 {o1 o2 : CmpOp} {b d : Expr} (h : notSet d = true) : lastMarks [o1, o2] [b, d] = false := by
  show behindInMarks o2 d = false
  exact marks_of h
theorem s_chain {op op2 : Cop} {a b d : E} {e' : Expr} (x : XOk c kn k X) (h : agE c (.chain op op2 a b d) e' = true)
    (ha : ∀ a', agE c a a' = true → PE X a' (tE X.K a)) (hb : ∀ b', agE c b b' = true → PE X b' (tE X.K b)) (hd : ∀ b', agE c d b' = true → PE X b' (tE X.K d)) : PE X e' (tE X.K (.chain op op2 a b d)) := by
  cases e' with
  | Compare a' ops bs p =>
    match ops, bs, h with
    | [p1, p2], [b', d'], h =>
      obtain ⟨h1, h⟩ := b2 (show (copB op p1 && (copB op2 p2 && (notSet d' && (agE c a a' && (agE c b b' && agE c d d'))))) = true from h)
      obtain ⟨h2, h⟩ := b2 h
      obtain ⟨h3, h⟩ := b2 h
      obtain ⟨h4, h⟩ := b2 h
      obtain ⟨h5, h6⟩ := b2 h
      refine PE.imp (pe_chain (op_cmp h1 x.units) (op_cmp h2 x.units) (ha a' h4) (hb b' h5) (hd d' h6) (marks2 h3)) fun σ H Q hh => ?_
      obtain ⟨as, F, st, env, r, st', s, en, e, af⟩ := hh
      refine chain_run (g := fun b => pure (R.dat (.bl b))) s en e fun F2 H2 st2 b k2 x2 z => ?_
      obtain ⟨rfl, rfl⟩ := pure_inv z
      exact af (.bl b) F2 H2 k2 x2 (.dat (.bl b)) trivial
    | [], _, h => exact absurd h Bool.false_ne_true
    | [_], _, h => exact absurd h Bool.false_ne_true
    | [_, _], [], h => exact absurd h Bool.false_ne_true
    | [_, _], [_], h => exact absurd h Bool.false_ne_true
    | [_, _], _ :: _ :: _ :: _, h => exact absurd h Bool.false_ne_true
    | _ :: _ :: _ :: _, _, h => exact absurd h Bool.false_ne_true
  | _ => exact absurd h Bool.false_ne_true
/-- is None, is not None, read -/
theorem isN_run {no : Bool} {a : E} {σ : L2.St} {H : Hp} {as : List Addr} {F : Hp} {st st' : Sto} {env : Env} {α : Type} {g : Bool → M α} {r : α} {G : V → Hp → Prop}
    (s : StOk X.K F H as st) (en : EnvOk X.K F as σ env) (e : (evE a env >>= fun x => match x with | .dat .non => g (!no) | _ => g no) st = .ok r st')
    (fin : ∀ v F2 H2 st2 b, StOk X.K F2 H2 as st2 → Ext [] as F H st as F2 H2 st2 → b = (decide (v = V.non) != no) → g b st2 = .ok r st' → G v H2) : tE X.K a σ H G := by
  obtain ⟨ra, s1, e1, z1⟩ := bind_inv e
  refine ⟨as, F, st, env, ra, s1, s, en, e1, fun v F1 H1 k1 x1 r1 f1 => ?_⟩
  cases r1 with
  | dat r1 =>
    cases r1 with
    | non => exact fin _ F1 H1 s1 (!no) k1 x1 (by cases no <;> rfl) z1
    | bl b => exact fin _ F1 H1 s1 no k1 x1 (by cases no <;> simp) z1
    | int b => exact fin _ F1 H1 s1 no k1 x1 (by cases no <;> simp) z1
    | str b => exact fin _ F1 H1 s1 no k1 x1 (by cases no <;> simp) z1
    | tup h1 h2 h3 => exact fin _ F1 H1 s1 no k1 x1 (by cases no <;> simp) z1
    | lst h1 h2 h3 => exact fin _ F1 H1 s1 no k1 x1 (by cases no <;> simp) z1
    | scr h1 h2 h3 => exact fin _ F1 H1 s1 no k1 x1 (by cases no <;> simp) z1
    | dct h1 h2 h3 h4 h5 => exact fin _ F1 H1 s1 no k1 x1 (by cases no <;> simp) z1
  | own h1 h2 h3 => exact fin _ F1 H1 s1 no k1 x1 (by cases no <;> simp) z1
  | cell h1 => exact fin _ F1 H1 s1 no k1 x1 (by cases no <;> simp) z1
theorem none_x {e : Expr} (h : isNoneX e = true) : ∃ j p, e = .Constant .none j p := by
  cases e with
  | Constant v j p => cases v <;> first | exact ⟨j, p, rfl⟩ | exact absurd h Bool.false_ne_true
  | _ => exact absurd h Bool.false_ne_true
theorem isN_ag {no : Bool} {a : E} {e' : Expr} (h : agE c (.isN no a) e' = true) : ∃ a' j p p', agE c a a' = true ∧ ((no = false ∧ e' = .Compare a' [.Is] [.Constant .none j p] p') ∨ (no = true ∧ e' = .Compare a' [.IsNot] [.Constant .none j p] p')) := by
  cases e' with
  | Compare a' ops bs p =>
    match ops, bs, h with
    | [op], [b'], h =>
      obtain ⟨h1, h⟩ := b2 (show (isNoneX b' && (isOpB no op && agE c a a')) = true from h)
      obtain ⟨h2, h3⟩ := b2 h
      obtain ⟨j, p', rfl⟩ := none_x h1
      refine ⟨a', j, p', p, h3, ?_⟩
      cases no with
      | false => cases op <;> first | exact .inl ⟨rfl, rfl⟩ | exact absurd h2 Bool.false_ne_true
      | true => cases op <;> first | exact .inr ⟨rfl, rfl⟩ | exact absurd h2 Bool.false_ne_true
    | [], _, h => exact absurd h Bool.false_ne_true
    | [_], [], h => exact absurd h Bool.false_ne_true
    | [_], _ :: _ :: _, h => exact absurd h Bool.false_ne_true
    | _ :: _ :: _, _, h => exact absurd h Bool.false_ne_true
  | _ => exact absurd h Bool.false_ne_true
theorem isN_eq {no : Bool} {a : E} {env : Env} : evE (.isN no a) env = (evE a env >>= fun x => match x with | .dat .non => (pure (R.dat (.bl (!no))) : M R) | _ => pure (.dat (.bl no))) := rfl
theorem s_isN {no : Bool} {a : E} {e' : Expr} (x : XOk c kn k X) (h : agE c (.isN no a) e' = true) (ha : ∀ a', agE c a a' = true → PE X a' (tE X.K a)) : PE X e' (tE X.K (.isN no a)) := by
  obtain ⟨a', j, p, p', h1, h2⟩ := isN_ag h
  rcases h2 with ⟨rfl, rfl⟩ | ⟨rfl, rfl⟩
  · refine PE.imp (pe_cmpR op_isN (ha a' h1) pe_non (nomark _)) fun σ H Q hh => ?_
    obtain ⟨as, F, st, env, r, st', s, en, e, af⟩ := hh
    refine isN_run (no := false) (g := fun b => pure (R.dat (.bl b))) (G := fun v H2 => (tC .non) σ H2 fun y H3 => y = .non ∧ Q (.bl (decide (v = .non))) H3) s en e fun v F2 H2 st2 b k2 x2 hb z => ?_
    obtain ⟨rfl, rfl⟩ := pure_inv z
    refine ⟨rfl, ?_⟩
    have hb : b = decide (v = V.non) := by rw [hb]; cases decide (v = V.non) <;> rfl
    rw [← hb]
    exact af (.bl b) F2 H2 k2 x2 (.dat (.bl b)) trivial
  · refine PE.imp (pe_cmpR op_notN (ha a' h1) pe_non (nomark _)) fun σ H Q hh => ?_
    obtain ⟨as, F, st, env, r, st', s, en, e, af⟩ := hh
    refine isN_run (no := true) (g := fun b => pure (R.dat (.bl b))) (G := fun v H2 => (tC .non) σ H2 fun y H3 => y = .non ∧ Q (.bl (!decide (v = .non))) H3) s en e fun v F2 H2 st2 b k2 x2 hb z => ?_
    obtain ⟨rfl, rfl⟩ := pure_inv z
    refine ⟨rfl, ?_⟩
    have hb : b = !decide (v = V.non) := by rw [hb]; cases decide (v = V.non) <;> rfl
    rw [← hb]
    exact af (.bl b) F2 H2 k2 x2 (.dat (.bl b)) trivial
theorem s_isNT {no : Bool} {a : E} {e' : Expr} (x : XOk c kn k X) (h : agT c (.isN no a) e' = true) (ha : ∀ a', agE c a a' = true → PE X a' (tE X.K a)) : PT X e' (tT X.K (.isN no a)) := by
  have h' : agE c (.isN no a) e' = true := by
    cases e' with
    | Compare a' ops bs p =>
      match ops, bs, h with
      | [op], [b'], h => exact h
      | [], _, h => exact absurd h Bool.false_ne_true
      | [_], [], h => exact absurd h Bool.false_ne_true
      | [_], _ :: _ :: _, h => exact absurd h Bool.false_ne_true
      | _ :: _ :: _, _, h => exact absurd h Bool.false_ne_true
    | _ => exact absurd h Bool.false_ne_true
  obtain ⟨a', j, p, p', h1, h2⟩ := isN_ag h'
  rcases h2 with ⟨rfl, rfl⟩ | ⟨rfl, rfl⟩
  · refine PT.imp (pt_cmpR op_isN (ha a' h1) pe_non (nomark _)) fun σ H Q hh => ?_
    obtain ⟨as, F, st, env, r, st', s, en, e, af⟩ := hh
    refine isN_run (no := false) (g := fun b => pure b) (G := fun v H2 => (tC .non) σ H2 fun y H3 => y = .non ∧ ∃ k, V.bl (decide (v = .non)) = .bl k ∧ Q k H3) s en e fun v F2 H2 st2 b k2 x2 hb z => ?_
    obtain ⟨rfl, rfl⟩ := pure_inv z
    refine ⟨rfl, _, rfl, ?_⟩
    have hb : r = decide (v = V.non) := by rw [hb]; cases decide (v = V.non) <;> rfl
    rw [← hb]
    exact af F2 H2 k2 x2
  · refine PT.imp (pt_cmpR op_notN (ha a' h1) pe_non (nomark _)) fun σ H Q hh => ?_
    obtain ⟨as, F, st, env, r, st', s, en, e, af⟩ := hh
    refine isN_run (no := true) (g := fun b => pure b) (G := fun v H2 => (tC .non) σ H2 fun y H3 => y = .non ∧ ∃ k, V.bl (!decide (v = .non)) = .bl k ∧ Q k H3) s en e fun v F2 H2 st2 b k2 x2 hb z => ?_
    obtain ⟨rfl, rfl⟩ := pure_inv z
    refine ⟨rfl, _, rfl, ?_⟩
    have hb : r = !decide (v = V.non) := by rw [hb]; cases decide (v = V.non) <;> rfl
    rw [← hb]
    exact af F2 H2 k2 x2
theorem s_not {a : E} {e' : Expr} (x : XOk c kn k X) (h : agE c (.not a) e' = true) (ha : ∀ a', agE c a a' = true → PE X a' (tE X.K a)) : PE X e' (tE X.K (.not a)) := by
  cases e' with
  | UnaryOp op a' p =>
    cases op with
    | Not =>
      refine PE.imp (pe_not (ha a' h)) fun σ H Q hh => ?_
      obtain ⟨as, F, st, env, r, st', s, en, e, af⟩ := hh
      obtain ⟨ra, s1, e1, z1⟩ := bind_inv (show (evE a env >>= fun r => match r with | .dat (.bl i) => pure (.dat (.bl (!i))) | _ => M.no) st = .ok r st' from e)
      refine ⟨as, F, st, env, ra, s1, s, en, e1, fun v F1 H1 k1 x1 r1 f1 => ?_⟩
      cases ra with
      | dat d =>
        cases d with
        | bl i =>
          obtain ⟨rfl, rfl⟩ := pure_inv (show (pure (R.dat (.bl (!i))) : M R) s1 = .ok r st' from z1)
          cases r1 with
          | dat r1 =>
            cases r1
            exact ⟨i, rfl, af (.bl (!i)) F1 H1 k1 x1 (.dat (.bl _)) trivial⟩
        | _ => exact (no_inv z1).elim
      | _ => exact (no_inv z1).elim
    | _ => exact absurd h Bool.false_ne_true
  | _ => exact absurd h Bool.false_ne_true
theorem s_ite {t : T} {a b : E} {e' : Expr} (x : XOk c kn k X) (h : agE c (.ite t a b) e' = true) (ht : ∀ a', agT c t a' = true → PT X a' (tT X.K t))
    (ha : ∀ a', agE c a a' = true → PE X a' (tE X.K a)) (hb : ∀ b', agE c b b' = true → PE X b' (tE X.K b)) : PE X e' (tE X.K (.ite t a b)) := by
  cases e' with
  | IfExp t' a' b' p =>
    obtain ⟨h1, h⟩ := b2 (show (agT c t t' && (agE c a a' && agE c b b')) = true from h)
    obtain ⟨h2, h3⟩ := b2 h
    refine PE.imp (pe_ifExp (ht t' h1) (ha a' h2) (hb b' h3)) fun σ H Q hh => ?_
    obtain ⟨as, F, st, env, r, st', s, en, e, af⟩ := hh
    obtain ⟨bt, s1, e1, z1⟩ := bind_inv (show (evT t env >>= fun r => if r then evE a env else evE b env) st = .ok r st' from e)
    refine ⟨as, F, st, env, bt, s1, s, en, e1, fun F1 H1 k1 x1 => ?_⟩
    cases bt with
    | true =>
      rw [if_pos rfl]
      exact ⟨as, F1, s1, env, r, st', k1, en.ext x1, z1, fun v F2 H2 k2 x2 r2 f2 => af v F2 H2 k2 (x1.trans s.len k1.len x2) r2 (Fresh.back x1 f2)⟩
    | false =>
      rw [if_neg Bool.false_ne_true]
      exact ⟨as, F1, s1, env, r, st', k1, en.ext x1, z1, fun v F2 H2 k2 x2 r2 f2 => af v F2 H2 k2 (x1.trans s.len k1.len x2) r2 (Fresh.back x1 f2)⟩
  | _ => exact absurd h Bool.false_ne_true
theorem agEs_len : ∀ {es : Es} {es' : List Expr}, agEs c es es' = true → ∀ {n : Nat}, n = es'.length → lenEs es = n
  | .nil, [], _, _, rfl => rfl
  | .nil, _ :: _, h, _, _ => absurd h Bool.false_ne_true
  | .cons _ _, [], h, _, _ => absurd h Bool.false_ne_true
  | .cons e es, e' :: es', h, _, rfl => by
    have h : (notStar e' && (agE c e e' && agEs c es es')) = true := h
    obtain ⟨_, h⟩ := b2 h
    obtain ⟨_, h⟩ := b2 h
    exact congrArg Nat.succ (agEs_len h rfl)
theorem evDs_len : ∀ {es : Es} {env : Env} {ds : List D} {st st' : Sto}, evDs es env st = .ok ds st' → ds.length = lenEs es
  | .nil, _, _, _, _, h => by
    obtain ⟨rfl, rfl⟩ := pure_inv h
    rfl
  | .cons e es, env, ds, st, st', h => by
    obtain ⟨r, s1, _, z1⟩ := bind_inv (show (evE e env >>= fun r => use r >>= fun d => evDs es env >>= fun ds => (pure (d :: ds) : M (List D))) st = .ok ds st' from h)
    obtain ⟨d, s2, _, z2⟩ := bind_inv z1
    obtain ⟨ds', s3, h3, z3⟩ := bind_inv z2
    obtain ⟨rfl, rfl⟩ := pure_inv z3
    exact congrArg Nat.succ (evDs_len h3)
theorem s_tup {es : Es} {e' : Expr} (x : XOk c kn k X) (h : agE c (.tup es) e' = true) (hs : ∀ es', agEs c es es' = true → PA X es' (tDs X.K es)) : PE X e' (tE X.K (.tup es)) := by
  cases e' with
  | Tuple es' j p =>
    obtain ⟨h1, h2⟩ := b2 (show (agEs c es es' && decide (es'.length ≤ sizeLine)) = true from h)
    refine PE.imp (pe_tup (hs es' h1)) fun σ H Q hh => ?_
    obtain ⟨as, F, st, env, r, st', s, en, e, af⟩ := hh
    obtain ⟨ds, s1, e1, z1⟩ := bind_inv (show (evDs es env >>= fun ds => (pure (R.dat (.tup ds)) : M R)) st = .ok r st' from e)
    obtain ⟨rfl, rfl⟩ := pure_inv z1
    refine ⟨as, F, st, env, ds, st', s, en, e1, fun vs F1 H1 k1 x1 r1 => ?_⟩
    have hl : vs.length ≤ sizeLine := by rw [r1.length, evDs_len e1, agEs_len h1 rfl]; exact of_decide_eq_true h2
    have af' : Aft X.K as F1 H1 st' (.dat (.tup ds)) st' Q := fun v F2 H2 k2 x2 r2 f2 => af v F2 H2 k2 (x1.trans s.len k1.len x2) r2 trivial
    exact ⟨hl, af'.tup k1 r1 hl⟩
  | _ => exact absurd h Bool.false_ne_true
theorem s_lst {es : Es} {e' : Expr} (x : XOk c kn k X) (h : agE c (.lst es) e' = true) (hs : ∀ es', agEs c es es' = true → PA X es' (tDs X.K es)) : PE X e' (tE X.K (.lst es)) := by
  cases e' with
  | List es' p =>
    obtain ⟨h1, h2⟩ := b2 (show (agEs c es es' && decide (es'.length ≤ sizeLine)) = true from h)
    refine PE.imp (pe_lst (hs es' h1)) fun σ H Q hh => ?_
    obtain ⟨as, F, st, env, r, st', s, en, e, af⟩ := hh
    obtain ⟨ds, s1, e1, z1⟩ := bind_inv (show (evDs es env >>= fun ds => (pure (R.own (.lst ds)) : M R)) st = .ok r st' from e)
    obtain ⟨rfl, rfl⟩ := pure_inv z1
    refine ⟨as, F, st, env, ds, st', s, en, e1, fun vs F1 H1 k1 x1 r1 => ?_⟩
    have hl : vs.length ≤ sizeLine := by rw [r1.length, evDs_len e1, agEs_len h1 rfl]; exact of_decide_eq_true h2
    have af' : Aft X.K as F1 H1 st' (.own (.lst ds)) st' Q := fun v F2 H2 k2 x2 r2 f2 => af v F2 H2 k2 (x1.trans s.len k1.len x2) r2 (Fresh.back x1 f2)
    exact ⟨hl, af'.lst k1 r1 hl⟩
  | _ => exact absurd h Bool.false_ne_true
theorem s_ix {a b : E} {e' : Expr} (x : XOk c kn k X) (h : agE c (.ix a b) e' = true)
    (ha : ∀ a', agE c a a' = true → PE X a' (tE X.K a)) (hb : ∀ b', agE c b b' = true → PE X b' (tE X.K b)) : PE X e' (tE X.K (.ix a b)) := by
  cases e' with
  | Subscript a' b' p =>
    have h0 : notSlice b' = true ∧ agE c a a' = true ∧ agE c b b' = true := by
      cases b' <;> first | exact absurd h Bool.false_ne_true | (obtain ⟨h1, h⟩ := b2 h; obtain ⟨h2, h3⟩ := b2 h; exact ⟨h1, h2, h3⟩)
    obtain ⟨h1, h2, h3⟩ := h0
    refine PE.imp (pe_ix (IxR.or ix_D (ix_dK (Nat.lt_of_le_of_lt (by omega) x.units))) (ha a' h2) (hb b' h3) (plain_ix h1)) fun σ H Q hh => ?_
    obtain ⟨as, F, st, env, r, st', s, en, e, af⟩ := hh
    obtain ⟨ra, s1, e1, z1⟩ := bind_inv (show (evE a env >>= fun x => evE b env >>= fun y => peek x >>= fun p => ixB p y) st = .ok r st' from e)
    obtain ⟨rb, s2, e2, z2⟩ := bind_inv z1
    obtain ⟨p, s3, e3, z3⟩ := bind_inv z2
    refine ⟨as, F, st, env, ra, s1, s, en, e1, fun v F1 H1 k1 x1 r1 f1 => ?_⟩
    refine ⟨as, F1, s1, env, rb, s2, k1, en.ext x1, e2, fun w F2 H2 k2 x2 r2 f2 => ?_⟩
    obtain ⟨rfl, v1⟩ := peek_ok k2 (r1.ext k1.len x2 fun _ _ z => nomatch z) e3
    have fin : ∀ ds, (VOk X.K F2 H2 v (.tup ds) ∨ VOk X.K F2 H2 v (.lst ds) ∨ VOk X.K F2 H2 v (.scr ds)) → (∃ j, rb = .dat (.int j) ∧ (M.opt (at? ds j) >>= fun d => (pure (R.dat d) : M R)) s3 = .ok r st') → rIxD X.K v w H2 Q := fun ds hv ⟨j, hj, z4⟩ => by
      subst hj
      obtain ⟨d, s4, e40, z5⟩ := bind_inv z4
      obtain ⟨e4, rfl⟩ := opt_inv e40
      obtain ⟨rfl, rfl⟩ := pure_inv z5
      cases r2 with
      | dat r2 =>
        cases r2
        exact ⟨as, F2, st', ds, d, j, k2, hv, rfl, e4, fun u hu => af u F2 H2 k2 (x1.trans s.len k1.len x2) (.dat hu) trivial⟩
    cases p with
    | tup ds => exact .inl <| fin ds (.inl v1) (by cases rb <;> first | exact (no_inv z3).elim | (rename_i d; cases d <;> first | exact (no_inv z3).elim | exact ⟨_, rfl, z3⟩))
    | lst ds => exact .inl <| fin ds (.inr (.inl v1)) (by cases rb <;> first | exact (no_inv z3).elim | (rename_i d; cases d <;> first | exact (no_inv z3).elim | exact ⟨_, rfl, z3⟩))
    | scr ds => exact .inl <| fin ds (.inr (.inr v1)) (by cases rb <;> first | exact (no_inv z3).elim | (rename_i d; cases d <;> first | exact (no_inv z3).elim | exact ⟨_, rfl, z3⟩))
    | dct ks vs =>
      cases rb with
      | dat kd =>
        obtain ⟨_, s4, e4, z4⟩ := bind_inv (show (M.guard (keyOk kd) >>= fun _ => M.opt (DB.dget ks vs kd) >>= fun d => (pure (R.dat d) : M R)) s3 = .ok r st' by cases kd <;> exact z3)
        obtain ⟨g, rfl⟩ := guard_inv e4
        obtain ⟨d, s5, e5, z5⟩ := bind_inv z4
        obtain ⟨e6, rfl⟩ := opt_inv e5
        obtain ⟨rfl, rfl⟩ := pure_inv z5
        cases r2 with
        | dat r2 =>
          obtain ⟨a1, o, rfl, dg, g1, _⟩ := VOk.dget k2.sub v1 (.dat r2) g
          obtain ⟨u, rfl, hu⟩ := g1 d e6
          exact .inr ⟨a1, u, rfl, dg, af u F2 H2 k2 (x1.trans s.len k1.len x2) (.dat hu) trivial⟩
      | _ => exact (no_inv z3).elim
    | _ => exact (no_inv z3).elim
  | _ => exact absurd h Bool.false_ne_true
theorem s_sl {a : E} {lo hi : Es} {e' : Expr} (x : XOk c kn k X) (h : agE c (.sl a lo hi) e' = true)
    (ha : ∀ a', agE c a a' = true → PE X a' (tE X.K a)) (hl : ∀ b', agPart c lo b' = true → PO X b' (tPart_ X.K lo)) (hh' : ∀ b', agPart c hi b' = true → PO X b' (tPart_ X.K hi)) : PE X e' (tE X.K (.sl a lo hi)) := by
  cases e' with
  | Subscript a' b' p =>
    cases b' with
    | Slice lo' hi' stp p2 =>
      cases stp with
      | none =>
        obtain ⟨h1, h⟩ := b2 (show (agE c a a' && (agPart c lo lo' && agPart c hi hi')) = true from h)
        obtain ⟨h2, h3⟩ := b2 h
        refine PE.imp (pe_slice sl_D (ha a' h1) (hl lo' h2) (hh' hi' h3)) fun σ H Q hh => ?_
        obtain ⟨as, F, st, env, r, st', s, en, e, af⟩ := hh
        obtain ⟨ra, s1, e1, z1⟩ := bind_inv (show (evE a env >>= fun x => evPart lo env >>= fun l => evPart hi env >>= fun h => peek x >>= fun p => slB p l h) st = .ok r st' from e)
        obtain ⟨l, s2, e2, z2⟩ := bind_inv z1
        obtain ⟨u, s3, e3, z3⟩ := bind_inv z2
        obtain ⟨p, s4, e4, z4⟩ := bind_inv z3
        refine ⟨as, F, st, env, ra, s1, s, en, e1, fun v F1 H1 k1 x1 r1 f1 => ?_⟩
        refine ⟨as, F1, s1, env, l, s2, k1, en.ext x1, e2, fun F2 H2 k2 x2 => ?_⟩
        refine ⟨as, F2, s2, env, u, s3, k2, (en.ext x1).ext x2, e3, fun F3 H3 k3 x3 => ?_⟩
        obtain ⟨rfl, v1⟩ := peek_ok k3 ((r1.ext k1.len x2 fun _ _ z => nomatch z).ext k2.len x3 fun _ _ z => nomatch z) e4
        have x13 : Ext [] as F H st as F3 H3 s4 := (x1.trans s.len k1.len x2).trans s.len k2.len x3
        exact ⟨as, F3, s4, p, r, st', k3, v1, z4, fun u F4 H4 k4 x4 r4 f4 => af u F4 H4 k4 (x13.trans s.len k3.len x4) r4 (Fresh.back x13 f4)⟩
      | some _ => exact absurd h Bool.false_ne_true
    | _ => exact absurd h Bool.false_ne_true
  | _ => exact absurd h Bool.false_ne_true
end
end DB
set_option maxHeartbeats 4000000
namespace DB
open PySem PySem.Spec L2
section
variable {c : AC} {kn : Know} {k : Nat} {X : Cx}
theorem free_of (x : XOk c kn k X) {y : Str} (h : y ∈ freeNames) : X.mg y = none := x.free y h
theorem s_isI {t : String} {a : E} {e' : Expr} (x : XOk c kn k X) (h : agE c (.isI t a) e' = true) (ha : ∀ a', agE c a a' = true → PE X a' (tE X.K a)) : PE X e' (tE X.K (.isI t a)) := by
  have h0 : ∃ y p a' z p2 p3, e' = .Call (.Name y p) [a', .Name z p2] [] p3 ∧ y = ("isinstance" : Str) ∧ glB c.sc y = true ∧ z = Str.ofString t ∧ glB c.sc z = true ∧ tyOk t = true ∧ notStar a' = true ∧ agE c a a' = true := by
    cases e' with
    | Call f args kws p3 =>
      cases f with
      | Name y p =>
        match args, kws, h with
        | [a', b'], [], h =>
          cases b' with
          | Name z p2 =>
            obtain ⟨h1, h⟩ := b2 (show (decide (y = ("isinstance" : Str)) && (glB c.sc y && (decide (z = Str.ofString t) && (glB c.sc z && (tyOk t && (notStar a' && agE c a a')))))) = true from h)
            obtain ⟨h2, h⟩ := b2 h
            obtain ⟨h3, h⟩ := b2 h
            obtain ⟨h4, h⟩ := b2 h
            obtain ⟨h5, h⟩ := b2 h
            obtain ⟨h6, h7⟩ := b2 h
            exact ⟨y, p, a', z, p2, p3, rfl, of_decide_eq_true h1, h2, of_decide_eq_true h3, h4, h5, h6, h7⟩
          | _ => exact absurd h Bool.false_ne_true
        | [], _, h => exact absurd h Bool.false_ne_true
        | [_], _, h => exact absurd h Bool.false_ne_true
        | [_, b'], _ :: _, h => cases b' <;> exact absurd h Bool.false_ne_true
        | _ :: b' :: _ :: _, _, h => cases b' <;> exact absurd h Bool.false_ne_true
      | _ => exact absurd h Bool.false_ne_true
    | _ => exact absurd h Bool.false_ne_true
  obtain ⟨y, p, a', z, p2, p3, rfl, rfl, h1, rfl, h2, h3, h4, h5⟩ := h0
  have ht' : t = "int" ∨ t = "bool" ∨ t = "str" ∨ t = "tuple" ∨ t = "list" ∨ t = "dict" := by
    have : t ∈ ["int", "bool", "str", "tuple", "list", "dict"] := by simpa [tyOk] using h3
    simpa using this
  obtain ⟨g1, d1⟩ := x.glb h1
  obtain ⟨g2, d2⟩ := x.glb h2
  have hz : PE X (.Name (Str.ofString t) p2) (tC (.ty t)) := by
    rcases ht' with rfl | rfl | rfl | rfl | rfl | rfl <;> exact pe_bltn g2 (free_of x (by decide +kernel)) (by decide +kernel) rfl (by decide +kernel) d2
  refine PE.imp (pe_callB (call_isi (X := X)) g1 (free_of x (by decide +kernel)) (by decide +kernel) (pa_cons (ha a' h5) (pa_cons hz pa_nil (star_cons (by rfl))) (star_cons h4)) (by decide +kernel) d1 (star_cons h4) (by rw [star_cons (by rfl)]; rfl)) fun σ H Q hh => ?_
  obtain ⟨as, F, st, env, r, st', s, en, e, af⟩ := hh
  obtain ⟨ra, s1, e1, z1⟩ := bind_inv (show (evE a env >>= fun x => peek x >>= fun p => M.guard (tyName p != "object") >>= fun _ => (pure (R.dat (.bl (isTy t p))) : M R)) st = .ok r st' from e)
  obtain ⟨d, s2, e2, z2⟩ := bind_inv z1
  obtain ⟨_, s3, e3, z3⟩ := bind_inv z2
  refine ⟨as, F, st, env, ra, s1, s, en, e1, fun v F1 H1 k1 x1 r1 f1 => ?_⟩
  obtain ⟨rfl, v1⟩ := peek_ok k1 r1 e2
  obtain ⟨g, rfl⟩ := guard_inv e3
  obtain ⟨rfl, rfl⟩ := pure_inv z3
  exact ⟨v, .ty t, _, _, isTy t d, rfl, .ty t, v1.tyX k1.sub g, kit_ty (kitB_ok h3 g), af (.bl _) F1 H1 k1 x1 (.dat (.bl _)) trivial⟩
theorem call_shape {f : Fn} {id : Nat} {es : Es} {e' : Expr} (h : agE c (.call f id es) e' = true) : ∃ y p as' p3, e' = .Call (.Name y p) as' [] p3 ∧ c.fns[id]? = some y ∧ glB c.sc y = true ∧ agEs c es as' = true := by
  cases e' with
  | Call f' args kws p3 =>
    cases f' with
    | Name y p =>
      cases kws with
      | nil =>
        have h : (decide (c.fns[id]? = some y) && (glB c.sc y && agEs c es args)) = true := by
          match args, h with
          | [], h => exact h
          | [_], h => exact h
          | _ :: _ :: _, h => exact h
        obtain ⟨h1, h⟩ := b2 h
        obtain ⟨h2, h4⟩ := b2 h
        exact ⟨y, p, args, p3, rfl, of_decide_eq_true h1, h2, h4⟩
      | cons _ _ => exact absurd h Bool.false_ne_true
    | _ => exact absurd h Bool.false_ne_true
  | _ => exact absurd h Bool.false_ne_true
theorem s_call {f : Fn} {id : Nat} {es : Es} {e' : Expr} (x : XOk c kn k X) (h : agE c (.call f id es) e' = true) (hk : kn.fn id f) (hs : ∀ es', agEs c es es' = true → PA X es' (tEs X.K es)) : PE X e' (tE X.K (.call f id es)) := by
  obtain ⟨y, p, as', p3, rfl, h1, h2, h3⟩ := call_shape h
  obtain ⟨g1, d1⟩ := x.glb h2
  obtain ⟨fa, fd, ps, hm, hkp, hb, hF⟩ := x.call id f y hk h1
  have hst := agEs_star h3
  cases as' with
  | nil =>
    cases es with
    | cons _ _ => exact absurd h3 Bool.false_ne_true
    | star _ _ => exact absurd h3 Bool.false_ne_true
    | nil =>
    refine PE.imp (pe_call0G (E := E0) hF x.room x.gd g1 hm hkp hb d1) fun σ H Q hh => ?_
    obtain ⟨as, F, st, env, r, st', s, en, e, af⟩ := hh
    obtain ⟨rs, s1, e1, z1⟩ := bind_inv (show (evEs .nil env >>= fun rs => runFn f rs) st = .ok r st' from e)
    obtain ⟨rfl, rfl⟩ := pure_inv (show (pure [] : M (List R)) st = .ok rs s1 from e1)
    show spF X.K f ([] ++ []) H Q E0
    refine ⟨as, F, s1, [], r, st', s, .nil, z1, fun v F2 H2 k2 x2 r2 o2 => ?_⟩
    refine af v F2 H2 k2 x2 r2 ?_
    cases r with
    | own d =>
      intro a ha
      subst ha
      exact (o2 a (by simp [ownA])).elim (fun z => z) fun z => by cases z
    | _ => trivial
  | cons a' as' =>
    refine PE.imp (pe_callG (E := E0) hF x.room x.gd g1 hm hkp hb (hs _ h3) d1 (star_cons (hst _ (List.mem_cons_self ..))) (backTo_plain fun e he => hst e (List.mem_cons_of_mem _ he))) fun σ H Q hh => ?_
    obtain ⟨as, F, st, env, r, st', s, en, e, af⟩ := hh
    obtain ⟨rs, s1, e1, z1⟩ := bind_inv (show (evEs es env >>= fun rs => runFn f rs) st = .ok r st' from e)
    refine ⟨as, F, st, env, rs, s1, s, en, e1, fun vs F1 H1 k1 x1 r1 f1 => ?_⟩
    show spF X.K f (vs ++ []) H1 Q E0
    rw [List.append_nil]
    refine ⟨as, F1, s1, rs, r, st', k1, r1, z1, fun v F2 H2 k2 x2 r2 o2 => ?_⟩
    refine af v F2 H2 k2 (x1.transX s.len k1.len x2 (fun _ z => nomatch z) fun a ha => .inr (f1 a ha)) r2 ?_
    have none_of : ∀ a, H1 a = none → H a = none := fun a ha => by
      cases q : H a with
      | none => rfl
      | some o => exact absurd ha (x1.k a (by rw [q]; exact fun z => nomatch z))
    cases r with
    | own d =>
      intro a ha
      subst ha
      exact (o2 a (by simp [ownA])).elim (none_of a) (f1 a)
    | _ => trivial
theorem peeks_ok {K : PySem.W.Frag} {F H : Hp} {as : List Addr} : ∀ {vs : List V} {rs : List R} {ds : List D} {st st' : Sto}, StOk K F H as st → RsOk K F H as vs rs → peeks rs st = .ok ds st' → st' = st ∧ VsOk K F H vs ds
  | _, [], _, _, _, s, r, e => by
    cases r
    obtain ⟨rfl, rfl⟩ := pure_inv e
    exact ⟨rfl, .nil⟩
  | _, r :: rs, _, st, st', s, ro, e => by
    cases ro with
    | cons r1 r2 _ =>
      obtain ⟨d, s1, e1, z1⟩ := bind_inv (show (peek r >>= fun d => peeks rs >>= fun ds => (pure (d :: ds) : M (List D))) st = .ok _ st' from e)
      obtain ⟨rfl, v1⟩ := peek_ok s r1 e1
      obtain ⟨ds, s2, e2, z2⟩ := bind_inv z1
      obtain ⟨rfl, v2⟩ := peeks_ok s r2 e2
      obtain ⟨rfl, rfl⟩ := pure_inv z2
      exact ⟨rfl, .cons v1 v2⟩
theorem s_bi {b : Bi} {es : Es} {e' : Expr} (x : XOk c kn k X) (h : agE c (.bi b es) e' = true) (hs : ∀ es', agEs c es es' = true → PA X es' (tEs X.K es)) : PE X e' (tE X.K (.bi b es)) := by
  have h0 : ∃ y p a' as' p3, e' = .Call (.Name y p) (a' :: as') [] p3 ∧ y = Str.ofString (biName b) ∧ glB c.sc y = true ∧ agEs c es (a' :: as') = true := by
    cases e' with
    | Call f' args kws p3 =>
      cases f' with
      | Name y p =>
        cases kws with
        | nil =>
          have h : (decide (y = Str.ofString (biName b)) && (glB c.sc y && (!args.isEmpty && agEs c es args))) = true := by
            match args, h with
            | [], h => exact h
            | [_], h => exact h
            | _ :: _ :: _, h => exact h
          obtain ⟨h1, h⟩ := b2 h
          obtain ⟨h2, h⟩ := b2 h
          obtain ⟨h3, h4⟩ := b2 h
          cases args with
          | nil => cases h3
          | cons a' as' => exact ⟨y, p, a', as', p3, rfl, of_decide_eq_true h1, h2, h4⟩
        | cons _ _ => exact absurd h Bool.false_ne_true
      | _ => exact absurd h Bool.false_ne_true
    | _ => exact absurd h Bool.false_ne_true
  obtain ⟨y, p, a', as', p3, rfl, rfl, h2, h3⟩ := h0
  obtain ⟨g1, d1⟩ := x.glb h2
  have hst := agEs_star h3
  have hpe : PE X (.Call (.Name (Str.ofString (biName b)) p) (a' :: as') [] p3) (tCB (rBi X.K b) (tEs X.K es)) := by
    have hm : X.mg (Str.ofString (biName b)) = none := free_of x (by cases b <;> decide +kernel)
    have hc := call_bi (X := X) (b := b) x.calm
    have he := star_cons (env := X.env) (es := as') (hst _ (List.mem_cons_self ..))
    have hp := backTo_plain (pos := p3) (env := X.env) (es := as') fun e he => hst e (List.mem_cons_of_mem _ he)
    cases b with
    | int => exact pe_callTy hc g1 hm (by decide +kernel) (hs _ h3) (by decide +kernel) d1 he hp
    | tuple => exact pe_callTy hc g1 hm (by decide +kernel) (hs _ h3) (by decide +kernel) d1 he hp
    | list => exact pe_callTy hc g1 hm (by decide +kernel) (hs _ h3) (by decide +kernel) d1 he hp
    | str => exact pe_callTy hc g1 hm (by decide +kernel) (hs _ h3) (by decide +kernel) d1 he hp
    | _ => exact pe_callB hc g1 hm (by decide +kernel) (hs _ h3) (by decide +kernel) d1 he hp
  refine PE.imp hpe fun σ H Q hh => ?_
  obtain ⟨as, F, st, env, r, st', s, en, e, af⟩ := hh
  obtain ⟨rs, s1, e1, z1⟩ := bind_inv (show (evEs es env >>= fun rs => peeks rs >>= fun ds => bltn b ds) st = .ok r st' from e)
  obtain ⟨ds, s2, e2, z2⟩ := bind_inv z1
  refine ⟨as, F, st, env, rs, s1, s, en, e1, fun vs F1 H1 k1 x1 r1 f1 => ?_⟩
  obtain ⟨rfl, v1⟩ := peeks_ok k1 r1 e2
  exact ⟨as, F1, s2, ds, r, st', k1, v1, z2, fun v F2 H2 k2 x2 r2 f2 => af v F2 H2 k2 (x1.trans s.len k1.len x2) r2 (Fresh.back x1 f2)⟩

/-! ### lists of expressions -/
theorem s_Es_nil : PA X [] (tEs X.K .nil) := PA.imp pa_nil fun σ H Q hh => by
  obtain ⟨as, F, st, env, r, st', s, en, e, af⟩ := hh
  obtain ⟨rfl, rfl⟩ := pure_inv (show (pure [] : M (List R)) st = .ok r st' from e)
  exact af [] F H s .refl .nil fun _ z => nomatch z
theorem s_Es_cons {a : E} {es : Es} {a' : Expr} {es' : List Expr} (h0 : notStar a' = true) (ha : PE X a' (tE X.K a)) (hs : PA X es' (tEs X.K es)) : PA X (a' :: es') (tEs X.K (.cons a es)) := by
  refine PA.imp (pa_cons ha hs (star_cons h0)) fun σ H Q hh => ?_
  obtain ⟨as, F, st, env, rs, st', s, en, e, af⟩ := hh
  obtain ⟨ra, s1, e1, z1⟩ := bind_inv (show (evE a env >>= fun r => evEs es env >>= fun rs => (pure (r :: rs) : M (List R))) st = .ok rs st' from e)
  obtain ⟨rb, s2, e2, z2⟩ := bind_inv z1
  obtain ⟨rfl, rfl⟩ := pure_inv z2
  refine ⟨as, F, st, env, ra, s1, s, en, e1, fun v F1 H1 k1 x1 r1 f1 => ?_⟩
  refine ⟨as, F1, s1, env, rb, st', k1, en.ext x1, e2, fun vs F2 H2 k2 x2 r2 f2 => ?_⟩
  have hown : ∀ a ∈ ownA v ra, H a = none ∧ H1 a ≠ none := fun a ha => by
    cases r1 with
    | dat _ => cases v <;> cases ha
    | cell _ => cases ha
    | own h1 h2 h3 =>
      have : a = _ := List.mem_singleton.mp ha
      subst this
      exact ⟨f1 _ rfl, h2.some⟩
  refine af (v :: vs) F2 H2 k2 (x1.trans s.len k1.len x2) (.cons (r1.ext k1.len x2 fun _ _ z => nomatch z) r2 fun a ha hb => (hown a ha).2 (f2 a hb)) fun a ha => ?_
  rcases List.mem_append.mp (show a ∈ ownA v ra ++ ownsA vs rb from ha) with ha | ha
  · exact (hown a ha).1
  · cases q : H a with
    | none => rfl
    | some o => exact absurd (f2 a ha) (x1.k a (by rw [q]; exact fun z => nomatch z))
theorem s_Ds_nil : PA X [] (tDs X.K .nil) := PA.imp pa_nil fun σ H Q hh => by
  obtain ⟨as, F, st, env, r, st', s, en, e, af⟩ := hh
  obtain ⟨rfl, rfl⟩ := pure_inv (show (pure [] : M (List D)) st = .ok r st' from e)
  exact af [] F H s .refl .nil
/-- handed on as data at once -/
theorem use_aft {K : PySem.W.Frag} {F H F1 H1 : Hp} {as : List Addr} {st s1 s2 : Sto} {v : V} {r : R} {d : D} (hl : as.length = st.length) (k1 : StOk K F1 H1 as s1) (x1 : Ext [] as F H st as F1 H1 s1) (r1 : ROk K F1 H1 as v r) (f1 : Fresh H v r) (e : use r s1 = .ok d s2) :
    ∃ F2, StOk K F2 H1 as s2 ∧ Ext [] as F H st as F2 H1 s2 ∧ DOk K F2 v d := by
  obtain ⟨F2, k2, x2, d2⟩ := use_ok k1 r1 e
  refine ⟨F2, k2, x1.transX hl k1.len x2 (fun _ z => nomatch z) fun a ha => .inr ?_, d2⟩
  cases r with
  | own d0 =>
    cases v with
    | ref b =>
      have : a = b := List.mem_singleton.mp ha
      subst this
      exact f1 _ rfl
    | _ => cases ha
  | _ => cases v <;> cases ha
theorem s_Ds_cons {a : E} {es : Es} {a' : Expr} {es' : List Expr} (h0 : notStar a' = true) (ha : PE X a' (tE X.K a)) (hs : PA X es' (tDs X.K es)) : PA X (a' :: es') (tDs X.K (.cons a es)) := by
  refine PA.imp (pa_cons ha hs (star_cons h0)) fun σ H Q hh => ?_
  obtain ⟨as, F, st, env, ds, st', s, en, e, af⟩ := hh
  obtain ⟨ra, s1, e1, z1⟩ := bind_inv (show (evE a env >>= fun r => use r >>= fun d => evDs es env >>= fun ds => (pure (d :: ds) : M (List D))) st = .ok ds st' from e)
  obtain ⟨d, s2, e2, z2⟩ := bind_inv z1
  obtain ⟨ds', s3, e3, z3⟩ := bind_inv z2
  obtain ⟨rfl, rfl⟩ := pure_inv z3
  refine ⟨as, F, st, env, ra, s1, s, en, e1, fun v F1 H1 k1 x1 r1 f1 => ?_⟩
  obtain ⟨F2, k2, x2, d2⟩ := use_aft s.len k1 x1 r1 f1 e2
  exact ⟨as, F2, s2, env, ds', st', k2, en.ext x2, e3, fun vs F3 H3 k3 x3 r3 => af (v :: vs) F3 H3 k3 (x2.trans s.len k2.len x3) (.cons (d2.mono x3.f) r3)⟩
theorem s_Part_nil : PO X none (tPart_ X.K .nil) := PO.imp po_none fun σ H Q hh => by
  obtain ⟨as, F, st, env, r, st', s, en, e, af⟩ := hh
  obtain ⟨rfl, rfl⟩ := pure_inv (show (pure none : M (Option Int)) st = .ok r st' from e)
  exact af F H s .refl
theorem s_Part_one {a : E} {es : Es} {a' : Expr} (ha : PE X a' (tE X.K a)) : PO X (some a') (tPart_ X.K (.cons a es)) := PO.imp (po_some ha) fun σ H Q hh => by
  obtain ⟨as, F, st, env, o, st', s, en, e, af⟩ := hh
  obtain ⟨ra, s1, e1, z1⟩ := bind_inv (show (evE a env >>= fun r => match r with | .dat (.int i) => pure (some i) | _ => M.no) st = .ok o st' from e)
  refine ⟨as, F, st, env, ra, s1, s, en, e1, fun v F1 H1 k1 x1 r1 f1 => ?_⟩
  cases r1 with
  | dat r1 =>
    cases r1 with
    | int i =>
      obtain ⟨rfl, rfl⟩ := pure_inv (show (pure (some i) : M (Option Int)) s1 = .ok o st' from z1)
      exact ⟨i, rfl, af F1 H1 k1 x1⟩
    | _ => exact (no_inv z1).elim
  | _ => exact (no_inv z1).elim
/-! ### and, or -/
theorem and_one {a : E} {a' : Expr} {p : Pos} (ha : PE X a' (tE X.K a)) : PE X (.BoolOp .And [a'] p) (tAnd_ X.K (.cons a .nil)) := PE.imp (pe_one ha) fun σ H Q hh => by
  obtain ⟨as, F, st, env, b, st', s, en, e, af⟩ := hh
  obtain ⟨ra, s1, e1, z1⟩ := bind_inv (show (evE a env >>= fun r => match r with | .dat (.bl true) => evAnd .nil env | .dat (.bl false) => pure false | _ => M.no) st = .ok b st' from e)
  refine ⟨as, F, st, env, ra, s1, s, en, e1, fun v F1 H1 k1 x1 r1 f1 => ?_⟩
  cases r1 with
  | dat r1 =>
    cases r1 with
    | bl i =>
      cases i with
      | true =>
        obtain ⟨rfl, rfl⟩ := pure_inv (show (pure true : M Bool) s1 = .ok b st' from z1)
        exact af F1 H1 k1 x1
      | false =>
        obtain ⟨rfl, rfl⟩ := pure_inv (show (pure false : M Bool) s1 = .ok b st' from z1)
        exact af F1 H1 k1 x1
    | _ => exact (no_inv z1).elim
  | _ => exact (no_inv z1).elim
theorem and_cons {a : E} {es : Es} {a' b' : Expr} {r' : List Expr} {p : Pos} (ha : PE X a' (tE X.K a)) (hs : PE X (.BoolOp .And (b' :: r') p) (tAnd_ X.K es)) : PE X (.BoolOp .And (a' :: b' :: r') p) (tAnd_ X.K (.cons a es)) := PE.imp (pe_and ha hs) fun σ H Q hh => by
  obtain ⟨as, F, st, env, b, st', s, en, e, af⟩ := hh
  obtain ⟨ra, s1, e1, z1⟩ := bind_inv (show (evE a env >>= fun r => match r with | .dat (.bl true) => evAnd es env | .dat (.bl false) => pure false | _ => M.no) st = .ok b st' from e)
  refine ⟨as, F, st, env, ra, s1, s, en, e1, fun v F1 H1 k1 x1 r1 f1 => ?_⟩
  cases r1 with
  | dat r1 =>
    cases r1 with
    | bl i =>
      cases i with
      | true => exact ⟨true, rfl, by rw [if_pos rfl]; exact ⟨as, F1, s1, env, b, st', k1, en.ext x1, z1, fun F2 H2 k2 x2 => af F2 H2 k2 (x1.trans s.len k1.len x2)⟩⟩
      | false =>
        obtain ⟨rfl, rfl⟩ := pure_inv (show (pure false : M Bool) s1 = .ok b st' from z1)
        exact ⟨false, rfl, by rw [if_neg Bool.false_ne_true]; exact af F1 H1 k1 x1⟩
    | _ => exact (no_inv z1).elim
  | _ => exact (no_inv z1).elim
theorem or_one {a : E} {a' : Expr} {p : Pos} (ha : PE X a' (tE X.K a)) : PE X (.BoolOp .Or [a'] p) (tOr_ X.K (.cons a .nil)) := PE.imp (pe_one ha) fun σ H Q hh => by
  obtain ⟨as, F, st, env, b, st', s, en, e, af⟩ := hh
  obtain ⟨ra, s1, e1, z1⟩ := bind_inv (show (evE a env >>= fun r => match r with | .dat (.bl false) => evOr .nil env | .dat (.bl true) => pure true | _ => M.no) st = .ok b st' from e)
  refine ⟨as, F, st, env, ra, s1, s, en, e1, fun v F1 H1 k1 x1 r1 f1 => ?_⟩
  cases r1 with
  | dat r1 =>
    cases r1 with
    | bl i =>
      cases i with
      | true =>
        obtain ⟨rfl, rfl⟩ := pure_inv (show (pure true : M Bool) s1 = .ok b st' from z1)
        exact af F1 H1 k1 x1
      | false =>
        obtain ⟨rfl, rfl⟩ := pure_inv (show (pure false : M Bool) s1 = .ok b st' from z1)
        exact af F1 H1 k1 x1
    | _ => exact (no_inv z1).elim
  | _ => exact (no_inv z1).elim
theorem or_cons {a : E} {es : Es} {a' b' : Expr} {r' : List Expr} {p : Pos} (ha : PE X a' (tE X.K a)) (hs : PE X (.BoolOp .Or (b' :: r') p) (tOr_ X.K es)) : PE X (.BoolOp .Or (a' :: b' :: r') p) (tOr_ X.K (.cons a es)) := PE.imp (pe_or ha hs) fun σ H Q hh => by
  obtain ⟨as, F, st, env, b, st', s, en, e, af⟩ := hh
  obtain ⟨ra, s1, e1, z1⟩ := bind_inv (show (evE a env >>= fun r => match r with | .dat (.bl false) => evOr es env | .dat (.bl true) => pure true | _ => M.no) st = .ok b st' from e)
  refine ⟨as, F, st, env, ra, s1, s, en, e1, fun v F1 H1 k1 x1 r1 f1 => ?_⟩
  cases r1 with
  | dat r1 =>
    cases r1 with
    | bl i =>
      cases i with
      | false => exact ⟨false, rfl, by rw [if_neg Bool.false_ne_true]; exact ⟨as, F1, s1, env, b, st', k1, en.ext x1, z1, fun F2 H2 k2 x2 => af F2 H2 k2 (x1.trans s.len k1.len x2)⟩⟩
      | true =>
        obtain ⟨rfl, rfl⟩ := pure_inv (show (pure true : M Bool) s1 = .ok b st' from z1)
        exact ⟨true, rfl, by rw [if_pos rfl]; exact af F1 H1 k1 x1⟩
    | _ => exact (no_inv z1).elim
  | _ => exact (no_inv z1).elim
theorem s_and {es : Es} {es' : List Expr} {p : Pos} (hs : PE X (.BoolOp .And es' p) (tAnd_ X.K es)) : PE X (.BoolOp .And es' p) (tE X.K (.and es)) := PE.imp hs fun σ H Q hh => by
  obtain ⟨as, F, st, env, r, st', s, en, e, af⟩ := hh
  obtain ⟨b, s1, e1, z1⟩ := bind_inv (show (evAnd es env >>= fun b => (pure (R.dat (.bl b)) : M R)) st = .ok r st' from e)
  obtain ⟨rfl, rfl⟩ := pure_inv z1
  exact ⟨as, F, st, env, b, st', s, en, e1, fun F1 H1 k1 x1 => af (.bl b) F1 H1 k1 x1 (.dat (.bl b)) trivial⟩
theorem s_or {es : Es} {es' : List Expr} {p : Pos} (hs : PE X (.BoolOp .Or es' p) (tOr_ X.K es)) : PE X (.BoolOp .Or es' p) (tE X.K (.or es)) := PE.imp hs fun σ H Q hh => by
  obtain ⟨as, F, st, env, r, st', s, en, e, af⟩ := hh
  obtain ⟨b, s1, e1, z1⟩ := bind_inv (show (evOr es env >>= fun b => (pure (R.dat (.bl b)) : M R)) st = .ok r st' from e)
  obtain ⟨rfl, rfl⟩ := pure_inv z1
  exact ⟨as, F, st, env, b, st', s, en, e1, fun F1 H1 k1 x1 => af (.bl b) F1 H1 k1 x1 (.dat (.bl b)) trivial⟩
/-! ### tests -/
theorem s_val {a : E} {a' : Expr} (h : plainX a' = true) (ha : PE X a' (tE X.K a)) : PT X a' (tT X.K (.val a)) := PT.imp (pt_truth ha (plain_of h)) fun σ H Q hh => by
  obtain ⟨as, F, st, env, b, st', s, en, e, af⟩ := hh
  obtain ⟨ra, s1, e1, z1⟩ := bind_inv (show (evE a env >>= fun r => peek r >>= fun d => truth d) st = .ok b st' from e)
  obtain ⟨d, s2, e2, z2⟩ := bind_inv z1
  refine ⟨as, F, st, env, ra, s1, s, en, e1, fun v F1 H1 k1 x1 r1 f1 => ?_⟩
  obtain ⟨rfl, v1⟩ := peek_ok k1 r1 e2
  obtain ⟨t1, rfl⟩ := v1.tru k1.sub z2
  exact ⟨b, t1, af F1 H1 k1 x1⟩
theorem s_notT {t : T} {a' : Expr} {p : Pos} (ht : PT X a' (tT X.K t)) : PT X (.UnaryOp .Not a' p) (tT X.K (.not t)) := PT.imp (pt_not ht) fun σ H Q hh => by
  obtain ⟨as, F, st, env, b, st', s, en, e, af⟩ := hh
  obtain ⟨b1, s1, e1, z1⟩ := bind_inv (show (evT t env >>= fun b => (pure (!b) : M Bool)) st = .ok b st' from e)
  obtain ⟨rfl, rfl⟩ := pure_inv z1
  exact ⟨as, F, st, env, b1, st', s, en, e1, fun F1 H1 k1 x1 => af F1 H1 k1 x1⟩
theorem tand_one {t : T} {a' : Expr} {p : Pos} (ht : PT X a' (tT X.K t)) : PW X (.BoolOp .And [a'] p) (tTAnd X.K (.cons t .nil)) := PW.imp (pw_and1 ht) fun σ H Q hh => by
  obtain ⟨as, F, st, env, b, st', s, en, e, af⟩ := hh
  obtain ⟨b1, s1, e1, z1⟩ := bind_inv (show (evT t env >>= fun b => if b then evTAnd .nil env else pure false) st = .ok b st' from e)
  refine ⟨as, F, st, env, b1, s1, s, en, e1, fun F1 H1 k1 x1 => ?_⟩
  cases b1 with
  | true =>
    obtain ⟨rfl, rfl⟩ := pure_inv (show (pure true : M Bool) s1 = .ok b st' from z1)
    exact af F1 H1 k1 x1
  | false =>
    obtain ⟨rfl, rfl⟩ := pure_inv (show (pure false : M Bool) s1 = .ok b st' from z1)
    exact af F1 H1 k1 x1
theorem tand_cons {t : T} {ts : Ts} {a' b' : Expr} {r' : List Expr} {p : Pos} (ht : PT X a' (tT X.K t)) (hs : PW X (.BoolOp .And (b' :: r') p) (tTAnd X.K ts)) : PW X (.BoolOp .And (a' :: b' :: r') p) (tTAnd X.K (.cons t ts)) := PW.imp (pw_and ht hs) fun σ H Q hh => by
  obtain ⟨as, F, st, env, b, st', s, en, e, af⟩ := hh
  obtain ⟨b1, s1, e1, z1⟩ := bind_inv (show (evT t env >>= fun b => if b then evTAnd ts env else pure false) st = .ok b st' from e)
  refine ⟨as, F, st, env, b1, s1, s, en, e1, fun F1 H1 k1 x1 => ?_⟩
  cases b1 with
  | true =>
    rw [if_pos rfl]
    exact ⟨as, F1, s1, env, b, st', k1, en.ext x1, z1, fun F2 H2 k2 x2 => af F2 H2 k2 (x1.trans s.len k1.len x2)⟩
  | false =>
    obtain ⟨rfl, rfl⟩ := pure_inv (show (pure false : M Bool) s1 = .ok b st' from z1)
    rw [if_neg Bool.false_ne_true]
    exact af F1 H1 k1 x1
theorem tor_one {t : T} {a' : Expr} {p : Pos} (ht : PT X a' (tT X.K t)) : PW X (.BoolOp .Or [a'] p) (tTOr X.K (.cons t .nil)) := PW.imp (pw_or1 ht) fun σ H Q hh => by
  obtain ⟨as, F, st, env, b, st', s, en, e, af⟩ := hh
  obtain ⟨b1, s1, e1, z1⟩ := bind_inv (show (evT t env >>= fun b => if b then pure true else evTOr .nil env) st = .ok b st' from e)
  refine ⟨as, F, st, env, b1, s1, s, en, e1, fun F1 H1 k1 x1 => ?_⟩
  cases b1 with
  | true =>
    obtain ⟨rfl, rfl⟩ := pure_inv (show (pure true : M Bool) s1 = .ok b st' from z1)
    exact af F1 H1 k1 x1
  | false =>
    obtain ⟨rfl, rfl⟩ := pure_inv (show (pure false : M Bool) s1 = .ok b st' from z1)
    exact af F1 H1 k1 x1
theorem tor_cons {t : T} {ts : Ts} {a' b' : Expr} {r' : List Expr} {p : Pos} (ht : PT X a' (tT X.K t)) (hs : PW X (.BoolOp .Or (b' :: r') p) (tTOr X.K ts)) : PW X (.BoolOp .Or (a' :: b' :: r') p) (tTOr X.K (.cons t ts)) := PW.imp (pw_or ht hs) fun σ H Q hh => by
  obtain ⟨as, F, st, env, b, st', s, en, e, af⟩ := hh
  obtain ⟨b1, s1, e1, z1⟩ := bind_inv (show (evT t env >>= fun b => if b then pure true else evTOr ts env) st = .ok b st' from e)
  refine ⟨as, F, st, env, b1, s1, s, en, e1, fun F1 H1 k1 x1 => ?_⟩
  cases b1 with
  | false =>
    rw [if_neg Bool.false_ne_true]
    exact ⟨as, F1, s1, env, b, st', k1, en.ext x1, z1, fun F2 H2 k2 x2 => af F2 H2 k2 (x1.trans s.len k1.len x2)⟩
  | true =>
    obtain ⟨rfl, rfl⟩ := pure_inv (show (pure true : M Bool) s1 = .ok b st' from z1)
    rw [if_pos rfl]
    exact af F1 H1 k1 x1
theorem s_cmpT {op : Cop} {a b : E} {e' : Expr} (x : XOk c kn k X) (h : agT c (.cmp op a b) e' = true)
    (ha : ∀ a', agE c a a' = true → PE X a' (tE X.K a)) (hb : ∀ b', agE c b b' = true → PE X b' (tE X.K b)) : PT X e' (tT X.K (.cmp op a b)) := by
  cases e' with
  | Compare a' ops bs p =>
    match ops, bs, h with
    | [op'], [b'], h =>
      obtain ⟨h1, h⟩ := b2 (show (copB op op' && (notSet b' && (agE c a a' && agE c b b'))) = true from h)
      obtain ⟨h0, h⟩ := b2 h
      obtain ⟨h2, h3⟩ := b2 h
      refine PT.imp (pt_cmpR (op_cmp h1 x.units) (ha a' h2) (hb b' h3) (marks_of h0)) fun σ H Q hh => ?_
      obtain ⟨as, F, st, env, b, st', s, en, e, af⟩ := hh
      refine two_ops (Q := fun _ _ => True) (f := fun p q => cmpop op p q) s en e fun v w F2 H2 st2 p q k2 x2 v1 v2 e5 => ?_
      have e8 := cmp_st e5
      subst e8
      exact ⟨as, F2, _, p, q, b, _, k2, v1, v2, e5, b, rfl, af F2 H2 k2 x2⟩
    | [], _, h => exact absurd h Bool.false_ne_true
    | [_], [], h => exact absurd h Bool.false_ne_true
    | [_], _ :: _ :: _, h => exact absurd h Bool.false_ne_true
    | _ :: _ :: _, _, h => exact absurd h Bool.false_ne_true
  | _ => exact absurd h Bool.false_ne_true
theorem s_chainT {op op2 : Cop} {a b d : E} {e' : Expr} (x : XOk c kn k X) (h : agT c (.chain op op2 a b d) e' = true)
    (ha : ∀ a', agE c a a' = true → PE X a' (tE X.K a)) (hb : ∀ b', agE c b b' = true → PE X b' (tE X.K b)) (hd : ∀ b', agE c d b' = true → PE X b' (tE X.K d)) : PT X e' (tT X.K (.chain op op2 a b d)) := by
  cases e' with
  | Compare a' ops bs p =>
    match ops, bs, h with
    | [p1, p2], [b', d'], h =>
      obtain ⟨h1, h⟩ := b2 (show (copB op p1 && (copB op2 p2 && (notSet d' && (agE c a a' && (agE c b b' && agE c d d'))))) = true from h)
      obtain ⟨h2, h⟩ := b2 h
      obtain ⟨h3, h⟩ := b2 h
      obtain ⟨h4, h⟩ := b2 h
      obtain ⟨h5, h6⟩ := b2 h
      refine PT.imp (pt_chain (op_cmp h1 x.units) (op_cmp h2 x.units) (ha a' h4) (hb b' h5) (hd d' h6) (marks2 h3)) fun σ H Q hh => ?_
      obtain ⟨as, F, st, env, r, st', s, en, e, af⟩ := hh
      have e' : (evE a env >>= fun x => evE b env >>= fun y => peek x >>= fun p => peek y >>= fun q => cmpop op p q >>= fun r => if r then (evE d env >>= fun z => peek y >>= fun q' => peek z >>= fun t => cmpop op2 q' t >>= fun b => (pure b : M Bool)) else (pure false : M Bool)) st = .ok r st' := by
        refine Eq.trans (congrFun ?_ st) e
        refine congrArg (evE a env >>= ·) (funext fun x => congrArg (evE b env >>= ·) (funext fun y => congrArg (peek x >>= ·) (funext fun p => congrArg (peek y >>= ·) (funext fun q => congrArg (cmpop op p q >>= ·) (funext fun r => ?_)))))
        cases r with
        | false => rfl
        | true => exact congrArg (evE d env >>= ·) (funext fun z => congrArg (peek y >>= ·) (funext fun q' => congrArg (peek z >>= ·) (funext fun t => funext fun u => by
            show M.bind (cmpop op2 q' t) M.pure u = _
            unfold M.bind M.pure
            cases cmpop op2 q' t u <;> rfl)))
      refine chain_run (Q := fun z H3 => ∃ k, z = .bl k ∧ Q k H3) (g := fun b => (pure b : M Bool)) s en e' fun F2 H2 st2 b k2 x2 z => ?_
      obtain ⟨rfl, rfl⟩ := pure_inv z
      exact ⟨_, rfl, af F2 H2 k2 x2⟩
    | [], _, h => exact absurd h Bool.false_ne_true
    | [_], _, h => exact absurd h Bool.false_ne_true
    | [_, _], [], h => exact absurd h Bool.false_ne_true
    | [_, _], [_], h => exact absurd h Bool.false_ne_true
    | [_, _], _ :: _ :: _ :: _, h => exact absurd h Bool.false_ne_true
    | _ :: _ :: _ :: _, _, h => exact absurd h Bool.false_ne_true
  | _ => exact absurd h Bool.false_ne_true
end
end DB
set_option maxHeartbeats 4000000
/-! enumerate over a tuple -/
namespace DB
open PySem PySem.Spec L2 PyProof.Rows
section
variable {prog : Program} {w : World} {A : Around} {E : Value → Shared → Prop} {s : Shared}
theorem enumNewT (t : Addr) (vs : Array Value) (n : Nat) (dd : Option Addr) (sl : Array (Option Value)) :
    Meets (Builtin.«enumerate.__new__» ⟨[.type "enumerate", .ref t], []⟩) (fun _ R s => s.heap.get? t = some { cls := .type "tuple", dict := dd, data := .seq vs n, slots := sl } ∧
      R (.ok (.ret (.ref (s.heap.push { cls := .type "tuple_iterator", data := .fields #[.ref t, .int 0 0] }).objs.size)))
        { s with heap := (s.heap.push { cls := .type "tuple_iterator", data := .fields #[.ref t, .int 0 0] }).push { cls := .type "enumerate", data := .fields #[.none, .bool false, .ref s.heap.objs.size, rawInt 0, .none, .none] } }) :=
  .of_wp fun prog w A R s h => by
    obtain ⟨hp, g, d, tk, os⟩ := s
    obtain ⟨ht, h⟩ := h
    have hsub := sub_enumerate
    have hT : Heap.IsTuple (Shared.heap ⟨hp, g, d, tk, os⟩) t vs := ⟨_, ht, rfl, n, rfl⟩
    wp_walk using AutoSeq1.wpAny_loadPart' ht
    refine wpAny_stack_any fun st => wpAny_pure ?_
    split
    · rename_i c _ _ _ _ _
      cases (c == Value.type "enumerate")
      · wp_walk using AutoSeq1.wpAny_loadPart' ht, wpAny_pyIter_tuple hT
        exact ⟨_, rfl, h⟩
      · wp_walk using AutoSeq1.wpAny_loadPart' ht, wpAny_pyIter_tuple hT
        exact ⟨_, rfl, h⟩
    · wp_walk using AutoSeq1.wpAny_loadPart' ht, wpAny_pyIter_tuple hT
      exact ⟨_, rfl, h⟩
theorem call_enumT {t : Addr} {vs : Array Value} {Q : Value → Shared → Prop} (hT : s.heap.IsTuple t vs)
    (h : ∀ h', IsEnum h' (s.heap.objs.size + 1) s.heap.objs.size 0 .none → h'.IsTupleIter s.heap.objs.size t 0 → h'.objs.size = s.heap.objs.size + 2 →
      (∀ b o, s.heap.get? b = some o → h'.get? b = some o) → Q (.ref (s.heap.objs.size + 1)) { s with heap := h' }) :
    wpAny (model prog w) A (call (.type "enumerate") [.ref t]) Q E s := by
  obtain ⟨⟨c, dd, dt, sl⟩, ht, hc, n, hd⟩ := hT
  replace hc : c = .type "tuple" := hc
  replace hd : dt = .seq vs n := hd
  subst hc hd
  refine callType_new F.called_enumerate (by decide) (F.typeCall_enumerate_1 _) (F.newCall_enumerate_1 _) (fun obj => F.args_object_init_2 obj _) F.entry_enumerate_new
    (enumNewT t vs n dd sl) ⟨ht, ?_⟩
  have hz : (s.heap.push { cls := .type "tuple_iterator", data := .fields #[.ref t, .int 0 0] }).objs.size = s.heap.objs.size + 1 := Heap.size_push ..
  show _ ∧ _
  rw [hz]
  have he : IsEnum ((s.heap.push { cls := .type "tuple_iterator", data := .fields #[.ref t, .int 0 0] }).push
      { cls := .type "enumerate", data := .fields #[.none, .bool false, .ref s.heap.objs.size, rawInt 0, .none, .none] }) (s.heap.objs.size + 1) s.heap.objs.size 0 .none := by
    have q := Heap.get?_push_size (s.heap.push { cls := .type "tuple_iterator", data := .fields #[.ref t, .int 0 0] })
      (o := { cls := .type "enumerate", data := .fields #[.none, .bool false, .ref s.heap.objs.size, rawInt 0, .none, .none] }) rfl
    rw [hz] at q
    exact q
  exact ⟨⟨_, he, rfl⟩, h _ he ⟨_, Heap.get?_push_of_some _ (Heap.get?_push_size _ rfl), rfl, rfl⟩ (by rw [Heap.size_push, hz]) fun b o x => Heap.get?_push_of_some _ (Heap.get?_push_of_some _ x)⟩
end
/-- the tuple at a, its items numbered, in new pairs -/
def IteT (K : PySem.W.Frag) (a : Addr) : L2.It :=
  ⟨fun i H => ∃ (xs : List V) (x : V), SqT K H a xs ∧ xs[i]? = some x, fun i H v H' => ∃ T x, v = .ref T ∧ H T = none ∧ H' = upd H T (.tup [.int (i : Nat), x]) ∧ ∀ xs, SqT K H a xs → xs[i]? = some x, fun i H => ∃ xs : List V, SqT K H a xs ∧ xs.length = i⟩
theorem turn_enumT {P : Program} {w : World} {K : PySem.W.Frag} {elts : List Expr} {kk : Nat} {tpos : Pos} (a e it : Addr) (hait : a ≠ it) :
    Turn P w K (.Tuple elts kk tpos) (IteT K a) [e, it] e (fun i h => (∃ old, IsEnum h e it ((i : Nat) : Int) old) ∧ h.IsTupleIter it a i ∧ e ≠ it ∧ a ≠ e) where
  mem := by simp
  obj := fun i h st b hb => by
    obtain ⟨⟨old, he⟩, ⟨o, ho, hc, hd⟩, _⟩ := st
    have e' : b = e ∨ b = it := by simpa using hb
    rcases e' with z | z
    · rw [z]
      exact ⟨_, he, fun v q => nomatch q⟩
    · rw [z]
      exact ⟨o, ho, fun v q => by rw [hd] at q; cases q⟩
  keep := fun i h h' st kp => let ⟨⟨old, he⟩, hi, hne⟩ := st; ⟨⟨old, kp e (by simp) _ he⟩, hi.at fun o q => kp it (by simp) o q, hne⟩
  item := by
    intro X hP hw hK hc i pins s σ H E I hf st hg
    subst hP hw hK
    obtain ⟨⟨old, he⟩, hit, hne, hae⟩ := st
    obtain ⟨xs, x, hq, hx⟩ := hg
    obtain ⟨its, rv, p, hz⟩ := I.tuple hq
    obtain ⟨u, hu, ru⟩ := rv.get hx
    have hel : e < s.heap.objs.size := Heap.lt_size he
    have hil : it < s.heap.objs.size := by obtain ⟨_, q, _⟩ := hit; exact Heap.lt_size q
    have hlt : i < its.toArray.size := by
      have := (List.getElem?_eq_some_iff.mp hu).1
      simpa using this
    have hd' : X.A.in1.handled = none := I.ok.hd hc
    refine wpAny_pyNext_enum_itemD (Draws.tuple hd' it a hait its.toArray) he ⟨hit, show s.heap.IsTuple a its.toArray from p⟩ hlt hne (by simp only [List.mem_cons, not_or]; exact ⟨hne, Ne.symm hae, by simp⟩) fun z h' tk hzx ho hst' hT hsz hk => ?_
    have hz2 : z = u := by
      have e1 : its.toArray[i]? = some z := hzx
      have e2 : its.toArray[i]? = some u := by simpa using hu
      rw [e2] at e1
      exact (Option.some.inj e1).symm
    subst hz2
    refine ⟨_, rfl, wpAny_letOwnedTupleGo_enum (s := { s with heap := h', toks := tk + 1 }) ho fun h'' he' sb => ?_⟩
    have hT2 : h''.get? s.heap.objs.size = some { cls := .type "tuple", data := .seq #[.int i tk, z] } := (sb.2 _ (Nat.ne_of_gt hel)).trans hT
    have new : ObjOk X.prog X.w (upd H s.heap.objs.size (.tup [.int (i : Nat), x])) h'' s.heap.objs.size (.tup [.int (i : Nat), x]) :=
      ⟨by show 2 ≤ sizeLine; decide, [.int i tk, z], .cons ⟨_, rfl⟩ (.cons ru .nil), ⟨_, hT2, rfl, _, rfl⟩⟩
    have I1 : Inv X pins σ (upd H s.heap.objs.size (.tup [.int (i : Nat), x])) { s with heap := h'', toks := tk + 1 } :=
      I.turnedNew (ch := [e, it]) (fun b ob hb q => (sb.2 b (fun z => hb (by simp [z]))).trans (hk b ob (fun z => hb (by simp [z])) (fun z => hb (by simp [z])) q)) hf (Nat.le_refl _) new
    refine ⟨.ref s.heap.objs.size, _, I1, rfl, ⟨_, x, rfl, I.hok.fresh (Nat.le_refl _), rfl, fun ys hy => by rw [I.tuple_inj hy hq]; exact hx⟩, ⟨⟨z, ?_⟩, hst'.1.at fun o q => (sb.2 it (Ne.symm hne)).trans q, hne, hae⟩, fun b hb => ?_⟩
    · have e1 : ((i + 1 : Nat) : Int) = (i : Int) + 1 := by omega
      rw [e1]
      exact he'
    · have hb' : b < s.heap.objs.size := by
        have e' : b = e ∨ b = it := by simpa using hb
        rcases e' with z | z
        · rw [z]; exact hel
        · rw [z]; exact hil
      rw [upd_ne (Nat.ne_of_lt hb')]
      exact (hf b hb).1
  done := by
    intro X hP hw hK hc i pins s σ H E I hf st hg
    subst hP hw hK
    obtain ⟨⟨old, he⟩, hit, hne, hae⟩ := st
    obtain ⟨xs, hq, hx⟩ := hg
    obtain ⟨its, rv, p, hz⟩ := I.tuple hq
    obtain ⟨f0, f1, f2, f3, f4, f5⟩ := hf it (by simp)
    have hl := rv.length
    have hi : i = its.toArray.size := by simp; omega
    subst hi
    have hd' : X.A.in1.handled = none := I.ok.hd hc
    exact wpAny_pyNext_enum_endD (n := its.toArray.size) (Draws.tuple hd' it a hait its.toArray) he ⟨hit, show s.heap.IsTuple a its.toArray from p⟩ fun h' eb => ⟨rfl, I.turned (t' := s.toks) (fun b o hb q => eb b o hb q) f0 f1 f3 f4 f5⟩
  self := fun A i s Q E st h => let ⟨⟨_, he⟩, _⟩ := st; wpAny_pyIter_enum he h
/-- enumerate of a list, of a tuple -/
def iEnumA (K : PySem.W.Frag) (ta : TA) : TI := fun σ H R => ta σ H fun vs H1 => ∃ a, vs = [.ref a] ∧ ((∃ xs, SqL K H1 a xs ∧ R (Ite K a) H1) ∨ ∃ xs, SqT K H1 a xs ∧ R (IteT K a) H1)
theorem pi_enumA {X : Cx} {e : Expr} {ta : TA} {p pos tpos : Pos} {elts : List Expr} {kk : Nat} (hg : Gl X "enumerate") (hm : X.mg "enumerate" = none) (ha : PA X [e] ta) (hs : starEach [e] X.env = [(false, eval e X.env)]) :
    PI X (.Tuple elts kk tpos) (.Call (.Name "enumerate" p) [e] [] pos) (iEnumA X.K ta) := by
  refine ⟨fun pins s σ H R I h => ?_⟩
  refine Call_ (ld_blt I hg hm boot_enumerate (PyProof.Rows.callWith_type1 (thn (ha.run pos pins s σ H _ I h) fun us s1 ⟨vs, H1, I1, r1, q1⟩ => ?_) hs rfl))
  obtain ⟨a, ex, q1⟩ := q1
  subst ex
  cases r1 with
  | cons r rr =>
    cases rr
    cases r
    have fpo : ∀ b ∈ [s1.heap.objs.size + 1, s1.heap.objs.size], FpOk X pins H1 b := fun b hb => by
      have e' : b = s1.heap.objs.size + 1 ∨ b = s1.heap.objs.size := by simpa using hb
      have hle : s1.heap.objs.size ≤ b := by
        rcases e' with z | z
        · rw [z]; exact Nat.le_add_right _ _
        · rw [z]; exact Nat.le_refl _
      exact I1.fpOk hle (I1.hok.fresh hle)
    rcases q1 with ⟨xs, hq, q⟩ | ⟨xs, hq, q⟩
    · obtain ⟨its, rv, p', hz⟩ := I1.list hq
      refine call_enumerate_list p'.isList fun h' he hit hsz hk => wpAny_pyIter_enum he ?_
      have I2 : Inv X pins σ H1 { s1 with heap := h' } := I1.kept (t' := s1.toks) hk
      exact ⟨s1.heap.objs.size + 1, [s1.heap.objs.size + 1, s1.heap.objs.size], _, _, H1, rfl, I2, turn_enum a (s1.heap.objs.size + 1) s1.heap.objs.size, ⟨⟨.none, he⟩, hit, Nat.succ_ne_self _⟩, fpo, q⟩
    · obtain ⟨its, rv, p', hz⟩ := I1.tuple hq
      have hal : a < s1.heap.objs.size := p'.lt
      refine call_enumT (show s1.heap.IsTuple a its.toArray from p') fun h' he hit hsz hk => wpAny_pyIter_enum he ?_
      have I2 : Inv X pins σ H1 { s1 with heap := h' } := I1.kept (t' := s1.toks) hk
      exact ⟨s1.heap.objs.size + 1, [s1.heap.objs.size + 1, s1.heap.objs.size], _, _, H1, rfl, I2, turn_enumT a (s1.heap.objs.size + 1) s1.heap.objs.size (Nat.ne_of_lt hal), ⟨⟨.none, he⟩, hit, Nat.succ_ne_self _, Nat.ne_of_lt (Nat.lt_succ_of_lt hal)⟩, fpo, q⟩
end DB
set_option maxHeartbeats 4000000
namespace DB
open PySem PySem.Spec L2
section
variable {c : AC} {kn : Know} {k : Nat} {X : Cx}
/-! ### targets -/
theorem wipe_iff {σ σ' : L2.St} {is : List Nat} : L2.wipe σ' is = L2.wipe σ is ↔ (σ'.length = σ.length ∧ ∀ i, i ∉ is → σ'[i]? = σ[i]?) := by
  have g := fun τ => wipe_get τ L2.wipe (fun _ => rfl) (fun _ _ _ => rfl) is
  constructor
  · intro e
    refine ⟨?_, fun i hi => ?_⟩
    · have := congrArg List.length e
      rw [L2.wipe_length, L2.wipe_length] at this
      exact this
    · have e1 := congrArg (fun l => l[i]?) e
      simp only [g, if_neg hi] at e1
      exact e1
  · rintro ⟨hl, he⟩
    apply List.ext_getElem?
    intro i
    rw [g, g]
    by_cases hi : i ∈ is
    · rw [if_pos hi, if_pos hi]
      by_cases hlt : i < σ.length
      · rw [List.getElem?_eq_getElem hlt, List.getElem?_eq_getElem (by omega)]
        rfl
      · rw [List.getElem?_eq_none (by omega), List.getElem?_eq_none (by omega)]
    · rw [if_neg hi, if_neg hi]
      exact he i hi
theorem s_Tg_n {i : Nat} {e' : Expr} (x : XOk c kn k X) (h : agTg c (.n i) e' = true) : PG X e' (tTg X.K (.n i)) := by
  cases e' with
  | Name y p =>
    obtain ⟨h1, h2⟩ := b2 (show (decide (c.N[i]? = some y) && locB c.sc c.blk y) = true from h)
    obtain ⟨l1, l2⟩ := x.loc h2
    refine PG.imp (pg_name x.nd (by rw [x.N]; exact of_decide_eq_true h1) l1 l2) fun v σ H Q hh => ?_
    obtain ⟨as, F, st, env, d, env', st', s, en, dv, e, a⟩ := hh
    obtain ⟨rfl, rfl⟩ := pure_inv (show (pure (env.set i (some (.dat d))) : M Env) st = .ok env' st' from e)
    refine a (σ.set i (some v)) F H s .refl (en.set i (.inl ⟨d, rfl, dv⟩)) (wipe_iff.mpr ⟨by rw [List.length_set], fun j hj => ?_⟩)
    exact List.getElem?_set_ne fun z => hj (by rw [z]; exact List.mem_cons_self ..)
  | _ => exact absurd h Bool.false_ne_true
theorem agTgs_star : ∀ {ts : Tgs} {es' : List Expr}, agTgs c ts es' = true → ∀ e ∈ es', notStar e = true
  | .nil, [], _ => fun _ h => nomatch h
  | .nil, _ :: _, h => absurd h Bool.false_ne_true
  | .cons _ _, [], h => absurd h Bool.false_ne_true
  | .cons t ts, e' :: es', h => fun x hx => by
    have h : (notStar e' && (agTg c t e' && agTgs c ts es')) = true := h
    obtain ⟨h1, h⟩ := b2 h
    obtain ⟨h2, h3⟩ := b2 h
    rcases List.mem_cons.mp hx with rfl | hx
    · exact h1
    · exact agTgs_star h3 x hx
theorem assign_cons {e : Expr} {es : List Expr} {env : PySem.Env} (h : notStar e = true) : assignEach (e :: es) env = (false, assign e env) :: assignEach es env := by
  cases e <;> first | rfl | exact absurd h Bool.false_ne_true
theorem assign_len {env : PySem.Env} : ∀ {es : List Expr}, (∀ e ∈ es, notStar e = true) → (assignEach es env).length = es.length ∧ (assignEach es env).findIdx? (·.1) = none
  | [], _ => ⟨rfl, rfl⟩
  | e :: es, h => by
    obtain ⟨h1, h2⟩ := assign_len (env := env) (es := es) fun x hx => h x (List.mem_cons_of_mem _ hx)
    rw [assign_cons (h e (List.mem_cons_self ..))]
    refine ⟨by rw [List.length_cons, List.length_cons, h1], ?_⟩
    rw [List.findIdx?_cons, h2]
    rfl
def lenTgs : Tgs → Nat
  | .nil => 0
  | .cons _ ts => lenTgs ts + 1
theorem evTgs_len : ∀ {ts : Tgs} {ds : List D} {env env' : Env} {st st' : Sto}, evTgs ts ds env st = .ok env' st' → ds.length = lenTgs ts
  | .nil, [], _, _, _, _, _ => rfl
  | .nil, _ :: _, _, _, _, _, h => (no_inv h).elim
  | .cons _ _, [], _, _, _, _, h => (no_inv h).elim
  | .cons t ts, d :: ds, env, env', st, st', h => by
    obtain ⟨e1, s1, _, z1⟩ := bind_inv (show (evTg t d env >>= fun env' => evTgs ts ds env') st = .ok env' st' from h)
    exact congrArg Nat.succ (evTgs_len z1)
theorem agTgs_len : ∀ {ts : Tgs} {es' : List Expr}, agTgs c ts es' = true → es'.length = lenTgs ts
  | .nil, [], _ => rfl
  | .nil, _ :: _, h => absurd h Bool.false_ne_true
  | .cons _ _, [], h => absurd h Bool.false_ne_true
  | .cons t ts, e' :: es', h => by
    have h : (notStar e' && (agTg c t e' && agTgs c ts es')) = true := h
    obtain ⟨h1, h⟩ := b2 h
    obtain ⟨h2, h3⟩ := b2 h
    exact congrArg Nat.succ (agTgs_len h3)
theorem s_Tg_t {ts : Tgs} {e' : Expr} (x : XOk c kn k X) (h : agTg c (.t ts) e' = true) (hs : ∀ es', agTgs c ts es' = true → PGs X es' (tTgs X.K ts)) : PG X e' (tTg X.K (.t ts)) := by
  cases e' with
  | Tuple es' j p =>
    have h : agTgs c ts es' = true := h
    obtain ⟨l1, l2⟩ := assign_len (env := X.env) (agTgs_star h)
    refine PG.imp (pg_tup x.calm (hs es' h) l1 l2) fun v σ H Q hh => ?_
    obtain ⟨as, F, st, env, d, env', st', s, en, dv, e, a⟩ := hh
    cases d with
    | tup ds =>
      cases dv with
      | tup h1 h2 h3 => exact ⟨_, _, rfl, Same.seqT s.sub h1, by rw [h3.length, evTgs_len (show evTgs ts ds env st = .ok env' st' from e), agTgs_len h], as, F, st, env, ds, env', st', s, en, h3, e, a⟩
    | _ => exact (no_inv e).elim
  | _ => exact absurd h Bool.false_ne_true
theorem s_Tgs_nil : PGs X [] (tTgs X.K .nil) := PGs.imp pgs_nil fun vs σ H Q hh => by
  obtain ⟨as, F, st, env, ds, env', st', s, en, dv, e, a⟩ := hh
  cases ds with
  | nil =>
    cases dv
    obtain ⟨rfl, rfl⟩ := pure_inv (show (pure env : M Env) st = .ok env' st' from e)
    exact ⟨rfl, a σ F H s .refl en rfl⟩
  | cons _ _ => exact (no_inv e).elim
theorem s_Tgs_cons {t : Tg} {ts : Tgs} {e' : Expr} {es' : List Expr} (h0 : notStar e' = true) (ht : PG X e' (tTg X.K t)) (hs : PGs X es' (tTgs X.K ts)) : PGs X (e' :: es') (tTgs X.K (.cons t ts)) := by
  refine PGs.imp (pgs_cons ht hs (by rw [assign_cons h0]; rfl)) fun vs σ H Q hh => ?_
  obtain ⟨as, F, st, env, ds, env', st', s, en, dv, e, a⟩ := hh
  cases ds with
  | nil => exact (no_inv e).elim
  | cons d ds =>
    cases dv with
    | cons d1 d2 =>
      obtain ⟨env1, s1, e1, z1⟩ := bind_inv (show (evTg t d env >>= fun env' => evTgs ts ds env') st = .ok env' st' from e)
      refine ⟨_, _, rfl, as, F, st, env, d, env1, s1, s, en, d1, e1, fun σ1 F1 H1 k1 x1 en1 w1 => ?_⟩
      refine ⟨as, F1, s1, env1, ds, env', st', k1, en1, d2.mono x1.f, z1, fun σ2 F2 H2 k2 x2 en2 w2 => a σ2 F2 H2 k2 (x1.trans s.len k1.len x2) en2 ?_⟩
      obtain ⟨l1, g1⟩ := wipe_iff.mp w1
      obtain ⟨l2, g2⟩ := wipe_iff.mp w2
      refine wipe_iff.mpr ⟨l2.trans l1, fun i hi => ?_⟩
      have hi' : i ∉ t.slots ∧ i ∉ ts.slots := by
        have : i ∉ t.slots ++ ts.slots := hi
        simpa [List.mem_append, not_or] using this
      rw [g2 i hi'.2, g1 i hi'.1]
/-- a live cell's content changes -/
theorem StOk.write {K : PySem.W.Frag} {F H : Hp} {as : List Addr} {st : Sto} (s : StOk K F H as st) {n : Nat} {a : Addr} {d d' : D} {o : HO} (ha : as[n]? = some a) (hc : st[n]? = some ⟨d, true⟩) (hn : CelOk K F (L2.upd H a o) a d') :
    StOk K F (L2.upd H a o) as (st.set n ⟨d', true⟩) ∧ Ext [] as F H st as F (L2.upd H a o) (st.set n ⟨d', true⟩) := by
  obtain ⟨f, c1, u1⟩ := s.live n a d ha hc
  have hlt : n < st.length := (List.getElem?_eq_some_iff.mp hc).1
  refine ⟨⟨fun b ob hb => ?_, by rw [List.length_set]; exact s.len, fun m b e h1 h2 => ?_, fun m b e h1 h2 => ?_⟩, ⟨⟨[], by simp, fun _ h => nomatch h⟩, Same.refl F, fun b hb z => ?_, fun b ob hb n' _ => ⟨?_, id⟩, fun m e _ h2 => ?_, by rw [List.length_set]; exact Nat.le_refl _⟩⟩
  · have ne : b ≠ a := fun z => by rw [z, f] at hb; cases hb
    rw [upd_ne ne]
    exact s.sub b ob hb
  · by_cases hm : n = m
    · subst hm
      rw [List.getElem?_set_self hlt] at h2
      cases h2
      rw [ha] at h1
      cases h1
      exact ⟨f, hn, u1⟩
    · rw [List.getElem?_set_ne hm] at h2
      obtain ⟨f2, c2, u2⟩ := s.live m b e h1 h2
      have ne : b ≠ a := fun z => hm (u1 m (z ▸ h1)).symm
      exact ⟨f2, c2.keep (upd_ne ne) (Same.refl F), u2⟩
  · by_cases hm : n = m
    · subst hm
      rw [List.getElem?_set_self hlt] at h2
      cases h2
    · rw [List.getElem?_set_ne hm] at h2
      exact s.froz m b e h1 h2
  · unfold L2.upd at z
    split at z
    · cases z
    · exact hb z
  · have ne : b ≠ a := fun q => n' n _ hc (q ▸ ha)
    rw [upd_ne ne]
    exact hb
  · by_cases hm : n = m
    · subst hm
      exact ⟨_, hc⟩
    · rw [List.getElem?_set_ne hm] at h2
      exact ⟨e, h2⟩
theorem live_inv {r : R} {n : Nat} {d : D} {st st' : Sto} (h : live r st = .ok (n, d) st') : r = .cell n ∧ st' = st ∧ st[n]? = some ⟨d, true⟩ := by
  cases r with
  | cell c =>
    have h' : (match st[c]? with | some ⟨d, true⟩ => Res.ok (c, d) st | _ => .no) = .ok (n, d) st' := h
    split at h'
    · rename_i d0 e
      cases h'
      exact ⟨rfl, rfl, e⟩
    · cases h'
  | _ => exact (no_inv h).elim
def rSetK : V → V → V → Hp → (Hp → Prop) → Prop := fun o i v H Q => ∃ a H', o = .ref a ∧ DPut H a i v H' ∧ Q H'
theorem set_dK (hu : X.A.units + 1 < cLine) : PSet X rSetK := by
  intro pins s σ H o i v ov iv u Q I ro ri rv h
  obtain ⟨a, H', rfl, g, q⟩ := h
  cases ro
  exact d_setItem hu I g ri rv fun s' I' => ⟨H', I', q⟩
theorem PSet.or {t t' : TSet} (h : PSet X t) (h' : PSet X t') : PSet X (fun o i v H Q => t o i v H Q ∨ t' o i v H Q) := by
  intro pins s σ H o i v ov iv u Q I ro ri rv q
  rcases q with q | q
  · exact h pins s σ H o i v ov iv u Q I ro ri rv q
  · exact h' pins s σ H o i v ov iv u Q I ro ri rv q
theorem s_Tg_ix {a b : E} {e' : Expr} (x : XOk c kn k X) (h : agTg c (.ix a b) e' = true)
    (ha : ∀ a', agE c a a' = true → PE X a' (tE X.K a)) (hb : ∀ b', agE c b b' = true → PE X b' (tE X.K b)) : PG X e' (tTg X.K (.ix a b)) := by
  cases e' with
  | Subscript a' b' p =>
    obtain ⟨h1, h⟩ := b2 (show (notSlice b' && (agE c a a' && agE c b b')) = true from h)
    obtain ⟨h2, h3⟩ := b2 h
    refine PG.imp (pg_sub (ha a' h2) (hb b' h3) (PSet.or set_list (set_dK (Nat.lt_of_le_of_lt (by omega) x.units))) (fun v => by cases b' <;> first | rfl | exact absurd h1 Bool.false_ne_true)) fun v σ H Q hh => ?_
    obtain ⟨as, F, st, env, d, env', st', s, en, dv, e, af⟩ := hh
    obtain ⟨ra, s1, e1, z1⟩ := bind_inv (show (evE a env >>= fun x => evE b env >>= fun y => live x >>= fun q => ixSet q.1 q.2 y d env) st = .ok env' st' from e)
    obtain ⟨rb, s2, e2, z2⟩ := bind_inv z1
    obtain ⟨⟨n, q⟩, s3, e3, z3⟩ := bind_inv z2
    refine ⟨as, F, st, env, ra, s1, s, en, e1, fun v1 F1 H1 k1 x1 r1 f1 => ?_⟩
    refine ⟨as, F1, s1, env, rb, s2, k1, en.ext x1, e2, fun v2 F2 H2 k2 x2 r2 f2 => ?_⟩
    obtain ⟨rfl, rfl, hn⟩ := live_inv e3
    have z3 : ixSet n q rb d env s3 = .ok env' st' := z3
    have x12 : Ext [] as F H st as F2 H2 s3 := x1.trans s.len k1.len x2
    cases r1 with
    | @cell p1 _ hp =>
      cases q with
      | lst xs =>
        cases rb with
        | dat dj =>
          cases dj with
          | int j =>
            obtain ⟨xs', s4, e40, z4⟩ := bind_inv (show (M.opt (setAt xs j d) >>= fun xs' => write n (.lst xs') >>= fun _ => (pure env : M Env)) s3 = .ok env' st' from z3)
            obtain ⟨e4, rfl⟩ := opt_inv e40
            obtain ⟨_, s5, e5, z5⟩ := bind_inv z4
            obtain ⟨rfl, rfl⟩ := pure_inv z5
            have e5 : s4.set n ⟨.lst xs', true⟩ = st' := by cases e5; rfl
            subst e5
            obtain ⟨f0, c0, u0⟩ := k2.live n p1 _ hp hn
            cases c0 with
            | lst ho hl hd =>
              cases r2 with
              | dat r2 =>
                cases r2
                unfold setAt at e4
                cases q4 : ixN xs.length j with
                | none => rw [q4] at e4; cases e4
                | some m =>
                  rw [q4] at e4
                  cases e4
                  have hd' := hd.set m (dv.mono x12.f)
                  obtain ⟨k3, x3⟩ := k2.write (o := .lst _) hp hn (.lst upd_same (by rw [List.length_set]; exact hl) hd')
                  refine .inl ⟨p1, _, j, m, rfl, rfl, ho, by rw [hd.length]; exact q4, ?_⟩
                  exact af σ F2 _ k3 (x12.trans s.len k2.len x3) ((en.ext x12).ext x3) rfl
          | _ => exact (no_inv z3).elim
        | _ => exact (no_inv z3).elim
      | dct ks vs =>
        cases rb with
        | dat kd =>
          obtain ⟨_, s4, e4, z4⟩ := bind_inv (show (M.guard (keyOk kd && decide (ks.length < sizeLine)) >>= fun _ => write n (.dct (dputK ks kd) (dputV ks vs kd d)) >>= fun _ => (pure env : M Env)) s3 = .ok env' st' by cases kd <;> exact z3)
          obtain ⟨g, e41⟩ := guard_inv e4
          rw [e41] at z4
          obtain ⟨g1, g2⟩ := b2 g
          obtain ⟨_, s5, e5, z5⟩ := bind_inv z4
          obtain ⟨rfl, e51⟩ := pure_inv z5
          have e5 : s3.set n ⟨.dct (dputK ks kd) (dputV ks vs kd d), true⟩ = s5 := by cases e5; rfl
          rw [← e51] at e5
          subst e5
          obtain ⟨f0, c0, u0⟩ := k2.live n p1 _ hp hn
          cases c0 with
          | @dct kvs _ _ ho hl hk hnd hd =>
            subst hk
            cases r2 with
            | dat r2 =>
              obtain ⟨k, rfl, rfl⟩ := VOk.key (.dat (H := H2) r2) g1
              obtain ⟨i1, i2, i3, _⟩ := dput_rel (k := k) (dv.mono x12.f) hnd hd
              have g2 : kvs.length < sizeLine := by rw [List.length_map] at g2; exact of_decide_eq_true g2
              have hlen : (putK kvs k v).length ≤ sizeLine := by have := length_putK kvs k v; omega
              obtain ⟨k3, x3⟩ := k2.write (o := .dK (putK kvs k v)) hp hn (.dct upd_same hlen i1 i3 i2)
              exact .inr ⟨p1, _, rfl, DPut.k ho g2, af σ F2 _ k3 (x12.trans s.len k2.len x3) ((en.ext x12).ext x3) rfl⟩
        | _ => exact (no_inv z3).elim
      | _ => exact (no_inv z3).elim
  | _ => exact absurd h Bool.false_ne_true

/-! ### what is walked -/
/-- a list, a tuple, whichever it is -/
def iSeq (K : PySem.W.Frag) (tl : TE) : TI := fun σ H R => tl σ H fun x H1 => ∃ a, x = .ref a ∧ (((∃ xs, SqL K H1 a xs) ∧ R (Itl K a) H1) ∨ ((∃ xs, SqT K H1 a xs) ∧ R (Itt K a) H1))
theorem pi_seq {tg l : Expr} {tl : TE} (hl : PE X l tl) : PI X tg l (iSeq X.K tl) := by
  refine ⟨fun pins s σ H R I h => ?_⟩
  refine thn (hl.run pins s σ H _ I h) fun v s1 ⟨y, H1, I1, r1, q1⟩ => ?_
  obtain ⟨a, e, q1⟩ := q1
  subst e
  cases r1
  have fpo : ∀ b ∈ [s1.heap.objs.size], FpOk X pins H1 b := fun b hb => by
    have e : b = s1.heap.objs.size := by simpa using hb
    subst e
    exact I1.fpOk (Nat.le_refl _) (I1.hok.fresh (Nat.le_refl _))
  rcases q1 with ⟨⟨xs, hq⟩, q⟩ | ⟨⟨xs, hq⟩, q⟩
  · obtain ⟨its, rv, p, hz⟩ := I1.list hq
    refine wpAny_pyIter_list p.isList ?_
    exact ⟨s1.heap.objs.size, [s1.heap.objs.size], _, _, H1, rfl, I1.kept (t' := s1.toks) fun b o e => Heap.get?_push_of_some _ e, turn_list a _, ⟨_, Heap.get?_push_size _ rfl, rfl, rfl⟩, fpo, q⟩
  · obtain ⟨its, rv, p, hz⟩ := I1.tuple hq
    refine wpAny_pyIter_tuple (show s1.heap.IsTuple a its.toArray from p) ?_
    exact ⟨s1.heap.objs.size, [s1.heap.objs.size], _, _, H1, rfl, I1.kept (t' := s1.toks) fun b o e => Heap.get?_push_of_some _ e, turn_tuple a _, ⟨_, Heap.get?_push_size _ rfl, rfl, rfl⟩, fpo, q⟩
theorem yl_list {K : PySem.W.Frag} {F0 : Hp} {a : Addr} {xs : List V} {ds : List D} (h : SqL K F0 a xs) (r : DsOk K F0 xs ds) : Yl K (Itl K a) F0 ds := by
  intro i F H as st s0 s
  have hq : SqL K H a xs := s.sub.seq (s0.seq h)
  refine ⟨fun e => ⟨xs, hq, by rw [r.length, e]; exact Nat.le_refl _⟩, fun d hd => ?_⟩
  obtain ⟨v, hv, dv⟩ := r.get hd
  refine ⟨⟨xs, v, hq, hv⟩, fun y H' hy => ?_⟩
  obtain ⟨rfl, hy⟩ := hy
  have := hy xs hq
  rw [hv] at this
  cases this
  exact ⟨F, s, .refl, dv.mono s0⟩
theorem yl_tuple {K : PySem.W.Frag} {F0 : Hp} {a : Addr} {xs : List V} {ds : List D} (h : SqT K F0 a xs) (r : DsOk K F0 xs ds) : Yl K (Itt K a) F0 ds := by
  intro i F H as st s0 s
  have hq : SqT K H a xs := Same.seqT s.sub (Same.seqT s0 h)
  refine ⟨fun e => ⟨xs, hq, by rw [r.length, e]; exact Nat.le_refl _⟩, fun d hd => ?_⟩
  obtain ⟨v, hv, dv⟩ := r.get hd
  refine ⟨⟨xs, v, hq, hv⟩, fun y H' hy => ?_⟩
  obtain ⟨rfl, hy⟩ := hy
  have := hy xs hq
  rw [hv] at this
  cases this
  exact ⟨F, s, .refl, dv.mono s0⟩
theorem rngD_get : ∀ {n : Nat} {lo : Int} {i : Nat} {d : D}, (rngD lo n)[i]? = some d → i < n ∧ d = .int (lo + i)
  | 0, _, _, _, h => by simp [rngD] at h
  | n + 1, lo, 0, d, h => by
    have h : some (D.int lo) = some d := h
    cases h
    exact ⟨Nat.succ_pos _, by simp⟩
  | n + 1, lo, i + 1, d, h => by
    obtain ⟨h1, h2⟩ := rngD_get (n := n) (lo := lo + 1) (i := i) (d := d) h
    refine ⟨Nat.succ_lt_succ h1, ?_⟩
    rw [h2]
    congr 1
    omega
theorem rngD_len : ∀ {n : Nat} {lo : Int}, (rngD lo n).length = n
  | 0, _ => rfl
  | n + 1, lo => congrArg Nat.succ rngD_len
theorem yl_rng {K : PySem.W.Frag} {F0 : Hp} {lo : Int} {n : Nat} : Yl K (Itr lo n) F0 (rngD lo n) := by
  intro i F H as st s0 s
  refine ⟨fun e => by rw [rngD_len] at e; exact Nat.le_of_eq e.symm, fun d hd => ?_⟩
  obtain ⟨h1, rfl⟩ := rngD_get hd
  refine ⟨h1, fun y H' hy => ?_⟩
  obtain ⟨rfl, rfl⟩ := hy
  exact ⟨F, s, .refl, .int _⟩
theorem enumD_get : ∀ {ds : List D} {j : Int} {i : Nat} {d : D}, (enumD j ds)[i]? = some d → ∃ d', ds[i]? = some d' ∧ d = .tup [.int (j + i), d']
  | [], _, _, _, h => by simp [enumD] at h
  | d0 :: ds, j, 0, d, h => by
    have h : some (D.tup [.int j, d0]) = some d := h
    cases h
    exact ⟨d0, rfl, by simp⟩
  | d0 :: ds, j, i + 1, d, h => by
    obtain ⟨d', h1, h2⟩ := enumD_get (ds := ds) (j := j + 1) (i := i) (d := d) h
    refine ⟨d', h1, ?_⟩
    rw [h2]
    congr 3
    omega
theorem enumD_len : ∀ {ds : List D} {j : Int}, (enumD j ds).length = ds.length
  | [], _ => rfl
  | _ :: ds, _ => congrArg Nat.succ enumD_len
/-- a new pair handed out -/
theorem yl_pair {K : PySem.W.Frag} {F H : Hp} {as : List Addr} {st : Sto} {T : Addr} {x y : V} {dx dy : D} (s : StOk K F H as st) (hT : H T = none) (hx : DOk K F x dx) (hy : DOk K F y dy) :
    ∃ F', StOk K F' (L2.upd H T (.tup [x, y])) as st ∧ Ext [] as F H st as F' (L2.upd H T (.tup [x, y])) st ∧ DOk K F' (.ref T) (.tup [dx, dy]) := by
  have fp : F T = none := by
    cases q : F T with
    | none => rfl
    | some u => rw [s.sub T u q] at hT; cases hT
  exact ⟨_, s.updF hT, Ext.updF s hT, .tup (SqT.of upd_same) (by show 2 ≤ sizeLine; decide) (.cons (hx.mono (Same.updB fp)) (.cons (hy.mono (Same.updB fp)) .nil))⟩
theorem yl_enumL {K : PySem.W.Frag} {F0 : Hp} {a : Addr} {xs : List V} {ds : List D} (h : SqL K F0 a xs) (r : DsOk K F0 xs ds) : Yl K (Ite K a) F0 (enumD 0 ds) := by
  intro i F H as st s0 s
  have hq : SqL K H a xs := s.sub.seq (s0.seq h)
  refine ⟨fun e => ⟨xs, hq, by rw [r.length, e, enumD_len]; exact Nat.le_refl _⟩, fun d hd => ?_⟩
  obtain ⟨d', hd', rfl⟩ := enumD_get hd
  obtain ⟨v, hv, dv⟩ := r.get hd'
  refine ⟨⟨xs, v, hq, hv⟩, fun y H' hy => ?_⟩
  obtain ⟨T, z, rfl, hT, rfl, hz⟩ := hy
  have := hz xs hq
  rw [hv] at this
  cases this
  have e0 : (0 : Int) + (i : Int) = (i : Nat) := by omega
  rw [e0]
  exact yl_pair s hT (.int _) (dv.mono s0)
theorem yl_enumT {K : PySem.W.Frag} {F0 : Hp} {a : Addr} {xs : List V} {ds : List D} (h : SqT K F0 a xs) (r : DsOk K F0 xs ds) : Yl K (IteT K a) F0 (enumD 0 ds) := by
  intro i F H as st s0 s
  have hq : SqT K H a xs := Same.seqT s.sub (Same.seqT s0 h)
  refine ⟨fun e => ⟨xs, hq, by rw [r.length, e, enumD_len]⟩, fun d hd => ?_⟩
  obtain ⟨d', hd', rfl⟩ := enumD_get hd
  obtain ⟨v, hv, dv⟩ := r.get hd'
  refine ⟨⟨xs, v, hq, hv⟩, fun y H' hy => ?_⟩
  obtain ⟨T, z, rfl, hT, rfl, hz⟩ := hy
  have := hz xs hq
  rw [hv] at this
  cases this
  have e0 : (0 : Int) + (i : Int) = (i : Nat) := by omega
  rw [e0]
  exact yl_pair s hT (.int _) (dv.mono s0)
theorem zipD_get : ∀ {as bs : List D} {i : Nat} {d : D}, (zipD as bs)[i]? = some d → ∃ a b, as[i]? = some a ∧ bs[i]? = some b ∧ d = .tup [a, b]
  | [], _, _, _, h => by simp [zipD] at h
  | _ :: _, [], _, _, h => by simp [zipD] at h
  | a :: as, b :: bs, 0, d, h => by
    have h : some (D.tup [a, b]) = some d := h
    cases h
    exact ⟨a, b, rfl, rfl, rfl⟩
  | a :: as, b :: bs, i + 1, d, h => zipD_get (as := as) (bs := bs) (i := i) h
theorem zipD_len : ∀ {as bs : List D}, (zipD as bs).length = min as.length bs.length
  | [], bs => by simp [zipD]
  | _ :: _, [] => by simp [zipD]
  | a :: as, b :: bs => by
    show (zipD as bs).length + 1 = min (as.length + 1) (bs.length + 1)
    rw [zipD_len]
    omega
theorem yl_zipL {K : PySem.W.Frag} {F0 : Hp} {a b : Addr} {xs ys : List V} {ds es : List D} (h : SqL K F0 a xs) (r : DsOk K F0 xs ds) (h' : SqL K F0 b ys) (r' : DsOk K F0 ys es) : Yl K (Itz K a b) F0 (zipD ds es) := by
  intro i F H as st s0 s
  have hq : SqL K H a xs := s.sub.seq (s0.seq h)
  have hq' : SqL K H b ys := s.sub.seq (s0.seq h')
  refine ⟨fun e => ⟨xs, ys, hq, hq', ?_⟩, fun d hd => ?_⟩
  · rw [zipD_len] at e
    rw [r.length, r'.length]
    omega
  · obtain ⟨d1, d2, e1, e2, rfl⟩ := zipD_get hd
    obtain ⟨v, hv, dv⟩ := r.get e1
    obtain ⟨w, hw, dw⟩ := r'.get e2
    refine ⟨⟨xs, ys, v, w, hq, hq', hv, hw⟩, fun y H' hy => ?_⟩
    obtain ⟨T, z1, z2, rfl, hT, rfl, hz1, hz2⟩ := hy
    have q1 := hz1 xs hq
    have q2 := hz2 ys hq'
    rw [hv] at q1
    rw [hw] at q2
    cases q1
    cases q2
    exact yl_pair s hT (dv.mono s0) (dw.mono s0)
theorem yl_zipT {K : PySem.W.Frag} {F0 : Hp} {a b : Addr} {xs ys : List V} {ds es : List D} (h : SqT K F0 a xs) (r : DsOk K F0 xs ds) (h' : SqT K F0 b ys) (r' : DsOk K F0 ys es) : Yl K (RZ.ItzT K a b) F0 (zipD ds es) := by
  intro i F H as st s0 s
  have hq : SqT K H a xs := Same.seqT s.sub (Same.seqT s0 h)
  have hq' : SqT K H b ys := Same.seqT s.sub (Same.seqT s0 h')
  refine ⟨fun e => ⟨xs, ys, hq, hq', ?_⟩, fun d hd => ?_⟩
  · rw [zipD_len] at e
    rw [r.length, r'.length]
    omega
  · obtain ⟨d1, d2, e1, e2, rfl⟩ := zipD_get hd
    obtain ⟨v, hv, dv⟩ := r.get e1
    obtain ⟨w, hw, dw⟩ := r'.get e2
    refine ⟨⟨xs, ys, v, w, hq, hq', hv, hw⟩, fun y H' hy => ?_⟩
    obtain ⟨T, z1, z2, rfl, hT, rfl, hz1, hz2⟩ := hy
    have q1 := hz1 xs hq
    have q2 := hz2 ys hq'
    rw [hv] at q1
    rw [hw] at q2
    cases q1
    cases q2
    exact yl_pair s hT (dv.mono s0) (dw.mono s0)
/-- items of data: a list's or a tuple's -/
theorem items_ok {K : PySem.W.Frag} {F : Hp} {v : V} {d : D} {ds : List D} {st st' : Sto} (h : DOk K F v d) (e : itemsOf d st = .ok ds st') : st' = st ∧ ∃ a xs, v = .ref a ∧ xs.length ≤ sizeLine ∧ DsOk K F xs ds ∧ ((isTupD d = false ∧ SqL K F a xs) ∨ (isTupD d = true ∧ SqT K F a xs)) := by
  cases d with
  | tup ys =>
    obtain ⟨rfl, rfl⟩ := pure_inv (show (pure ys : M (List D)) st = .ok ds st' from e)
    cases h with
    | tup h1 h2 h3 => exact ⟨rfl, _, _, rfl, h2, h3, .inr ⟨rfl, h1⟩⟩
  | lst ys =>
    obtain ⟨rfl, rfl⟩ := pure_inv (show (pure ys : M (List D)) st = .ok ds st' from e)
    cases h with
    | lst h1 h2 h3 => exact ⟨rfl, _, _, rfl, h2, h3, .inl ⟨rfl, SqL.of h1⟩⟩
  | scr ys =>
    obtain ⟨rfl, rfl⟩ := pure_inv (show (pure ys : M (List D)) st = .ok ds st' from e)
    cases h with
    | scr h1 h2 h3 => exact ⟨rfl, _, _, rfl, h2, h3, .inl ⟨rfl, h1⟩⟩
  | _ => exact (no_inv e).elim
theorem s_It_seq {a : E} {e' tg' : Expr} (ha : PE X e' (tE X.K a)) : PI X tg' e' (tIt X.K (.seq a)) := by
  refine PI.imp (pi_seq ha) fun σ H R' hh => ?_
  obtain ⟨as, F, st, env, ds, st', s, en, e, af⟩ := hh
  obtain ⟨ra, s1, e1, z1⟩ := bind_inv (show (evE a env >>= fun r => use r >>= fun d => itemsOf d) st = .ok ds st' from e)
  obtain ⟨d, s2, e2, z2⟩ := bind_inv z1
  refine ⟨as, F, st, env, ra, s1, s, en, e1, fun v F1 H1 k1 x1 r1 f1 => ?_⟩
  obtain ⟨F2, k2, x2, d2⟩ := use_aft s.len k1 x1 r1 f1 e2
  obtain ⟨rfl, b, xs, rfl, hl, hd, hs⟩ := items_ok d2 z2
  refine ⟨b, rfl, ?_⟩
  rcases hs with ⟨_, hs⟩ | ⟨_, hs⟩
  · exact .inl ⟨⟨xs, k2.sub.seq hs⟩, af _ F2 H1 k2 x2 (yl_list hs hd) (by rw [← hd.length]; exact hl)⟩
  · exact .inr ⟨⟨xs, Same.seqT k2.sub hs⟩, af _ F2 H1 k2 x2 (yl_tuple hs hd) (by rw [← hd.length]; exact hl)⟩
theorem rng_shape {tg' : Expr} {es : Es} {e' : Expr} (h : agIt c tg' (.rng es) e' = true) : ∃ y p es' p3, e' = .Call (.Name y p) es' [] p3 ∧ y = ("range" : Str) ∧ glB c.sc y = true ∧ (es'.length = 1 ∨ es'.length = 2) ∧ agEs c es es' = true := by
  cases e' with
  | Call f' args kws p3 =>
    cases f' with
    | Name y p =>
      cases kws with
      | nil =>
        obtain ⟨h1, h⟩ := b2 (show (decide (y = ("range" : Str)) && (glB c.sc y && (decide (args.length = 1 ∨ args.length = 2) && agEs c es args))) = true from h)
        obtain ⟨h2, h⟩ := b2 h
        obtain ⟨h3, h4⟩ := b2 h
        exact ⟨y, p, args, p3, rfl, of_decide_eq_true h1, h2, of_decide_eq_true h3, h4⟩
      | cons _ _ => exact absurd h Bool.false_ne_true
    | _ => exact absurd h Bool.false_ne_true
  | _ => exact absurd h Bool.false_ne_true
theorem evEs_len : ∀ {es : Es} {env : Env} {rs : List R} {st st' : Sto}, evEs es env st = .ok rs st' → rs.length = lenEs es
  | .nil, _, _, _, _, h => by
    obtain ⟨rfl, rfl⟩ := pure_inv h
    rfl
  | .cons e es, env, rs, st, st', h => by
    obtain ⟨r, s1, _, z1⟩ := bind_inv (show (evE e env >>= fun r => evEs es env >>= fun rs => (pure (r :: rs) : M (List R))) st = .ok rs st' from h)
    obtain ⟨rs', s2, h2, z2⟩ := bind_inv z1
    obtain ⟨rfl, rfl⟩ := pure_inv z2
    exact congrArg Nat.succ (evEs_len h2)
theorem s_It_rng {es : Es} {e' tg' : Expr} (x : XOk c kn k X) (h : agIt c tg' (.rng es) e' = true) (hs : ∀ es', agEs c es es' = true → PA X es' (tEs X.K es)) : PI X tg' e' (tIt X.K (.rng es)) := by
  obtain ⟨y, p, es', p3, rfl, rfl, h1, h2, h3⟩ := rng_shape h
  obtain ⟨g1, d1⟩ := x.glb h1
  have hm : X.mg "range" = none := free_of x (by decide +kernel)
  have hst := agEs_star h3
  have hl := agEs_len h3 rfl
  match es', h2, h3, hst, hl with
  | [a'], _, h3, hst, hl =>
    refine PI.imp (pi_range1 g1 hm (hs _ h3) (by rw [star_cons (hst _ (List.mem_cons_self ..))]; rfl)) fun σ H R' hh => ?_
    obtain ⟨as, F, st, env, ds, st', s, en, e, af⟩ := hh
    obtain ⟨rs, s1, e1, z1⟩ := bind_inv (show (evEs es env >>= fun rs => rngB rs) st = .ok ds st' from e)
    refine ⟨as, F, st, env, rs, s1, s, en, e1, fun vs F1 H1 k1 x1 r1 f1 => ?_⟩
    have hn : rs.length = 1 := by rw [evEs_len e1, hl]; rfl
    match rs, hn, r1, z1 with
    | [r], _, .cons r1 .nil _, z1 =>
      cases r1 with
      | dat r1 =>
        cases r1 with
        | int j =>
          obtain ⟨_, s2, e2, z2⟩ := bind_inv (show (M.guard (decide (-(2 ^ 62) ≤ j) && decide (j ≤ 1000000)) >>= fun _ => (pure (rngD 0 j.toNat) : M (List D))) s1 = .ok ds st' from z1)
          obtain ⟨g, rfl⟩ := guard_inv e2
          obtain ⟨rfl, rfl⟩ := pure_inv z2
          obtain ⟨g1, g2⟩ := b2 g
          have g1 := of_decide_eq_true g1
          have g2 := of_decide_eq_true g2
          exact ⟨j, rfl, g1, by omega, af _ F1 H1 k1 x1 yl_rng (by rw [rngD_len, sizeLine_eq]; omega)⟩
        | _ => exact (no_inv z1).elim
      | _ => exact (no_inv z1).elim
  | [a', b'], _, h3, hst, hl =>
    refine PI.imp (pi_range2 g1 hm (hs _ h3) (by rw [star_cons (hst _ (List.mem_cons_self ..)), star_cons (hst _ (List.mem_cons_of_mem _ (List.mem_cons_self ..)))]; rfl) (by rw [star_cons (hst _ (List.mem_cons_of_mem _ (List.mem_cons_self ..)))]; rfl)) fun σ H R' hh => ?_
    obtain ⟨as, F, st, env, ds, st', s, en, e, af⟩ := hh
    obtain ⟨rs, s1, e1, z1⟩ := bind_inv (show (evEs es env >>= fun rs => rngB rs) st = .ok ds st' from e)
    refine ⟨as, F, st, env, rs, s1, s, en, e1, fun vs F1 H1 k1 x1 r1 f1 => ?_⟩
    have hn : rs.length = 2 := by rw [evEs_len e1, hl]; rfl
    match rs, hn, r1, z1 with
    | [r, q], _, .cons r1 (.cons r2 .nil _) _, z1 =>
      cases r1 with
      | dat r1 =>
        cases r1 with
        | int i =>
          cases r2 with
          | dat r2 =>
            cases r2 with
            | int j =>
              obtain ⟨_, s2, e2, z2⟩ := bind_inv (show (M.guard (decide (-1000000 ≤ i) && decide (j ≤ 1000000) && decide (i ≤ 1000000) && decide (-1000000 ≤ j)) >>= fun _ => (pure (rngD i (j - i).toNat) : M (List D))) s1 = .ok ds st' from z1)
              obtain ⟨g, rfl⟩ := guard_inv e2
              obtain ⟨rfl, rfl⟩ := pure_inv z2
              simp only [Bool.and_eq_true, decide_eq_true_eq] at g
              exact ⟨i, j, rfl, by omega, af _ F1 H1 k1 x1 yl_rng (by rw [rngD_len, sizeLine_eq]; omega)⟩
            | _ => exact (no_inv z1).elim
          | _ => exact (no_inv z1).elim
        | _ => exact (no_inv (show (Res.no : Res (List D)) = .ok ds st' by cases r2 <;> exact z1)).elim
      | _ => exact (no_inv (show (Res.no : Res (List D)) = .ok ds st' by cases r2 <;> exact z1)).elim
theorem s_It_enum {a : E} {e' tg' : Expr} (x : XOk c kn k X) (h : agIt c tg' (.enum a) e' = true) (ha : ∀ a', agE c a a' = true → PE X a' (tE X.K a)) : PI X tg' e' (tIt X.K (.enum a)) := by
  have h0 : ∃ y p a' p3, e' = .Call (.Name y p) [a'] [] p3 ∧ y = ("enumerate" : Str) ∧ glB c.sc y = true ∧ isTupX tg' = true ∧ notStar a' = true ∧ agE c a a' = true := by
    cases e' with
    | Call f' args kws p3 =>
      cases f' with
      | Name y p =>
        match args, kws, h with
        | [a'], [], h =>
          obtain ⟨h1, h⟩ := b2 (show (decide (y = ("enumerate" : Str)) && (glB c.sc y && (isTupX tg' && (notStar a' && agE c a a')))) = true from h)
          obtain ⟨h2, h⟩ := b2 h
          obtain ⟨h3, h⟩ := b2 h
          obtain ⟨h4, h5⟩ := b2 h
          exact ⟨y, p, a', p3, rfl, of_decide_eq_true h1, h2, h3, h4, h5⟩
        | [], _, h => exact absurd h Bool.false_ne_true
        | [_], _ :: _, h => exact absurd h Bool.false_ne_true
        | _ :: _ :: _, _, h => exact absurd h Bool.false_ne_true
      | _ => exact absurd h Bool.false_ne_true
    | _ => exact absurd h Bool.false_ne_true
  obtain ⟨y, p, a', p3, rfl, rfl, h1, h2, h3, h4⟩ := h0
  obtain ⟨g1, d1⟩ := x.glb h1
  have hm : X.mg "enumerate" = none := free_of x (by decide +kernel)
  cases tg' with
  | Tuple elts kk tpos =>
    refine PI.imp (pi_enumA g1 hm (pa_cons (ha a' h4) pa_nil (star_cons h3)) (by rw [star_cons h3]; rfl)) fun σ H R' hh => ?_
    obtain ⟨as, F, st, env, ds, st', s, en, e, af⟩ := hh
    obtain ⟨ra, s1, e1, z1⟩ := bind_inv (show (evE a env >>= fun r => use r >>= fun d => itemsOf d >>= fun ds => (pure (enumD 0 ds) : M (List D))) st = .ok ds st' from e)
    obtain ⟨d, s2, e2, z2⟩ := bind_inv z1
    obtain ⟨ds0, s3, e3, z3⟩ := bind_inv z2
    refine ⟨as, F, st, env, ra, s1, s, en, e1, fun v F1 H1 k1 x1 r1 f1 => ?_⟩
    obtain ⟨F2, k2, x2, d2⟩ := use_aft s.len k1 x1 r1 f1 e2
    obtain ⟨rfl, b, xs, rfl, hl, hd, hs⟩ := items_ok d2 e3
    obtain ⟨rfl, rfl⟩ := pure_inv z3
    have hz : (enumD 0 ds0).length ≤ sizeLine := by rw [enumD_len, ← hd.length]; exact hl
    refine ⟨b, rfl, ?_⟩
    rcases hs with ⟨_, hs⟩ | ⟨_, hs⟩
    · exact .inl ⟨xs, k2.sub.seq hs, af _ F2 H1 k2 x2 (yl_enumL hs hd) hz⟩
    · exact .inr ⟨xs, Same.seqT k2.sub hs, af _ F2 H1 k2 x2 (yl_enumT hs hd) hz⟩
  | _ => exact absurd h2 Bool.false_ne_true
theorem zip_run {a b : E} {σ : L2.St} {H : Hp} {R' : L2.It → Hp → Prop} (hh : tIt X.K (.zip a b) σ H R') : RZ.iZipA X.K (tCons (tE X.K a) (tCons (tE X.K b) tNil)) σ H R' := by
  obtain ⟨as, F, st, env, ds, st', s, en, e, af⟩ := hh
  obtain ⟨ra, s1, e1, z1⟩ := bind_inv (show (evE a env >>= fun x => evE b env >>= fun y => use x >>= fun p => use y >>= fun q => M.guard (isTupD p == isTupD q) >>= fun _ => itemsOf p >>= fun as => itemsOf q >>= fun bs => (pure (zipD as bs) : M (List D))) st = .ok ds st' from e)
  obtain ⟨rb, s2, e2, z2⟩ := bind_inv z1
  obtain ⟨d, s3, e3, z3⟩ := bind_inv z2
  obtain ⟨q, s4, e4, z4⟩ := bind_inv z3
  obtain ⟨_, s5, e5, z5⟩ := bind_inv z4
  obtain ⟨ds1, s6, e6, z6⟩ := bind_inv z5
  obtain ⟨ds2, s7, e7, z7⟩ := bind_inv z6
  refine ⟨as, F, st, env, ra, s1, s, en, e1, fun v F1 H1 k1 x1 r1 f1 => ?_⟩
  refine ⟨as, F1, s1, env, rb, s2, k1, en.ext x1, e2, fun w F2 H2 k2 x2 r2 f2 => ?_⟩
  have x12 := x1.trans s.len k1.len x2
  have r1' := r1.ext k1.len x2 fun _ _ z => nomatch z
  have hdis : ∀ a ∈ ownA w rb, a ∉ ownA v ra := fun a hw hv => by
    cases ra with
    | own d0 =>
      cases r1 with
      | own q1 q2 q3 =>
        have e1 : a = _ := List.mem_singleton.mp hv
        subst e1
        cases rb with
        | own d1 =>
          cases r2 with
          | own p1 p2 p3 =>
            have e2 : a = _ := List.mem_singleton.mp hw
            exact q2.some (f2 a (by rw [e2]))
        | _ => cases w <;> cases hw
    | _ => cases v <;> cases hv
  obtain ⟨F3, k3, x3, d3⟩ := use_ok k2 r1' e3
  have x13 : Ext [] as F H st as F3 H2 s3 := x12.transX s.len k2.len x3 (fun _ z => nomatch z) fun a ha => .inr (by
    cases ra with
    | own d0 =>
      cases v with
      | ref b =>
        have : a = b := List.mem_singleton.mp ha
        subst this
        exact f1 _ rfl
      | _ => cases ha
    | _ => cases v <;> cases ha)
  have r2' := r2.ext k2.len x3 hdis
  have f2' : Fresh H w rb := Fresh.back x1 f2
  obtain ⟨F4, k4, x40, d4⟩ := use_ok k3 r2' e4
  have x34 : Same F3 F4 := x40.f
  have x4 : Ext [] as F H st as F4 H2 s4 := x13.transX s.len k3.len x40 (fun _ z => nomatch z) fun a ha => .inr (by
    cases rb with
    | own d0 =>
      cases w with
      | ref b =>
        have : a = b := List.mem_singleton.mp ha
        subst this
        exact f2' _ rfl
      | _ => cases ha
    | _ => cases w <;> cases ha)
  obtain ⟨g, rfl⟩ := guard_inv e5
  obtain ⟨rfl, b1, xs, rfl, hl, hd, hs⟩ := items_ok d3 e6
  obtain ⟨rfl, b2', ys, rfl, hl2, hd2, hs2⟩ := items_ok d4 e7
  obtain ⟨rfl, rfl⟩ := pure_inv z7
  have hz : (zipD ds1 ds2).length ≤ sizeLine := by rw [zipD_len, ← hd.length]; omega
  refine ⟨b1, b2', xs, ys, rfl, ?_⟩
  rcases hs with ⟨t1, hs⟩ | ⟨t1, hs⟩
  · rcases hs2 with ⟨t2, hs2⟩ | ⟨t2, hs2⟩
    · have hs' := x34.seq hs
      exact .inl ⟨k4.sub.seq hs', k4.sub.seq hs2, af _ F4 H2 k4 x4 (yl_zipL hs' (hd.mono x34) hs2 hd2) hz⟩
    · rw [t1, t2] at g; cases g
  · rcases hs2 with ⟨t2, hs2⟩ | ⟨t2, hs2⟩
    · rw [t1, t2] at g; cases g
    · have hs' := Same.seqT x34 hs
      exact .inr ⟨Same.seqT k4.sub hs', Same.seqT k4.sub hs2, af _ F4 H2 k4 x4 (yl_zipT hs' (hd.mono x34) hs2 hd2) hz⟩
theorem s_It_zip {a b : E} {e' tg' : Expr} (x : XOk c kn k X) (h : agIt c tg' (.zip a b) e' = true) (ha : ∀ a', agE c a a' = true → PE X a' (tE X.K a)) (hb : ∀ a', agE c b a' = true → PE X a' (tE X.K b)) : PI X tg' e' (tIt X.K (.zip a b)) := by
  have h0 : ∃ y p a' b' p3, e' = .Call (.Name y p) [a', b'] [] p3 ∧ y = ("zip" : Str) ∧ glB c.sc y = true ∧ isTupX tg' = true ∧ notStar a' = true ∧ notStar b' = true ∧ agE c a a' = true ∧ agE c b b' = true := by
    cases e' with
    | Call f' args kws p3 =>
      cases f' with
      | Name y p =>
        match args, kws, h with
        | [a', b'], [], h =>
          obtain ⟨h1, h⟩ := b2 (show (decide (y = ("zip" : Str)) && (glB c.sc y && (isTupX tg' && (notStar a' && (notStar b' && (agE c a a' && agE c b b')))))) = true from h)
          obtain ⟨h2, h⟩ := b2 h
          obtain ⟨h3, h⟩ := b2 h
          obtain ⟨h4, h⟩ := b2 h
          obtain ⟨h5, h⟩ := b2 h
          obtain ⟨h6, h7⟩ := b2 h
          exact ⟨y, p, a', b', p3, rfl, of_decide_eq_true h1, h2, h3, h4, h5, h6, h7⟩
        | [], _, h => exact absurd h Bool.false_ne_true
        | [_], _, h => exact absurd h Bool.false_ne_true
        | [_, _], _ :: _, h => exact absurd h Bool.false_ne_true
        | _ :: _ :: _ :: _, _, h => exact absurd h Bool.false_ne_true
      | _ => exact absurd h Bool.false_ne_true
    | _ => exact absurd h Bool.false_ne_true
  obtain ⟨y, p, a', b', p3, rfl, rfl, h1, h2, h3, h4, h5, h6⟩ := h0
  obtain ⟨g1, d1⟩ := x.glb h1
  have hm : X.mg "zip" = none := free_of x (by decide +kernel)
  cases tg' with
  | Tuple elts kk tpos =>
    refine PI.imp (RZ.pi_zipA g1 hm (pa_cons (ha a' h5) (pa_cons (hb b' h6) pa_nil (star_cons h4)) (star_cons h3)) (star_cons h3) (by rw [star_cons h4]; rfl)) fun σ H R' hh => zip_run hh
  | _ => exact absurd h2 Bool.false_ne_true
end
end DB
set_option maxHeartbeats 4000000
/-! a walk over zip of three tuples -/
namespace DB
open PySem PySem.Spec L2 PyProof.Rows
/-- the tuples at a, b, c as they stand at each turn, the items in new triples -/
def Itz3 (K : PySem.W.Frag) (a b c : Addr) : L2.It :=
  ⟨fun i H => ∃ (xs ys zs : List V) (x y z : V), (SqT K H a xs ∧ SqT K H b ys ∧ SqT K H c zs) ∧ xs[i]? = some x ∧ ys[i]? = some y ∧ zs[i]? = some z,
    fun i H v H' => ∃ T x y z, v = .ref T ∧ H T = none ∧ H' = L2.upd H T (.tup [x, y, z]) ∧ (∀ xs, SqT K H a xs → xs[i]? = some x) ∧ (∀ ys, SqT K H b ys → ys[i]? = some y) ∧ ∀ zs, SqT K H c zs → zs[i]? = some z,
    fun i H => ∃ xs ys zs : List V, (SqT K H a xs ∧ SqT K H b ys ∧ SqT K H c zs) ∧ (i ≤ xs.length ∧ i ≤ ys.length ∧ i ≤ zs.length) ∧ (i = xs.length ∨ i = ys.length ∨ i = zs.length)⟩
theorem sep3 (n a b c : Nat) (ha : a < n) (hb : b < n) (hc : c < n) : ZipSep3 (n + 5) (n + 3) (n + 4) n (n + 1) (n + 2) [n, a] [n + 1, b] [n + 2, c] := by
  constructor <;> (try simp only [List.mem_cons, List.not_mem_nil, or_false, not_or, ne_eq, true_or]) <;> (show _ ) <;> (try (unfold Addr at *)) <;> omega
theorem turn_zip3 {P : Program} {w : World} {K : PySem.W.Frag} {elts : List Expr} {kk : Nat} {tpos : Pos} {a b c z TI TO i1 i2 i3 : Addr} (S : ZipSep3 z TI TO i1 i2 i3 [i1, a] [i2, b] [i3, c]) (na : a ≠ i1) (nb : b ≠ i2) (nc : c ≠ i3) :
    Turn P w K (.Tuple elts kk tpos) (Itz3 K a b c) [z, TI, TO, i1, i2, i3] z (fun i h => IsZip h z TI TO .none ∧ IsTupOf3 h TI (.ref i1) (.ref i2) (.ref i3) ∧ (∃ x y u, IsTupOf3 h TO x y u) ∧ h.IsTupleIter i1 a i ∧ h.IsTupleIter i2 b i ∧ h.IsTupleIter i3 c i) where
  mem := by simp
  obj := fun i h st q hq => by
    obtain ⟨hz, hTI, ⟨x, y, u, hTO⟩, ⟨o1, e1, _, d1⟩, ⟨o2, e2, _, d2⟩, ⟨o3, e3, _, d3⟩⟩ := st
    have e' : q = z ∨ q = TI ∨ q = TO ∨ q = i1 ∨ q = i2 ∨ q = i3 := by simpa using hq
    rcases e' with q | q | q | q | q | q
    · rw [q]; exact ⟨_, hz, fun v q => nomatch q⟩
    · rw [q]; exact ⟨_, hTI, fun v q => nomatch q⟩
    · rw [q]; exact ⟨_, hTO, fun v q => nomatch q⟩
    · rw [q]; exact ⟨o1, e1, fun v q => by rw [d1] at q; cases q⟩
    · rw [q]; exact ⟨o2, e2, fun v q => by rw [d2] at q; cases q⟩
    · rw [q]; exact ⟨o3, e3, fun v q => by rw [d3] at q; cases q⟩
  keep := fun i h h' st k => by
    obtain ⟨hz, hTI, ⟨x, y, u, hTO⟩, h1, h2, h3⟩ := st
    exact ⟨k z (by simp) _ hz, k TI (by simp) _ hTI, ⟨x, y, u, k TO (by simp) _ hTO⟩, h1.at fun o q => k i1 (by simp) o q, h2.at fun o q => k i2 (by simp) o q, h3.at fun o q => k i3 (by simp) o q⟩
  item := by
    intro X hP hw hK hc i pins s σ H E I hf st hg
    subst hP hw hK
    obtain ⟨hz, hTI, ⟨x0, y0, u0, hTO⟩, h1, h2, h3⟩ := st
    obtain ⟨xs, ys, zs, x, y, u, ⟨hqx, hqy, hqz⟩, hx, hy, hu⟩ := hg
    obtain ⟨its, rv, p, _⟩ := I.tuple hqx
    obtain ⟨its2, rv2, p2, _⟩ := I.tuple hqy
    obtain ⟨its3, rv3, p3, _⟩ := I.tuple hqz
    obtain ⟨v1, hv1, r1⟩ := rv.get hx
    obtain ⟨v2, hv2, r2⟩ := rv2.get hy
    obtain ⟨v3, hv3, r3⟩ := rv3.get hu
    have hh := I.ok.hd hc
    have hzl : z < s.heap.objs.size := Heap.lt_size hz
    have l1 : i < its.toArray.size := (Array.getElem?_eq_some_iff.mp (show its.toArray[i]? = some v1 by simpa using hv1)).1
    have l2 : i < its2.toArray.size := (Array.getElem?_eq_some_iff.mp (show its2.toArray[i]? = some v2 by simpa using hv2)).1
    have l3 : i < its3.toArray.size := (Array.getElem?_eq_some_iff.mp (show its3.toArray[i]? = some v3 by simpa using hv3)).1
    refine wpAny_pyNext_zipD3_item S (Draws.tuple (A := X.A.in1) hh i1 a na its.toArray) (Draws.tuple (A := X.A.in1) hh i2 b nb its2.toArray) (Draws.tuple (A := X.A.in1) hh i3 c nc its3.toArray) hz hTI hTO ⟨h1, p⟩ ⟨h2, p2⟩ ⟨h3, p3⟩ l1 l2 l3
      fun x1 x2 x3 h' tk y1 y2 y3 z' TO' st1 st2 st3 hT hsz hk => ?_
    have e1 : x1 = v1 := by
      have : its.toArray[i]? = some v1 := by simpa using hv1
      rw [this] at y1; cases y1; rfl
    have e2 : x2 = v2 := by
      have : its2.toArray[i]? = some v2 := by simpa using hv2
      rw [this] at y2; cases y2; rfl
    have e3 : x3 = v3 := by
      have : its3.toArray[i]? = some v3 := by simpa using hv3
      rw [this] at y3; cases y3; rfl
    subst e1 e2 e3
    refine ⟨_, rfl, wpAny_letOwnedTupleGo_zip (s := { s with heap := h', toks := tk }) z' fun h'' z'' sb => ?_⟩
    have hT2 : h''.get? s.heap.objs.size = some { cls := .type "tuple", data := .seq #[x1, x2, x3] } := (sb.2 _ (Nat.ne_of_gt hzl)).trans hT
    have new : ObjOk X.prog X.w (L2.upd H s.heap.objs.size (.tup [x, y, u])) h'' s.heap.objs.size (.tup [x, y, u]) :=
      ⟨by show 3 ≤ sizeLine; decide, [x1, x2, x3], .cons r1 (.cons r2 (.cons r3 .nil)), ⟨_, hT2, rfl, _, rfl⟩⟩
    have I1 : Inv X pins σ (L2.upd H s.heap.objs.size (.tup [x, y, u])) { s with heap := h'', toks := tk } :=
      I.turnedNew (t' := tk) (ch := [z, TI, TO, i1, i2, i3]) (fun c o hb q => (sb.2 c (fun q' => hb (by simp [q']))).trans (hk c o (fun q' => hb (by simp [q'])) (fun q' => hb (by simp [q'])) (fun q' => hb (by simp [q'])) (fun q' => hb (by simp [q'])) (fun q' => hb (by simp [q'])) q)) hf (Nat.le_refl _) new
    have nz1 : i1 ≠ z := fun q => S.zi1 q.symm
    have nz2 : i2 ≠ z := fun q => S.zi2 q.symm
    have nz3 : i3 ≠ z := fun q => S.zf3 (by rw [← q]; exact S.mem3)
    refine ⟨.ref s.heap.objs.size, _, I1, rfl, ⟨_, x, y, u, rfl, I.hok.fresh (Nat.le_refl _), rfl, fun l hl => by rw [I.tuple_inj hl hqx]; exact hx, fun l hl => by rw [I.tuple_inj hl hqy]; exact hy, fun l hl => by rw [I.tuple_inj hl hqz]; exact hu⟩, ⟨z'', ?_, ⟨x1, x2, x3, ?_⟩, ?_, ?_, ?_⟩, fun q hqm => ?_⟩
    · exact (sb.2 _ S.TIz).trans (hk _ _ S.TIz S.TITO S.TIi1 S.TIi2 S.TIi3 hTI)
    · exact (sb.2 _ S.TOz).trans TO'
    · exact st1.1.at fun o q => (sb.2 _ nz1).trans q
    · exact st2.1.at fun o q => (sb.2 _ nz2).trans q
    · exact st3.1.at fun o q => (sb.2 _ nz3).trans q
    · have hlt : q < s.heap.objs.size := by
        have e' : q = z ∨ q = TI ∨ q = TO ∨ q = i1 ∨ q = i2 ∨ q = i3 := by simpa using hqm
        rcases e' with q | q | q | q | q | q
        · rw [q]; exact hzl
        · rw [q]; exact Heap.lt_size hTI
        · rw [q]; exact Heap.lt_size hTO
        · rw [q]; obtain ⟨_, e1, _⟩ := h1; exact Heap.lt_size e1
        · rw [q]; obtain ⟨_, e2, _⟩ := h2; exact Heap.lt_size e2
        · rw [q]; obtain ⟨_, e3, _⟩ := h3; exact Heap.lt_size e3
      rw [upd_ne (Nat.ne_of_lt hlt)]
      exact (hf q hqm).1
  done := by
    intro X hP hw hK hc i pins s σ H E I hf st hg
    subst hP hw hK
    obtain ⟨hz, hTI, ⟨x0, y0, u0, hTO⟩, h1, h2, h3⟩ := st
    obtain ⟨xs, ys, zs, ⟨hqx, hqy, hqz⟩, ⟨le1, le2, le3⟩, hend⟩ := hg
    obtain ⟨its, rv, p, _⟩ := I.tuple hqx
    obtain ⟨its2, rv2, p2, _⟩ := I.tuple hqy
    obtain ⟨its3, rv3, p3, _⟩ := I.tuple hqz
    have l1 := rv.length
    have l2 := rv2.length
    have l3 := rv3.length
    have hh := I.ok.hd hc
    have z1 : its.toArray.size = xs.length := by simp; omega
    have z2 : its2.toArray.size = ys.length := by simp; omega
    have z3 : its3.toArray.size = zs.length := by simp; omega
    exact wpAny_pyNext_zipD3_end S (Draws.tuple (A := X.A.in1) hh i1 a na its.toArray) (Draws.tuple (A := X.A.in1) hh i2 b nb its2.toArray) (Draws.tuple (A := X.A.in1) hh i3 c nc its3.toArray) hz hTI hTO ⟨h1, p⟩ ⟨h2, p2⟩ ⟨h3, p3⟩ (by omega) (by omega) (by omega) (by omega)
      fun h' tk hk => ⟨rfl, I.turnedL (t' := tk) (ch := [z, TI, TO, i1, i2, i3]) (fun c o hb q => hk c o (fun q' => hb (by simp [q'])) (fun q' => hb (by simp [q'])) (fun q' => hb (by simp [q'])) (fun q' => hb (by simp [q'])) (fun q' => hb (by simp [q'])) q) hf⟩
  self := fun A i s Q E st h => wpAny_pyIter_zip st.1 h
def iZip3 (K : PySem.W.Frag) (ta : TA) : TI := fun σ H R => ta σ H fun vs H1 => ∃ a b c xs ys zs, vs = [.ref a, .ref b, .ref c] ∧ (SqT K H1 a xs ∧ SqT K H1 b ys ∧ SqT K H1 c zs) ∧ R (Itz3 K a b c) H1
theorem pi_zip3 {X : Cx} {e : Expr} {es : List Expr} {ta : TA} {p pos tpos : Pos} {elts : List Expr} {kk : Nat} (hg : Gl X "zip") (hm : X.mg "zip" = none) (ha : PA X (e :: es) ta)
    (hs : starEach (e :: es) X.env = (false, eval e X.env) :: starEach es X.env) (hpl : (backTo pos (starEach es X.env)).any (·.1) = false) :
    PI X (.Tuple elts kk tpos) (.Call (.Name "zip" p) (e :: es) [] pos) (iZip3 X.K ta) := by
  refine ⟨fun pins s σ H R I h => ?_⟩
  refine Call_ (ld_blt I hg hm PyProof.Rows.boot_zip (PyProof.Rows.callWith_type1 (thn (ha.run pos pins s σ H _ I h) fun us s1 ⟨vs, H1, I1, r1, q1⟩ => ?_) hs hpl))
  obtain ⟨a, b, c, xs, ys, zs, ex, ⟨hqx, hqy, hqz⟩, q⟩ := q1
  subst ex
  cases r1 with
  | cons r rr =>
  cases rr with
  | cons r' rr =>
  cases rr with
  | cons r'' rr =>
  cases rr
  cases r
  cases r'
  cases r''
  have fresh6 : ∀ c, c ∈ [s1.heap.objs.size + 5, s1.heap.objs.size + 3, s1.heap.objs.size + 4, s1.heap.objs.size, s1.heap.objs.size + 1, s1.heap.objs.size + 2] → FpOk X pins H1 c := fun c hcm => by
    have hle : s1.heap.objs.size ≤ c := by
      have e' : c = s1.heap.objs.size + 5 ∨ c = s1.heap.objs.size + 3 ∨ c = s1.heap.objs.size + 4 ∨ c = s1.heap.objs.size ∨ c = s1.heap.objs.size + 1 ∨ c = s1.heap.objs.size + 2 := by simpa using hcm
      rcases e' with z | z | z | z | z | z <;> rw [z] <;> first | exact Nat.le_refl _ | exact Nat.le_add_right _ _
    exact I1.fpOk hle (I1.hok.fresh hle)
  obtain ⟨its, rv, p1, _⟩ := I1.tuple hqx
  obtain ⟨its2, rv2, p2, _⟩ := I1.tuple hqy
  obtain ⟨its3, rv3, p3, _⟩ := I1.tuple hqz
  obtain ⟨o1, ho1, _⟩ := id p1
  obtain ⟨o2, ho2, _⟩ := id p2
  obtain ⟨o3, ho3, _⟩ := id p3
  have la := Heap.lt_size ho1
  have lb := Heap.lt_size ho2
  have lc := Heap.lt_size ho3
  refine zip_begins3 (begins_tuple a its.toArray) (begins_tuple b its2.toArray) (begins_tuple c its3.toArray) p1 p2 p3 fun h' hz hTI hTO g1 g2 g3 hsz hk => wpAny_pyIter_zip hz ?_
  have I2 : Inv X pins σ H1 { s1 with heap := h' } := I1.kept (t' := s1.toks) hk
  exact ⟨s1.heap.objs.size + 5, [s1.heap.objs.size + 5, s1.heap.objs.size + 3, s1.heap.objs.size + 4, s1.heap.objs.size, s1.heap.objs.size + 1, s1.heap.objs.size + 2], _, _, H1, rfl, I2, turn_zip3 (sep3 s1.heap.objs.size a b c la lb lc) (Nat.ne_of_lt la) (Nat.ne_of_lt (Nat.lt_succ_of_lt lb)) (Nat.ne_of_lt (Nat.lt_of_lt_of_le lc (Nat.le_add_right _ _))), ⟨hz, hTI, ⟨_, _, _, hTO⟩, ⟨_, g1, rfl, rfl⟩, ⟨_, g2, rfl, rfl⟩, ⟨_, g3, rfl, rfl⟩⟩, fresh6, q⟩
theorem zipD3_get : ∀ {as bs cs : List D} {i : Nat} {d : D}, (zipD3 as bs cs)[i]? = some d → ∃ a b c, as[i]? = some a ∧ bs[i]? = some b ∧ cs[i]? = some c ∧ d = .tup [a, b, c]
  | [], _, _, _, _, h => by simp [zipD3] at h
  | _ :: _, [], _, _, _, h => by simp [zipD3] at h
  | _ :: _, _ :: _, [], _, _, h => by simp [zipD3] at h
  | a :: as, b :: bs, c :: cs, 0, d, h => by
    have h : some (D.tup [a, b, c]) = some d := h
    cases h
    exact ⟨a, b, c, rfl, rfl, rfl, rfl⟩
  | a :: as, b :: bs, c :: cs, i + 1, d, h => zipD3_get (as := as) (bs := bs) (cs := cs) (i := i) h
theorem zipD3_len : ∀ {as bs cs : List D}, (zipD3 as bs cs).length = min as.length (min bs.length cs.length)
  | [], _, _ => by simp [zipD3]
  | _ :: _, [], _ => by simp [zipD3]
  | _ :: _, _ :: _, [] => by simp [zipD3]
  | a :: as, b :: bs, c :: cs => by
    show (zipD3 as bs cs).length + 1 = min (as.length + 1) (min (bs.length + 1) (cs.length + 1))
    rw [zipD3_len]
    omega
theorem yl_trip {K : PySem.W.Frag} {F H : Hp} {as : List Addr} {st : Sto} {T : Addr} {x y z : V} {dx dy dz : D} (s : StOk K F H as st) (hT : H T = none) (hx : DOk K F x dx) (hy : DOk K F y dy) (hz : DOk K F z dz) :
    ∃ F', StOk K F' (L2.upd H T (.tup [x, y, z])) as st ∧ Ext [] as F H st as F' (L2.upd H T (.tup [x, y, z])) st ∧ DOk K F' (.ref T) (.tup [dx, dy, dz]) := by
  have fp : F T = none := by
    cases q : F T with
    | none => rfl
    | some u => rw [s.sub T u q] at hT; cases hT
  exact ⟨_, s.updF hT, Ext.updF s hT, .tup (SqT.of upd_same) (by show 3 ≤ sizeLine; decide) (.cons (hx.mono (Same.updB fp)) (.cons (hy.mono (Same.updB fp)) (.cons (hz.mono (Same.updB fp)) .nil)))⟩
theorem yl_zip3 {K : PySem.W.Frag} {F0 : Hp} {a b c : Addr} {xs ys zs : List V} {ds es fs : List D} (h : SqT K F0 a xs) (r : DsOk K F0 xs ds) (h' : SqT K F0 b ys) (r' : DsOk K F0 ys es) (h'' : SqT K F0 c zs) (r'' : DsOk K F0 zs fs) : Yl K (Itz3 K a b c) F0 (zipD3 ds es fs) := by
  intro i F H as st s0 s
  have hq : SqT K H a xs := Same.seqT s.sub (Same.seqT s0 h)
  have hq' : SqT K H b ys := Same.seqT s.sub (Same.seqT s0 h')
  have hq'' : SqT K H c zs := Same.seqT s.sub (Same.seqT s0 h'')
  refine ⟨fun e => ⟨xs, ys, zs, ⟨hq, hq', hq''⟩, ?_⟩, fun d hd => ?_⟩
  · rw [zipD3_len] at e
    rw [r.length, r'.length, r''.length]
    omega
  · obtain ⟨d1, d2, d3, e1, e2, e3, rfl⟩ := zipD3_get hd
    obtain ⟨v, hv, dv⟩ := r.get e1
    obtain ⟨w, hw, dw⟩ := r'.get e2
    obtain ⟨u, hu, du⟩ := r''.get e3
    refine ⟨⟨xs, ys, zs, v, w, u, ⟨hq, hq', hq''⟩, hv, hw, hu⟩, fun y H' hy => ?_⟩
    obtain ⟨T, z1, z2, z3, rfl, hT, rfl, hz1, hz2, hz3⟩ := hy
    have q1 := hz1 xs hq
    have q2 := hz2 ys hq'
    have q3 := hz3 zs hq''
    rw [hv] at q1
    rw [hw] at q2
    rw [hu] at q3
    cases q1
    cases q2
    cases q3
    exact yl_trip s hT (dv.mono s0) (dw.mono s0) (du.mono s0)
section
variable {c : AC} {kn : Know} {k : Nat} {X : Cx}
theorem zip3_inv {ds r : List D} {st st' : Sto} (h : zip3B ds st = .ok r st') : st' = st ∧ ∃ as bs cs, ds = [.tup as, .tup bs, .tup cs] ∧ r = zipD3 as bs cs := by
  unfold zip3B at h
  split at h
  · obtain ⟨rfl, rfl⟩ := pure_inv h
    exact ⟨rfl, _, _, _, rfl, rfl⟩
  · exact (no_inv h).elim
theorem s_It_zip3 {es : Es} {e' tg' : Expr} (x : XOk c kn k X) (h : agIt c tg' (.zip3 es) e' = true) (hs : ∀ es', agEs c es es' = true → PA X es' (tDs X.K es)) : PI X tg' e' (tIt X.K (.zip3 es)) := by
  have h0 : ∃ y p es' p3, e' = .Call (.Name y p) es' [] p3 ∧ y = ("zip" : Str) ∧ glB c.sc y = true ∧ isTupX tg' = true ∧ es'.length = 3 ∧ agEs c es es' = true := by
    cases e' with
    | Call f' args kws p3 =>
      cases f' with
      | Name y p =>
        cases kws with
        | nil =>
          obtain ⟨h1, h⟩ := b2 (show (decide (y = ("zip" : Str)) && (glB c.sc y && (isTupX tg' && (decide (args.length = 3) && agEs c es args)))) = true from h)
          obtain ⟨h2, h⟩ := b2 h
          obtain ⟨h3, h⟩ := b2 h
          obtain ⟨h4, h5⟩ := b2 h
          exact ⟨y, p, args, p3, rfl, of_decide_eq_true h1, h2, h3, of_decide_eq_true h4, h5⟩
        | cons _ _ => exact absurd h Bool.false_ne_true
      | _ => exact absurd h Bool.false_ne_true
    | _ => exact absurd h Bool.false_ne_true
  obtain ⟨y, p, es', p3, rfl, rfl, h1, h2, h3, h4⟩ := h0
  obtain ⟨g1, d1⟩ := x.glb h1
  have hm : X.mg "zip" = none := free_of x (by decide +kernel)
  have hst := agEs_star h4
  match es', h3, h4, hst with
  | e0 :: er, h3, h4, hst =>
  cases tg' with
  | Tuple elts kk tpos =>
    refine PI.imp (pi_zip3 g1 hm (hs _ h4) (star_cons (hst _ (List.mem_cons_self ..))) (backTo_plain fun e he => hst e (List.mem_cons_of_mem _ he))) fun σ H R' hh => ?_
    obtain ⟨as, F, st, env, ds, st', s, en, e, af⟩ := hh
    obtain ⟨rs, s1, e1, z1⟩ := bind_inv (show (evDs es env >>= fun ds => zip3B ds) st = .ok ds st' from e)
    obtain ⟨rfl, as', bs', cs', rfl, rfl⟩ := zip3_inv z1
    refine ⟨as, F, st, env, _, _, s, en, e1, fun vs F1 H1 k1 x1 r1 => ?_⟩
    cases r1 with
    | cons q1 r1 =>
    cases r1 with
    | cons q2 r1 =>
    cases r1 with
    | cons q3 r1 =>
    cases r1
    cases q1 with
    | tup t1 l1 d1 =>
    cases q2 with
    | tup t2 l2 d2 =>
    cases q3 with
    | tup t3 l3 d3 =>
    have hz : (zipD3 as' bs' cs').length ≤ sizeLine := by rw [zipD3_len, ← d1.length]; omega
    exact ⟨_, _, _, _, _, _, rfl, ⟨Same.seqT k1.sub t1, Same.seqT k1.sub t2, Same.seqT k1.sub t3⟩, af _ F1 H1 k1 x1 (yl_zip3 t1 d1 t2 d2 t3 d3) hz⟩
  | _ => exact absurd h2 Bool.false_ne_true
end
end DB
set_option maxHeartbeats 4000000
/-! repr of data -/
namespace DB
open PySem PySem.Spec L2 PyProof.Rows
section
variable {X : Cx}
def rRep (K : PySem.W.Frag) : List V → Hp → VK → Prop := fun vs H Q => ∃ a p, vs = [.ref a] ∧ Dp K H (.ref a) p ∧ shownOk p = true ∧ Q (.str p.shown) H
theorem call_rep (hgd : X.A.guards = some []) (hu : X.A.units + 65 < cLine) : CallR X (.builtin "repr") (rRep X.K) := by
  intro pins s σ H xs us Q I r h
  obtain ⟨a, p, rfl, hd, hs, q⟩ := h
  cases r with
  | cons r rr =>
  cases rr
  cases r
  obtain ⟨as, r1⟩ := Dp.reads I p (.ref a) (.ref a) hd rfl
  simp only [shownOk, Bool.and_eq_true, Bool.not_eq_true', decide_eq_true_eq] at hs
  obtain ⟨h1, h2, h3, h4⟩ := hs
  exact repr_of_reads' r1 h1 (fun z => by rw [h2] at z; cases z) hgd (by omega) (fun b o e => e) (fun h' u tk k => ⟨.str p.shown, H, I.kept k, ⟨u, rfl⟩, q⟩) h4
end
section
variable {c : AC} {kn : Know} {k : Nat} {X : Cx}
theorem repOk_inv {K : PySem.W.Frag} {F H : Hp} {v : V} {d : D} (s : Same F H) (h : VOk K F H v d) (e : repOk d = true) : ∃ a p, v = .ref a ∧ d.toP = some p ∧ Dp K H (.ref a) p ∧ shownOk p = true := by
  cases d with
  | tup xs =>
    cases hp : (D.tup xs).toP with
    | none => unfold repOk at e; rw [hp] at e; cases e
    | some p =>
      have e' : shownOk p = true := by unfold repOk at e; rw [hp] at e; exact e
      have hd := h.dp s hp
      cases h with
      | dat h0 => cases h0 <;> exact ⟨_, p, rfl, rfl, hd, e'⟩
      | cel h0 => exact ⟨_, p, rfl, rfl, hd, e'⟩
  | lst xs =>
    cases hp : (D.lst xs).toP with
    | none => unfold repOk at e; rw [hp] at e; cases e
    | some p =>
      have e' : shownOk p = true := by unfold repOk at e; rw [hp] at e; exact e
      have hd := h.dp s hp
      cases h with
      | dat h0 => cases h0 <;> exact ⟨_, p, rfl, rfl, hd, e'⟩
      | cel h0 => exact ⟨_, p, rfl, rfl, hd, e'⟩
  | _ => cases e
theorem s_repEq {neg : Bool} {a b : E} {e' : Expr} (x : XOk c kn k X) (h : agE c (.repEq neg a b) e' = true)
    (ha : ∀ a', agE c a a' = true → PE X a' (tE X.K a)) (hb : ∀ b', agE c b b' = true → PE X b' (tE X.K b)) : PE X e' (tE X.K (.repEq neg a b)) := by
  have h0 : ∃ y p a' p1 op z p2 b' p3 pos, e' = .Compare (.Call (.Name y p) [a'] [] p1) [op] [.Call (.Name z p2) [b'] [] p3] pos ∧ copB (if neg then .ne else .eq) op = true ∧ y = ("repr" : Str) ∧ z = ("repr" : Str) ∧ glB c.sc y = true ∧ notStar a' = true ∧ notStar b' = true ∧ agE c a a' = true ∧ agE c b b' = true := by
    cases e' with
    | Compare l ops rs pos =>
      cases l with
      | Call f1 args1 kws1 p1 =>
        cases f1 with
        | Name y p =>
          match args1, kws1, ops, rs, h with
          | [a'], [], [op], [r], h =>
            cases r with
            | Call f2 args2 kws2 p3 =>
              cases f2 with
              | Name z p2 =>
                match args2, kws2, h with
                | [b'], [], h =>
                  obtain ⟨h1, h⟩ := b2 (show (copB (if neg then .ne else .eq) op && (decide (y = ("repr" : Str)) && (decide (z = ("repr" : Str)) && (glB c.sc y && (notStar a' && (notStar b' && (agE c a a' && agE c b b'))))))) = true from h)
                  obtain ⟨h2, h⟩ := b2 h
                  obtain ⟨h3, h⟩ := b2 h
                  obtain ⟨h4, h⟩ := b2 h
                  obtain ⟨h5, h⟩ := b2 h
                  obtain ⟨h6, h⟩ := b2 h
                  obtain ⟨h7, h8⟩ := b2 h
                  exact ⟨_, _, _, _, _, _, _, _, _, _, rfl, h1, of_decide_eq_true h2, of_decide_eq_true h3, h4, h5, h6, h7, h8⟩
                | [], _, h => exact absurd h Bool.false_ne_true
                | _ :: _ :: _, _, h => exact absurd h Bool.false_ne_true
                | [_], _ :: _, h => exact absurd h Bool.false_ne_true
              | _ => exact absurd h Bool.false_ne_true
            | _ => exact absurd h Bool.false_ne_true
          | [], _, _, _, h => exact absurd h Bool.false_ne_true
          | _ :: _ :: _, _, _, _, h => exact absurd h Bool.false_ne_true
          | [_], _ :: _, _, _, h => exact absurd h Bool.false_ne_true
          | [_], [], [], _, h => exact absurd h Bool.false_ne_true
          | [_], [], _ :: _ :: _, _, h => exact absurd h Bool.false_ne_true
          | [_], [], [_], [], h => exact absurd h Bool.false_ne_true
          | [_], [], [_], r :: _ :: _, h =>
            cases r with
            | Call f2 args2 kws2 p3 =>
              cases f2 with
              | Name z p2 =>
                match args2, kws2, h with
                | [_], [], h => exact absurd h Bool.false_ne_true
                | [], _, h => exact absurd h Bool.false_ne_true
                | _ :: _ :: _, _, h => exact absurd h Bool.false_ne_true
                | [_], _ :: _, h => exact absurd h Bool.false_ne_true
              | _ => exact absurd h Bool.false_ne_true
            | _ => exact absurd h Bool.false_ne_true
        | _ => exact absurd h Bool.false_ne_true
      | _ => exact absurd h Bool.false_ne_true
    | _ => exact absurd h Bool.false_ne_true
  obtain ⟨y, p, a', p1, op, z, p2, b', p3, pos, rfl, h1, rfl, rfl, h2, h3, h4, h5, h6⟩ := h0
  obtain ⟨g1, d1⟩ := x.glb h2
  have hm : X.mg "repr" = none := free_of x (by decide +kernel)
  have pa := pe_callB (p := p) (pos := p1) (call_rep x.gd x.units) g1 hm (by decide +kernel) (pa_cons (ha a' h5) pa_nil (star_cons h3)) (by decide +kernel) d1 (star_cons h3) (by rfl)
  have pb := pe_callB (p := p2) (pos := p3) (call_rep x.gd x.units) g1 hm (by decide +kernel) (pa_cons (hb b' h6) pa_nil (star_cons h4)) (by decide +kernel) d1 (star_cons h4) (by rfl)
  cases neg with
  | false =>
    cases op <;> first | (cases h1; done) | skip
    refine PE.imp (pe_cmpR op_eq pa pb (marks_of rfl)) fun σ H Q hh => ?_
    obtain ⟨as, F, st, env, r, st', s, en, e, af⟩ := hh
    obtain ⟨ra, s1, e1, z1⟩ := bind_inv (show (evE a env >>= fun u => peek u >>= fun p => M.guard (repOk p) >>= fun _ => evE b env >>= fun v => peek v >>= fun q => M.guard (D.beq p q) >>= fun _ => (pure (R.dat (.bl (!false))) : M R)) st = .ok r st' from e)
    obtain ⟨d1', s2, e2, z2⟩ := bind_inv z1
    obtain ⟨_, s3, e3, z3⟩ := bind_inv z2
    obtain ⟨rb, s4, e4, z4⟩ := bind_inv z3
    obtain ⟨d2', s5, e5, z5⟩ := bind_inv z4
    obtain ⟨_, s6, e6, z6⟩ := bind_inv z5
    obtain ⟨rfl, rfl⟩ := pure_inv z6
    refine ⟨as, F, st, env, ra, s1, s, en, e1, fun v F1 H1 k1 x1 r1 f1 => ?_⟩
    obtain ⟨rfl, v1⟩ := peek_ok k1 r1 e2
    obtain ⟨g3, rfl⟩ := guard_inv e3
    obtain ⟨a1, p1', rfl, hp1, hd1, ho1⟩ := repOk_inv k1.sub v1 g3
    refine ⟨a1, p1', rfl, hd1, ho1, ?_⟩
    refine ⟨as, F1, _, env, rb, s4, k1, en.ext x1, e4, fun w F2 H2 k2 x2 r2 f2 => ?_⟩
    obtain ⟨rfl, v2⟩ := peek_ok k2 r2 e5
    obtain ⟨g6, rfl⟩ := guard_inv e6
    cases D.beq_eq g6
    obtain ⟨a2, p2', rfl, hp2, hd2, ho2⟩ := repOk_inv k2.sub v2 g3
    rw [hp1] at hp2
    cases hp2
    refine ⟨a2, p1', rfl, hd2, ho2, ?_⟩
    refine ⟨rfl, ?_⟩
    rw [decide_eq_true rfl]
    exact af (.bl _) F2 H2 k2 (x1.trans s.len k1.len x2) (.dat (.bl _)) trivial
  | true =>
    cases op <;> first | (cases h1; done) | skip
    refine PE.imp (pe_cmpR op_ne pa pb (marks_of rfl)) fun σ H Q hh => ?_
    obtain ⟨as, F, st, env, r, st', s, en, e, af⟩ := hh
    obtain ⟨ra, s1, e1, z1⟩ := bind_inv (show (evE a env >>= fun u => peek u >>= fun p => M.guard (repOk p) >>= fun _ => evE b env >>= fun v => peek v >>= fun q => M.guard (D.beq p q) >>= fun _ => (pure (R.dat (.bl (!true))) : M R)) st = .ok r st' from e)
    obtain ⟨d1', s2, e2, z2⟩ := bind_inv z1
    obtain ⟨_, s3, e3, z3⟩ := bind_inv z2
    obtain ⟨rb, s4, e4, z4⟩ := bind_inv z3
    obtain ⟨d2', s5, e5, z5⟩ := bind_inv z4
    obtain ⟨_, s6, e6, z6⟩ := bind_inv z5
    obtain ⟨rfl, rfl⟩ := pure_inv z6
    refine ⟨as, F, st, env, ra, s1, s, en, e1, fun v F1 H1 k1 x1 r1 f1 => ?_⟩
    obtain ⟨rfl, v1⟩ := peek_ok k1 r1 e2
    obtain ⟨g3, rfl⟩ := guard_inv e3
    obtain ⟨a1, p1', rfl, hp1, hd1, ho1⟩ := repOk_inv k1.sub v1 g3
    refine ⟨a1, p1', rfl, hd1, ho1, ?_⟩
    refine ⟨as, F1, _, env, rb, s4, k1, en.ext x1, e4, fun w F2 H2 k2 x2 r2 f2 => ?_⟩
    obtain ⟨rfl, v2⟩ := peek_ok k2 r2 e5
    obtain ⟨g6, rfl⟩ := guard_inv e6
    cases D.beq_eq g6
    obtain ⟨a2, p2', rfl, hp2, hd2, ho2⟩ := repOk_inv k2.sub v2 g3
    rw [hp1] at hp2
    cases hp2
    refine ⟨a2, p1', rfl, hd2, ho2, ?_⟩
    refine ⟨rfl, ?_⟩
    rw [decide_eq_true rfl]
    exact af (.bl _) F2 H2 k2 (x1.trans s.len k1.len x2) (.dat (.bl _)) trivial
end
end DB
set_option maxHeartbeats 4000000
/-! {} and {k: v} of constants -/
namespace DB
open PySem PySem.Spec L2
section
variable {K : PySem.W.Frag} {F H : Hp} {as : List Addr} {st : Sto} {Q : VK}
theorem Aft.dct {kvs : List (Key × V)} {ks vs : List D} (a : Aft K as F H st (.own (.dct ks vs)) st Q) (s : StOk K F H as st) (hl : kvs.length ≤ sizeLine) (hk : ks = kvs.map (fun p => keyD p.1)) (hn : (kvs.map (·.1)).Nodup) (h : DsOk K F (kvs.map (·.2)) vs) {p : Addr} (hp : H p = none) : Q (.ref p) (upd H p (.dK kvs)) := by
  have fp : F p = none := by
    cases q : F p with
    | none => rfl
    | some u => rw [s.sub p u q] at hp; cases hp
  exact a (.ref p) F _ (s.upd hp) (Ext.updH hp) (.own fp (.dct upd_same hl hk hn h) fun z => s.cellSome z hp) (fun b e => by cases e; exact hp)
end
section
variable {c : AC} {kn : Know} {k : Nat} {X : Cx}
theorem dctk_shape {ks vs : List D} {e' : Expr} (h : agE c (.dctk ks vs) e' = true) : (ks = [] ∧ vs = [] ∧ ∃ p, e' = .Dict [] [] p) ∨ ∃ k v k' j1 p1 v' j2 p2 p, ks = [k] ∧ vs = [v] ∧ e' = .Dict [some (.Constant k' j1 p1)] [.Constant v' j2 p2] p ∧ constB k k' = true ∧ constB v v' = true := by
  cases e' with
  | Dict keys values p =>
    rcases ks with _ | ⟨k, ks⟩
    · rcases vs with _ | ⟨v, vs⟩
      · rcases keys with _ | ⟨k1, keys⟩
        · rcases values with _ | ⟨v1, values⟩
          · exact .inl ⟨rfl, rfl, p, rfl⟩
          · exact absurd h Bool.false_ne_true
        · exact absurd h Bool.false_ne_true
      · exact absurd h Bool.false_ne_true
    · rcases ks with _ | ⟨k2, ks⟩
      · rcases vs with _ | ⟨v, vs⟩
        · exact absurd h Bool.false_ne_true
        · rcases vs with _ | ⟨v2, vs⟩
          · rcases keys with _ | ⟨k1, keys⟩
            · exact absurd h Bool.false_ne_true
            · rcases k1 with _ | k1
              · exact absurd h Bool.false_ne_true
              · cases k1 with
                | Constant k' j1 p1 =>
                  rcases keys with _ | ⟨k3, keys⟩
                  · rcases values with _ | ⟨v1, values⟩
                    · exact absurd h Bool.false_ne_true
                    · cases v1 with
                      | Constant v' j2 p2 =>
                        rcases values with _ | ⟨v3, values⟩
                        · obtain ⟨h1, h2⟩ := b2 (show (constB k k' && constB v v') = true from h)
                          exact .inr ⟨k, v, k', j1, p1, v', j2, p2, p, rfl, rfl, rfl, h1, h2⟩
                        · exact absurd h Bool.false_ne_true
                      | _ => exact absurd h Bool.false_ne_true
                  · exact absurd h Bool.false_ne_true
                | _ => exact absurd h Bool.false_ne_true
          · exact absurd h Bool.false_ne_true
      · exact absurd h Bool.false_ne_true
  | _ => rcases ks with _ | ⟨k, _ | ⟨_, _⟩⟩ <;> rcases vs with _ | ⟨v, _ | ⟨_, _⟩⟩ <;> exact absurd h Bool.false_ne_true
theorem pe_const {d : D} {v : Const} {j : Nat} {p : Pos} (h : constB d v = true) : ∃ w, PE X (.Constant v j p) (tC w) ∧ (∀ F, DOk X.K F w d) ∧ (keyF d = true → ∃ key : Key, w = kV key ∧ d = keyD key) := by
  cases d with
  | non => cases v <;> first | exact absurd h Bool.false_ne_true | exact ⟨.non, pe_non, fun _ => .non, fun z => nomatch z⟩
  | bl b => cases v <;> first | exact absurd h Bool.false_ne_true | (cases (show b = _ from beq_iff_eq.mp h); exact ⟨.bl b, pe_bl, fun _ => .bl b, fun z => nomatch z⟩)
  | int i => cases v <;> first | exact absurd h Bool.false_ne_true | (cases (show i = _ from of_decide_eq_true h); exact ⟨.int i, pe_int, fun _ => .int i, fun _ => ⟨.inl i, rfl, rfl⟩⟩)
  | str z => cases v <;> first | exact absurd h Bool.false_ne_true | (cases (show z = _ from of_decide_eq_true h); exact ⟨.str z, pe_str, fun _ => .str z, fun _ => ⟨.inr z, rfl, rfl⟩⟩)
  | _ => cases v <;> exact absurd h Bool.false_ne_true
theorem s_dctk {ks vs : List D} {e' : Expr} (x : XOk c kn k X) (h : agE c (.dctk ks vs) e' = true) : PE X e' (tE X.K (.dctk ks vs)) := by
  rcases dctk_shape h with ⟨rfl, rfl, p, rfl⟩ | ⟨a, b, k', j1, p1, v', j2, p2, p, rfl, rfl, rfl, h1, h2⟩
  · refine PE.imp pe_dnewK fun σ H Q hh => ?_
    obtain ⟨as, F, st, env, r, st', s, en, e, af⟩ := hh
    obtain ⟨_, s1, e1, z1⟩ := bind_inv (show (M.guard (dctkB [] []) >>= fun _ => (pure (R.own (.dct [] [])) : M R)) st = .ok r st' from e)
    obtain ⟨_, rfl⟩ := guard_inv e1
    obtain ⟨rfl, rfl⟩ := pure_inv z1
    exact fun p hp => Aft.dct (kvs := []) af s (Nat.zero_le _) rfl List.nodup_nil .nil hp
  · obtain ⟨w1, q1, d1, key⟩ := pe_const (X := X) (j := j1) (p := p1) h1
    obtain ⟨w2, q2, d2, _⟩ := pe_const (X := X) (j := j2) (p := p2) h2
    refine PE.imp (pe_disp (pps_cons q1 q2 pps_nil) rfl rfl (fun z => nomatch z) (by show 1 ≤ 15; decide)) fun σ H Q hh => ?_
    obtain ⟨as, F, st, env, r, st', s, en, e, af⟩ := hh
    obtain ⟨_, s1, e1, z1⟩ := bind_inv (show (M.guard (dctkB [a] [b]) >>= fun _ => (pure (R.own (.dct [a] [b])) : M R)) st = .ok r st' from e)
    obtain ⟨g, rfl⟩ := guard_inv e1
    obtain ⟨rfl, rfl⟩ := pure_inv z1
    obtain ⟨ky, rfl, rfl⟩ := key (show keyF a = true from g)
    intro p hp
    refine ⟨upd_same, [(ky, w2)], rfl, by show 1 ≤ 15; decide, ?_⟩
    have e2 : upd (upd H p (.dK [])) p (.dK (mergeK [] [(ky, w2)])) = upd H p (.dK [(ky, w2)]) := by
      funext z
      unfold upd
      split <;> rfl
    rw [e2]
    exact Aft.dct (kvs := [(ky, w2)]) af s (by show 1 ≤ sizeLine; rw [sizeLine_eq]; decide) rfl (by simp) (.cons (d2 _) .nil) hp
end
end DB
set_option maxHeartbeats 4000000
/-! set(xs) of any source, whatever is kept of the set under way; len(set(..)) of truths and of tuples of ints -/
namespace DB
open PySem PySem.Spec L2 PyProof.Rows
section
variable {P : Program} {w : World} {A : Around} {E : Value → Shared → Prop} {s : Shared}
/-- an empty set, as it is made -/
abbrev setO (w : World) : Obj := { cls := .type "set", dict := none, data := .set #[] 0 (.fresh 0 0 (!w.params.followText "set-order")) }
/-- what was there is there -/
def Stays (h h' : Heap) : Prop := ∀ b o, h.get? b = some o → h'.get? b = some o
/-- what is known of the set at S when i items are in it -/
structure Grows (P : Program) (w : World) (A : Around) (base : Heap) (S : Addr) (n : Nat) (Pv : Nat → Value → Prop) (Z : Nat → Heap → Prop) : Prop where
  keep : ∀ i h h', Stays base h' → (∀ o, h.get? S = some o → h'.get? S = some o) → Z i h → Z i h'
  step : ∀ i v (s : Shared) (E : Value → Shared → Prop) (Q : Bool → Shared → Prop), i < n → Pv i v → Z i s.heap → Stays base s.heap →
    (∀ b h' tk, s.toks ≤ tk → Heap.SameBut S s.heap h' → Z (i + 1) h' → Q b { s with heap := h', toks := tk }) → wpAny (model P w) A (setAdd S v) Q E s
theorem grow_loop {I : Addr} {fp wr : List Addr} {G : Array GenState → Array GenState → Prop} {n : Nat} {Pv : Nat → Value → Prop} {St : Nat → Shared → Prop} {R : Result → Shared → Prop} {base : Heap} {S : Addr} {Z : Nat → Heap → Prop}
    (W : WalksS P w A.in1 I fp wr G n Pv St) (g : Grows P w A.in1 base S n Pv Z) (hf : S ∉ fp) (hb : base.get? S = none) (hw : ∀ b ∈ wr, base.get? b = none) :
    ∀ (m i : Nat) (s : Shared), i + m = n → St i s → Stays base s.heap → Z i s.heap →
      (∀ s', Moved (S :: wr) G s s' → Z n s'.heap → Stays base s'.heap → R (.ok (.ret .none)) s') → codeAny (model P w) A (.builtin "set.update.loop" ⟨[.ref S, .ref I], []⟩) R s := by
  have hS : S ∉ wr := fun z => hf (W.sub S z)
  have wide : ∀ b, b ∈ wr → b ∈ S :: wr := fun b z => List.mem_cons_of_mem S z
  have stay : ∀ {u u' : Shared}, Moved wr G u u' → Stays base u.heap → Stays base u'.heap := fun {u u'} mv k b o e => mv.heap b o (fun z => nomatch (hw b z).symm.trans e) (k b o e)
  intro m
  induction m with
  | zero =>
    intro i s him st k z fin
    obtain rfl : i = n := by omega
    refine codeAny_builtin F.entry_set_update_loop ?_
    rw [Around.under_plainId F.plain_set_update_loop]
    show wpAny _ A.in1 (pyNext (.ref I) >>= _) _ _ s
    exact wpAny_bind (W.done s _ _ st fun u mv => (wpAny_pure (fin u (mv.mono wide) (g.keep _ _ _ (stay mv k) (fun o e => mv.heap S o hS e) z) (stay mv k)) : wpAny _ A.in1 (ret Value.none) _ _ u))
  | succ m ih =>
    intro i s him st k z fin
    refine codeAny_builtin F.entry_set_update_loop ?_
    rw [Around.under_plainId F.plain_set_update_loop]
    show wpAny _ A.in1 (pyNext (.ref I) >>= _) _ _ s
    refine wpAny_bind (W.item i s _ _ (by omega) st fun v u pv st1 mv => ?_)
    have k1 := stay mv k
    have z1 := g.keep _ _ _ k1 (fun o e => mv.heap S o hS e) z
    show wpAny _ A.in1 (holding [v] (setAdd S v) >>= _) _ _ u
    refine wpAny_bind (wpAny_holding (g.step i v u _ _ (by omega) pv z1 k1 fun b h' tk htk sb z2 => ?_))
    have k2 : Stays base h' := fun b o e => (sb.2 b fun q => by rw [q, hb] at e; cases e).trans (k1 b o e)
    refine wpAny_pure ⟨plainId_quiet F.plain_set_update_loop _, ih (i + 1) { u with heap := h', toks := tk } (by omega) (W.frame _ u _ _ st1 htk fun b hbf o e => (sb.2 b fun q => hf (q ▸ hbf)).trans e) k2 z2 fun u' mv' z' k' => fin u' (Moved.trans W.gtrans ((mv.mono wide).then_heap htk fun b o nb e => ?_) mv') z' k'⟩
    exact (sb.2 b fun q => nb (q ▸ List.mem_cons_self ..)).trans e
theorem fresh_none {h : Heap} {b : Addr} (hb : h.objs.size ≤ b) : h.get? b = none := by
  cases q : h.get? b with
  | none => rfl
  | some o => exact absurd (Heap.lt_size q) (Nat.not_lt.mpr hb)
/-- set(xs), xs a list -/
theorem set_newL {l : Addr} {items : Array Value} {Q : Value → Shared → Prop} {Z : Nat → Heap → Prop} (hh : A.handled = none) (hl : s.heap.IsList l items)
    (z0 : ∀ h, h.get? s.heap.objs.size = some (setO w) → Stays s.heap h → Z 0 h) (g : Grows P w A.in1.in1.in1 s.heap s.heap.objs.size items.size (fun i v => items[i]? = some v) Z)
    (fin : ∀ h' tk, Z items.size h' → Stays s.heap h' → Q (.ref s.heap.objs.size) { s with heap := h', toks := tk }) : wpAny (model P w) A (call (.type "set") [.ref l]) Q E s := by
  obtain ⟨c, tl, hmro⟩ := F.called_set.mro
  have c1 := F.called_set.made
  have c2 := F.called_set.sub
  have c3 := F.called_set.notType
  have c4 := F.called_set.canCreate
  have c5 := F.typeCall_set_1 (.ref l)
  refine wpAny_call (codeAny_of_tree (?_ : wpAny _ _ (callAny (.type "set") _) _ _ _))
  refine wpAny_pure ⟨Code.quiet_builtin _ (by decide +kernel), codeAny_builtin F.entry_type_call ?_⟩
  rw [Around.under_plain (weight_type_call_type "set" [.ref l] []) rfl]
  repeat (any_goals (first | assumption | wp_step))
  refine codeAny_mono (code_set_led1 (.ref l) (E := E) (Q₁ := fun u s1 => u = .ref s.heap.objs.size ∧ s1 = { s with heap := s.heap.push (setO w) }) ⟨rfl, rfl⟩) fun r s1 hr => ?_
  rcases r with e | fl
  · exact hr
  rcases fl with _ | _ | _ | u <;> first | exact hr.elim | skip
  obtain ⟨rfl, rfl⟩ := hr
  have hnew : (s.heap.push (setO w)).get? s.heap.objs.size = some (setO w) := Heap.get?_push_size _ rfl
  have isS : Shared.TypeIs { s with heap := s.heap.push (setO w) } (.ref s.heap.objs.size) "set" := ⟨_, hnew, rfl⟩
  have c6 := F.called_set.init.lookup
  have c7 := F.called_set.init.bind (.ref s.heap.objs.size)
  repeat (any_goals (first | assumption | wp_step))
  refine codeAny_mono (codeAny_call_builtin (R := wants (fun r s2 => r = .none ∧ ∃ h' tk, s2 = { s with heap := h', toks := tk } ∧ Z items.size h' ∧ Stays s.heap h') E) F.called_set.init.plain F.entry_set_init (check_set_init_1 isS ?_)) fun r2 s2 hr2 => ?_
  · obtain ⟨⟨lc, ld, lt, ls⟩, ho, hc, n, hd⟩ := hl
    simp only at hc hd
    subst hc
    subst hd
    have ho' : (s.heap.push (setO w)).get? l = some { cls := .type "list", dict := ld, data := .seq items n, slots := ls } := Heap.get?_push_of_some _ ho
    have d1 := F.sub_list_set
    have d2 := F.sub_list_frozenset
    have d3 : (Value.type "list" == Value.type "dict") = false := by decide
    have hl1 : (s.heap.push (setO w)).IsList l items := ⟨_, ho', rfl, n, rfl⟩
    unfold Builtin.«set.__init__» noKeywords Builtin.Frozenset.updateFrom
    generalize hPI : pyIter = PI
    wp_walk
    subst hPI
    refine wpAny_pyIter_list hl1 (wpAny_bind (wpAny_runValue ?_))
    have hh3 : A.in1.in1.in1.handled = none := by simp [hh]
    have hlt : l < s.heap.objs.size := Heap.lt_size ho
    have hz1 : (s.heap.push (setO w)).objs.size = s.heap.objs.size + 1 := Heap.size_push ..
    have ne1 : l ≠ (s.heap.push (setO w)).objs.size := by rw [hz1]; exact Nat.ne_of_lt (Nat.lt_succ_of_lt hlt)
    refine grow_loop ((Walks.list hh3 _ l ne1 items).toS) g ?_ (fresh_none (Nat.le_refl _)) (fun b hb => fresh_none (by rw [List.mem_singleton.mp hb, hz1]; omega)) items.size 0 _ (Nat.zero_add _)
      ⟨⟨_, Heap.get?_push_size _ rfl, rfl, rfl⟩, hl1.push _⟩ (fun b o e => Heap.get?_push_of_some _ (Heap.get?_push_of_some _ e)) (z0 _ (Heap.get?_push_of_some _ hnew) fun b o e => Heap.get?_push_of_some _ (Heap.get?_push_of_some _ e)) fun s' mv z k => ?_
    · rw [hz1]
      simp only [List.mem_cons, List.not_mem_nil, or_false, not_or]
      exact ⟨Nat.ne_of_lt (Nat.lt_succ_self _), fun e => Nat.lt_irrefl l (by rw [← e] at hlt ⊢; exact hlt)⟩
    · obtain ⟨h', g', d', tk', os'⟩ := s'
      obtain rfl : g' = s.gens := mv.gens
      obtain rfl : d' = s.drawn := mv.drawn
      obtain rfl : os' = s.os := mv.os
      refine wpAny_pure ?_
      show wpAny _ _ (ret Value.none) _ _ _
      exact wpAny_pure ⟨rfl, h', tk', rfl, z, k⟩
  · rcases r2 with e | fl
    · exact hr2
    rcases fl with _ | _ | _ | u <;> first | exact hr2.elim | skip
    obtain ⟨rfl, h', tk, rfl, z, k⟩ := hr2
    repeat (any_goals (first | assumption | wp_step))
    exact fin h' tk z k
/-- set(xs), xs a tuple -/
theorem set_newT {l : Addr} {items : Array Value} {Q : Value → Shared → Prop} {Z : Nat → Heap → Prop} (hh : A.handled = none) (hl : s.heap.IsTuple l items)
    (z0 : ∀ h, h.get? s.heap.objs.size = some (setO w) → Stays s.heap h → Z 0 h) (g : Grows P w A.in1.in1.in1 s.heap s.heap.objs.size items.size (fun i v => items[i]? = some v) Z)
    (fin : ∀ h' tk, Z items.size h' → Stays s.heap h' → Q (.ref s.heap.objs.size) { s with heap := h', toks := tk }) : wpAny (model P w) A (call (.type "set") [.ref l]) Q E s := by
  obtain ⟨c, tl, hmro⟩ := F.called_set.mro
  have c1 := F.called_set.made
  have c2 := F.called_set.sub
  have c3 := F.called_set.notType
  have c4 := F.called_set.canCreate
  have c5 := F.typeCall_set_1 (.ref l)
  refine wpAny_call (codeAny_of_tree (?_ : wpAny _ _ (callAny (.type "set") _) _ _ _))
  refine wpAny_pure ⟨Code.quiet_builtin _ (by decide +kernel), codeAny_builtin F.entry_type_call ?_⟩
  rw [Around.under_plain (weight_type_call_type "set" [.ref l] []) rfl]
  repeat (any_goals (first | assumption | wp_step))
  refine codeAny_mono (code_set_led1 (.ref l) (E := E) (Q₁ := fun u s1 => u = .ref s.heap.objs.size ∧ s1 = { s with heap := s.heap.push (setO w) }) ⟨rfl, rfl⟩) fun r s1 hr => ?_
  rcases r with e | fl
  · exact hr
  rcases fl with _ | _ | _ | u <;> first | exact hr.elim | skip
  obtain ⟨rfl, rfl⟩ := hr
  have hnew : (s.heap.push (setO w)).get? s.heap.objs.size = some (setO w) := Heap.get?_push_size _ rfl
  have isS : Shared.TypeIs { s with heap := s.heap.push (setO w) } (.ref s.heap.objs.size) "set" := ⟨_, hnew, rfl⟩
  have c6 := F.called_set.init.lookup
  have c7 := F.called_set.init.bind (.ref s.heap.objs.size)
  repeat (any_goals (first | assumption | wp_step))
  refine codeAny_mono (codeAny_call_builtin (R := wants (fun r s2 => r = .none ∧ ∃ h' tk, s2 = { s with heap := h', toks := tk } ∧ Z items.size h' ∧ Stays s.heap h') E) F.called_set.init.plain F.entry_set_init (check_set_init_1 isS ?_)) fun r2 s2 hr2 => ?_
  · obtain ⟨⟨lc, ld, lt, ls⟩, ho, hc, n, hd⟩ := hl
    simp only at hc hd
    subst hc
    subst hd
    have ho' : (s.heap.push (setO w)).get? l = some { cls := .type "tuple", dict := ld, data := .seq items n, slots := ls } := Heap.get?_push_of_some _ ho
    have d1 := F.sub_tuple_set
    have d2 := F.sub_tuple_frozenset
    have d3 : (Value.type "tuple" == Value.type "dict") = false := by decide
    have hl1 : (s.heap.push (setO w)).IsTuple l items := ⟨_, ho', rfl, n, rfl⟩
    unfold Builtin.«set.__init__» noKeywords Builtin.Frozenset.updateFrom
    generalize hPI : pyIter = PI
    wp_walk
    subst hPI
    refine wpAny_pyIter_tuple hl1 (wpAny_bind (wpAny_runValue ?_))
    have hh3 : A.in1.in1.in1.handled = none := by simp [hh]
    have hlt : l < s.heap.objs.size := Heap.lt_size ho
    have hz1 : (s.heap.push (setO w)).objs.size = s.heap.objs.size + 1 := Heap.size_push ..
    have ne1 : l ≠ (s.heap.push (setO w)).objs.size := by rw [hz1]; exact Nat.ne_of_lt (Nat.lt_succ_of_lt hlt)
    refine grow_loop ((Walks.tuple hh3 _ l ne1 items).toS) g ?_ (fresh_none (Nat.le_refl _)) (fun b hb => fresh_none (by rw [List.mem_singleton.mp hb, hz1]; omega)) items.size 0 _ (Nat.zero_add _)
      ⟨⟨_, Heap.get?_push_size _ rfl, rfl, rfl⟩, hl1.push _⟩ (fun b o e => Heap.get?_push_of_some _ (Heap.get?_push_of_some _ e)) (z0 _ (Heap.get?_push_of_some _ hnew) fun b o e => Heap.get?_push_of_some _ (Heap.get?_push_of_some _ e)) fun s' mv z k => ?_
    · rw [hz1]
      simp only [List.mem_cons, List.not_mem_nil, or_false, not_or]
      exact ⟨Nat.ne_of_lt (Nat.lt_succ_self _), fun e => Nat.lt_irrefl l (by rw [← e] at hlt ⊢; exact hlt)⟩
    · obtain ⟨h', g', d', tk', os'⟩ := s'
      obtain rfl : g' = s.gens := mv.gens
      obtain rfl : d' = s.drawn := mv.drawn
      obtain rfl : os' = s.os := mv.os
      refine wpAny_pure ?_
      show wpAny _ _ (ret Value.none) _ _ _
      exact wpAny_pure ⟨rfl, h', tk', rfl, z, k⟩
  · rcases r2 with e | fl
    · exact hr2
    rcases fl with _ | _ | _ | u <;> first | exact hr2.elim | skip
    obtain ⟨rfl, h', tk, rfl, z, k⟩ := hr2
    repeat (any_goals (first | assumption | wp_step))
    exact fin h' tk z k
end
end DB
set_option maxHeartbeats 4000000
/-! len(set(..)) of truths and of tuples of ints -/
namespace DB
open PySem PySem.Spec L2 PyProof.Rows
section
variable {P : Program} {w : World} {A : Around} {E : Value → Shared → Prop} {s : Shared}
open PpSet
theorem cntB_snoc (bs : List Bool) (b : Bool) : cntB (bs ++ [b]) = if decide (b ∈ bs) = true then cntB bs else cntB bs + 1 := by
  unfold cntB
  by_cases h1 : true ∈ bs <;> by_cases h2 : false ∈ bs <;> cases b <;> simp [h1, h2]
theorem take_snoc {α : Type} {l : List α} {i : Nat} {x : α} (h : l[i]? = some x) : l.take (i + 1) = l.take i ++ [x] := by
  rw [List.take_add_one, h]
  rfl
theorem bool_at {bs : List Bool} {items : Array Value} (hi : items.toList = bs.map Value.bool) {i : Nat} {v : Value} (h : items[i]? = some v) : ∃ b, bs[i]? = some b ∧ v = .bool b := by
  have q : items.toList[i]? = some v := by rw [Array.getElem?_toList]; exact h
  rw [hi, List.getElem?_map] at q
  cases hb : bs[i]? with
  | none => rw [hb] at q; cases q
  | some b =>
    rw [hb] at q
    cases q
    exact ⟨b, rfl, rfl⟩
theorem growsB {base : Heap} {S : Addr} {bs : List Bool} {items : Array Value} (hi : items.toList = bs.map Value.bool) :
    Grows P w A base S items.size (fun i v => items[i]? = some v) (fun i h => SetB w h S (fun k => decide (k ∈ bs.take i)) (cntB (bs.take i))) where
  keep := fun i h h' _ k z => z.at k
  step := fun i v s E Q _ pv z _ fin => by
    obtain ⟨b, hb, rfl⟩ := bool_at hi pv
    unfold setAdd
    refine wpAny_holding (wpAny_bind ((boolK P w).pyHash (boolK_is P w b) ?_))
    have room : cntB (bs.take i) + 1 < scanBound := by
      unfold cntB scanBound
      split <;> split <;> omega
    refine setB_add_hashed (s := { s with toks := s.toks + 1 }) z room fun h' sb r => fin _ h' (s.toks + 1) (Nat.le_succ _) sb ?_
    rw [take_snoc hb, cntB_snoc]
    refine r.congr fun k => ?_
    rw [← Bool.decide_or]
    simp
theorem setB_zero {h : Heap} {a : Addr} (ho : h.get? a = some (setO w)) (f : Bool → Bool) (hf : ∀ k, f k = false) : SetB w h a f 0 :=
  ⟨_, #[], 0, _, ho, ⟨rfl, rfl, rfl⟩, rfl, (fun e he => by simp at he), (by simp), (fun k => by simp [hf k]), (by decide), (by rfl), rfl, List.Pairwise.nil, by
    show _ ∨ (!w.params.followText "set-order") = true
    cases w.params.followText "set-order"
    · exact .inr rfl
    · exact .inl rfl⟩
/-- len(set(bs)) .. -/
theorem len_setB {l : Addr} {items : Array Value} {bs : List Bool} {Q : Value → Shared → Prop} (hh : A.handled = none) (hl : s.heap.IsList l items) (hi : items.toList = bs.map Value.bool)
    (fin : ∀ h' tk, SetB w h' s.heap.objs.size (fun k => decide (k ∈ bs)) (cntB bs) → Stays s.heap h' → Q (.ref s.heap.objs.size) { s with heap := h', toks := tk }) : wpAny (model P w) A (call (.type "set") [.ref l]) Q E s := by
  have hn : items.size = bs.length := by
    have := congrArg List.length hi
    simpa using this
  refine set_newL hh hl (fun h ho _ => setB_zero ho _ fun k => by simp) (growsB hi) fun h' tk z k => fin h' tk ?_ k
  rw [hn, List.take_length] at z
  exact z
end
section
variable {P : Program} {w : World} {A : Around} {E : Value → Shared → Prop} {s : Shared}
theorem dedL_mem : ∀ {l : List (List Int)} {k : List Int}, k ∈ dedL l ↔ k ∈ l
  | [], k => Iff.rfl
  | i :: l, k => by
    show k ∈ i :: (dedL l).filter (fun j => !decide (j = i)) ↔ _
    rw [List.mem_cons, List.mem_cons, List.mem_filter, dedL_mem]
    by_cases h : k = i
    · simp [h]
    · simp [h]
theorem dedL_nodup : ∀ l : List (List Int), (dedL l).Nodup
  | [] => List.nodup_nil
  | i :: l => by
    show (i :: (dedL l).filter (fun j => !decide (j = i))).Nodup
    refine List.nodup_cons.mpr ⟨?_, (dedL_nodup l).filter _⟩
    rw [List.mem_filter]
    simp
theorem len_of_mem {α : Type} [DecidableEq α] : ∀ {l m : List α}, l.Nodup → m.Nodup → (∀ k, k ∈ l ↔ k ∈ m) → l.length = m.length
  | [], m, _, _, h => by
    cases m with
    | nil => rfl
    | cons x m => exact absurd ((h x).mpr List.mem_cons_self) (by simp)
  | x :: l, m, d1, d2, h => by
    obtain ⟨d0, d1⟩ := List.nodup_cons.mp d1
    have hx : x ∈ m := (h x).mp List.mem_cons_self
    have := len_of_mem d1 (d2.erase x) fun k => by
      rw [List.Nodup.mem_erase_iff d2]
      constructor
      · intro hk
        exact ⟨fun e => d0 (e ▸ hk), (h k).mp (List.mem_cons_of_mem _ hk)⟩
      · rintro ⟨hne, hk⟩
        rcases List.mem_cons.mp ((h k).mpr hk) with e | e
        · exact absurd e hne
        · exact e
    have hp := List.length_pos_of_mem hx
    rw [List.length_cons, this, List.length_erase_of_mem hx]
    omega
theorem ref_at {ks : List (Addr × List Int)} {items : Array Value} (hi : items.toList = ks.map fun p => Value.ref p.1) {i : Nat} {v : Value} (h : items[i]? = some v) : ∃ p, ks[i]? = some p ∧ v = .ref p.1 := by
  have q : items.toList[i]? = some v := by rw [Array.getElem?_toList]; exact h
  rw [hi, List.getElem?_map] at q
  cases hb : ks[i]? with
  | none => rw [hb] at q; cases q
  | some b =>
    rw [hb] at q
    cases q
    exact ⟨b, rfl, rfl⟩
/-- the set of tuples under way -/
def ZT (P : Program) (w : World) (base : Heap) (S : Addr) (ks : List (Addr × List Int)) (i : Nat) (h : Heap) : Prop := Stays base h ∧ ∃ L es ep t, SetTR P w h S L es ep t ∧ Got ks i L
theorem growsT {base : Heap} {S : Addr} {ks : List (Addr × List Int)} {items : Array Value} (hi : items.toList = ks.map fun p => Value.ref p.1) (hk : ∀ p ∈ ks, IsT P w base p.2 p.1) (hS : base.get? S = none) (few : ks.length < 64) (hu : A.units < cLine) :
    Grows P w A base S items.size (fun i v => items[i]? = some v) (ZT P w base S ks) where
  keep := fun i h h' b k ⟨_, L, es, ep, t, r, g⟩ => ⟨b, L, es, ep, t, r.keep k fun p hp => isT_keep (hk p (List.mem_of_mem_take (g.sub p hp))) b, g⟩
  step := fun i v s E Q hlt pv ⟨_, L, es, ep, t, r, g⟩ b fin => by
    obtain ⟨p, hp, rfl⟩ := ref_at hi pv
    have hx : IsT P w s.heap p.2 p.1 := isT_keep (hk p (List.mem_of_getElem? hp)) b
    have hn : items.size = ks.length := by
      have := congrArg List.length hi
      simpa using this
    unfold setAdd
    refine wpAny_holding (wpAny_bind (wpAny_pyHash_tuple hu hx ?_))
    refine add_at (s := { s with toks := s.toks + (p.2.length + 1) }) r hx hu (by have := g.len; omega) fun o h' L' es' ep' t' sb r' c1 c2 => fin o h' _ (Nat.le_add_right _ _) sb ⟨fun c u e => (sb.2 c fun q => by rw [q, hS] at e; cases e).trans (b c u e), L', es', ep', t', r', ?_⟩
    by_cases c : p.2 ∈ L.map (·.2)
    · rw [c1 c]
      exact g.same hp c
    · exact g.more hp (c2 c)
theorem setT_zero {h : Heap} {a : Addr} (ho : h.get? a = some (setO w)) : SetTR P w h a [] #[] 0 (.fresh 0 0 (!w.params.followText "set-order")) := setTR_fresh ho
/-- set(t), t a tuple of tuples of ints -/
theorem set_tupT {l : Addr} {items : Array Value} (ks : List (Addr × List Int)) {Q : Value → Shared → Prop} (hh : A.handled = none) (hl : s.heap.IsTuple l items) (hi : items.toList = ks.map fun p => Value.ref p.1) (hk : ∀ p ∈ ks, IsT P w s.heap p.2 p.1) (few : ks.length < 64) (hu : A.units + 3 < cLine)
    (fin : ∀ h' tk L es ep t, SetTR P w h' s.heap.objs.size L es ep t → L.length = (dedL (ks.map (·.2))).length → Stays s.heap h' → Q (.ref s.heap.objs.size) { s with heap := h', toks := tk }) : wpAny (model P w) A (call (.type "set") [.ref l]) Q E s := by
  have hn : items.size = ks.length := by
    have := congrArg List.length hi
    simpa using this
  refine set_newT hh hl (fun h ho b => ⟨b, [], #[], 0, _, setT_zero ho, Got.zero ks⟩) (growsT hi hk (fresh_none (Nat.le_refl _)) few (by show A.units + 1 + 1 + 1 < cLine; omega)) fun h' tk ⟨_, L, es, ep, t, r, g⟩ k => fin h' tk L es ep t r ?_ k
  rw [hn] at g
  rw [← List.length_map (f := fun p : Addr × List Int => p.2)]
  refine len_of_mem r.nd (dedL_nodup _) fun k => ?_
  rw [dedL_mem]
  constructor
  · intro h
    obtain ⟨p, hp, rfl⟩ := List.mem_map.mp h
    exact List.mem_map.mpr ⟨p, List.mem_of_mem_take (g.sub p hp), rfl⟩
  · intro h
    obtain ⟨p, hp, rfl⟩ := List.mem_map.mp h
    exact g.all p (by rw [List.take_length]; exact hp)
end
section
variable {X : Cx}
open PpSet
/-- len(set(xs)): truths in a list, tuples of ints in a tuple -/
def tLenSet (K : PySem.W.Frag) (ta : TE) : TE := fun σ H Q => ta σ H fun x H1 => (∃ l bs, x = V.ref l ∧ SqL K H1 l (bs.map V.bl) ∧ Q (.int (cntB bs : Nat)) H1) ∨
  ∃ (l : Addr) (ks : List (Addr × List Int)), x = V.ref l ∧ SqT K H1 l (ks.map fun p => V.ref p.1) ∧ (∀ p ∈ ks, SqT K H1 p.1 (p.2.map V.int)) ∧ ks.length < 64 ∧ Q (.int ((dedL (ks.map (·.2))).length : Nat)) H1
theorem vals_bls : ∀ {bs : List Bool} {us : List Value}, Vals (bs.map V.bl) us → us = bs.map Value.bool
  | [], _, .nil => rfl
  | b :: bs, _, .cons r t => by
    cases r
    rw [vals_bls t]
    rfl
theorem cntB_le (bs : List Bool) : cntB bs ≤ 2 := by
  unfold cntB
  split <;> split <;> decide
theorem pe_lenSet {a : Expr} {ta : TE} {p p2 q pos : Pos} (hc : X.calm = true) (hu : X.A.units + 65 < cLine) (hg : Gl X "len") (hm : X.mg "len" = none) (hg2 : Gl X "set") (hm2 : X.mg "set" = none) (ha : PE X a ta)
    (na : starEach [a] X.env = (false, eval a X.env) :: starEach [] X.env) : PE X (.Call (.Name "len" p) [.Call (.Name "set" p2) [a] [] q] [] pos) (tLenSet X.K ta) := by
  refine ⟨fun pins s σ H Q I h => Call_ (ld_blt I hg hm PySem.boot_len (PyProof.Rows.callWith_builtin1 (PyProof.Rows.args_cons (Call_ (ld_blt I hg2 hm2 PyProof.Rows.boot_set ?_)) rfl) rfl rfl))⟩
  refine PyProof.Rows.callWith_type1 (PyProof.Rows.args_cons (thn (ha.run pins s σ H _ I h) fun v s1 ⟨x, H1, I1, r1, q1⟩ => PyProof.Rows.args_nil ?_) na) na rfl
  rcases q1 with ⟨l, bs, rfl, hq, q1⟩ | ⟨l, ks, rfl, hq, hks, few, q1⟩
  · cases r1
    obtain ⟨its, rv, pl, hz⟩ := I1.list hq
    refine len_setB (I1.ok.hd hc) pl.isList (bs := bs) (by simpa using vals_bls rv) fun h' tk z k => PyProof.Rows.args_nil ?_
    obtain ⟨o, es, ep, t, ho, hex, hd, _, _, _, _, hf, hn, _, _⟩ := z
    have I2 : Inv X pins σ H1 { s1 with heap := h', toks := tk } := I1.kept fun b o e => k b o e
    exact call_len_set ho hex hd hf (by have := cntB_le bs; omega) ⟨.int (cntB bs), H1, I2.tok _, ⟨_, by rw [hn]⟩, q1⟩
  · cases r1
    obtain ⟨its, rv, pl, hz⟩ := I1.tuple hq
    refine set_tupT ks (I1.ok.hd hc) pl (by simpa using refs_of_vals rv) (fun p hp => I1.isT (hks p hp)) few (by omega) fun h' tk L es ep t z hL k => PyProof.Rows.args_nil ?_
    obtain ⟨o, ho, hex, hd⟩ := z.ob
    have I2 : Inv X pins σ H1 { s1 with heap := h', toks := tk } := I1.kept fun b o e => k b o e
    have hn : es.size = (dedL (ks.map (·.2))).length := (SetTR.size (s := { s1 with heap := h' }) z).trans hL
    exact call_len_set ho hex hd (SetTR.fits (s := { s1 with heap := h' }) z) (by have := z.few; have := SetTR.size (s := { s1 with heap := h' }) z; omega) ⟨.int (dedL (ks.map (·.2))).length, H1, I2.tok _, ⟨_, by rw [hn]⟩, q1⟩
end
end DB
set_option maxHeartbeats 4000000
namespace DB
open PySem PySem.Spec L2
section
variable {c : AC} {kn : Know} {k : Nat} {X : Cx}
theorem DsOk.dropLast {K : PySem.W.Frag} {F : Hp} {vs : List V} {ds : List D} (h : DsOk K F vs ds) : DsOk K F vs.dropLast ds.dropLast := by
  have e : ds.dropLast = ds.take (vs.length - 1) := by rw [h.length]; exact List.dropLast_eq_take
  rw [e, List.dropLast_eq_take]
  exact h.take _
def mId : Mm → String
  | .append => "list.append" | .insert => "list.insert" | .pop => "list.pop" | .popi => "list.pop" | .extend => "list.extend"
def rMth (K : PySem.W.Frag) (m : Mm) : V → List V → Hp → VK → Prop := fun x vs H Q => ∃ as F st n a d ds r st', x = .ref a ∧ StOk K F H as st ∧ as[n]? = some a ∧ st[n]? = some ⟨d, true⟩ ∧ DsOk K F vs ds ∧ mthB m n d ds st = .ok r st' ∧
  ∀ v H', StOk K F H' as st' → Ext [] as F H st as F H' st' → ROk K F H' as v r → (∀ d, r ≠ .own d) → Q v H'
theorem write_inv {n : Nat} {d : D} {α : Type} {f : Unit → M α} {st st' : Sto} {a : α} (h : (write n d >>= f) st = .ok a st') : f () (st.set n ⟨d, true⟩) = .ok a st' := by
  obtain ⟨u, s1, e, z⟩ := bind_inv h
  have : s1 = st.set n ⟨d, true⟩ := by cases e; rfl
  subst this
  exact z
theorem lstG_inv {d : D} {st st' : Sto} {u : Unit} (h : lstG d st = .ok u st') : st' = st ∧ ∃ xs, d = .lst xs := by
  cases d with
  | lst xs => cases h; exact ⟨rfl, xs, rfl⟩
  | _ => exact (no_inv h).elim
theorem mt_all (m : Mm) : MtR X (mId m) (rMth X.K m) := by
  intro pins s σ H x vs v us Q I rx rv h
  obtain ⟨as, F, st, n, a, d, ds, r, st', rfl, so, ha, hn, hd, e, af⟩ := h
  obtain ⟨f0, c0, u0⟩ := so.live n a d ha hn
  cases c0 with
  | @dct kvs ks0 vs0 ho hl he hd0 hr => exact (no_inv (show (M.no : M R) st = .ok r st' by cases m <;> exact e)).elim
  | @lst xs ds0 ho hl hr =>
  cases m with
  | append =>
    match ds, hd, e with
    | [y], hd, e =>
      cases hd with
      | cons h1 h2 =>
      cases h2
      obtain ⟨_, s1, e1, z1⟩ := bind_inv (show (M.guard (decide (ds0.length < sizeLine)) >>= fun _ => write n (.lst (ds0 ++ [y])) >>= fun _ => (pure (R.dat .non) : M R)) st = .ok r st' from e)
      obtain ⟨g, rfl⟩ := guard_inv e1
      obtain ⟨rfl, rfl⟩ := pure_inv (show (pure _ : M R) _ = _ from write_inv z1)
      have hz : xs.length < sizeLine := by rw [hr.length]; exact of_decide_eq_true g
      obtain ⟨k3, x3⟩ := so.write (o := .lst _) ha hn (.lst upd_same (by rw [List.length_append]; exact hz) (hr.append (.cons h1 .nil)))
      exact mt_append pins s σ H _ _ _ _ Q I rx rv ⟨a, xs, _, rfl, rfl, ho, hz, af .non _ k3 x3 (.dat .non) (fun _ z => nomatch z)⟩
    | [], _, e => exact (no_inv e).elim
    | _ :: _ :: _, _, e => exact (no_inv e).elim
  | insert =>
    match ds, hd, e with
    | [.int i, y], hd, e =>
      cases hd with
      | cons h1 h2 =>
      cases h1
      cases h2 with
      | cons h2 h3 =>
      cases h3
      obtain ⟨_, s1, e1, z1⟩ := bind_inv (show (M.guard (decide (ds0.length < sizeLine) && (decide (0 ≤ i) && decide (i < 2 ^ 63))) >>= fun _ => write n (.lst (ds0.take i.toNat ++ [y] ++ ds0.drop i.toNat)) >>= fun _ => (pure (R.dat .non) : M R)) st = .ok r st' from e)
      obtain ⟨g, rfl⟩ := guard_inv e1
      obtain ⟨rfl, rfl⟩ := pure_inv (show (pure _ : M R) _ = _ from write_inv z1)
      simp only [Bool.and_eq_true, decide_eq_true_eq] at g
      obtain ⟨g1, g2, g3⟩ := g
      have hz : xs.length < sizeLine := by rw [hr.length]; exact g1
      obtain ⟨k3, x3⟩ := so.write (o := .lst _) ha hn (.lst upd_same (by rw [List.length_append, List.length_append, List.length_take, List.length_drop, List.length_singleton]; omega) (((hr.take i.toNat).append (.cons h2 .nil)).append (hr.drop i.toNat)))
      exact mt_insert pins s σ H _ _ _ _ Q I rx rv ⟨a, xs, i, _, rfl, rfl, ho, hz, g2, g3, af .non _ k3 x3 (.dat .non) (fun _ z => nomatch z)⟩
    | [], _, e => exact (no_inv e).elim
    | [d], _, e => exact (no_inv (show (M.no : M R) st = .ok r st' by cases d <;> exact e)).elim
    | d :: _ :: _ :: _, _, e => exact (no_inv (show (M.no : M R) st = .ok r st' by cases d <;> exact e)).elim
    | [.non, _], _, e => exact (no_inv e).elim
    | [.bl _, _], _, e => exact (no_inv e).elim
    | [.str _, _], _, e => exact (no_inv e).elim
    | [.tup _, _], _, e => exact (no_inv e).elim
    | [.lst _, _], _, e => exact (no_inv e).elim
    | [.scr _, _], _, e => exact (no_inv e).elim
    | [.dct _ _, _], _, e => exact (no_inv e).elim
    | [.obj _ _, _], _, e => exact (no_inv e).elim
    | [.fn _, _], _, e => exact (no_inv e).elim
    | [.itr _, _], _, e => exact (no_inv e).elim
  | pop =>
    match ds, hd, e with
    | [], hd, e =>
      cases hd
      obtain ⟨y, s1, e1, z1⟩ := bind_inv (show (M.opt ds0[ds0.length - 1]? >>= fun y => write n (.lst ds0.dropLast) >>= fun _ => (pure (R.dat y) : M R)) st = .ok r st' from e)
      obtain ⟨g, rfl⟩ := opt_inv e1
      obtain ⟨rfl, rfl⟩ := pure_inv (show (pure _ : M R) _ = _ from write_inv z1)
      obtain ⟨w, hw, dw⟩ := hr.get g
      obtain ⟨k3, x3⟩ := so.write (o := .lst xs.dropLast) ha hn (.lst upd_same (by rw [List.length_dropLast]; omega) (DsOk.dropLast hr))
      exact mt_pop pins s σ H _ _ _ _ Q I rx rv ⟨a, xs, w, rfl, rfl, ho, by rw [hr.length]; exact hw, af w _ k3 x3 (.dat dw) (fun _ z => nomatch z)⟩
    | _ :: _, _, e => exact (no_inv e).elim
  | popi =>
    match ds, hd, e with
    | [.int i], hd, e =>
      cases hd with
      | cons h1 h2 =>
      cases h1
      cases h2
      obtain ⟨_, s1, e1, z1⟩ := bind_inv (show (M.guard (decide (-(2 ^ 63) ≤ i) && decide (i < 2 ^ 63)) >>= fun _ => M.opt (L2.ixN ds0.length i) >>= fun k => M.opt ds0[k]? >>= fun y => write n (.lst (ds0.eraseIdx k)) >>= fun _ => (pure (R.dat y) : M R)) st = .ok r st' from e)
      obtain ⟨g, rfl⟩ := guard_inv e1
      obtain ⟨j, s2, e2, z2⟩ := bind_inv z1
      obtain ⟨hj, rfl⟩ := opt_inv e2
      obtain ⟨y, s3, e3, z3⟩ := bind_inv z2
      obtain ⟨hy, rfl⟩ := opt_inv e3
      obtain ⟨rfl, rfl⟩ := pure_inv (show (pure _ : M R) _ = _ from write_inv z3)
      simp only [Bool.and_eq_true, decide_eq_true_eq] at g
      obtain ⟨w, hw, dw⟩ := hr.get hy
      obtain ⟨k3, x3⟩ := so.write (o := .lst (xs.eraseIdx j)) ha hn (.lst upd_same (Nat.le_trans (len_erase _ _) hl) (hr.eraseIdx j))
      exact mt_popAt pins s σ H _ _ _ _ Q I rx rv ⟨a, xs, i, j, w, rfl, rfl, ho, g.1, g.2, by rw [hr.length]; exact (ixN_seq hj).1, hw, af w _ k3 x3 (.dat dw) (fun _ z => nomatch z)⟩
    | [], _, e => exact (no_inv e).elim
    | d :: _ :: _, _, e => exact (no_inv (show (M.no : M R) st = .ok r st' by cases d <;> exact e)).elim
    | [.non], _, e => exact (no_inv e).elim
    | [.bl _], _, e => exact (no_inv e).elim
    | [.str _], _, e => exact (no_inv e).elim
    | [.tup _], _, e => exact (no_inv e).elim
    | [.lst _], _, e => exact (no_inv e).elim
    | [.scr _], _, e => exact (no_inv e).elim
    | [.dct _ _], _, e => exact (no_inv e).elim
    | [.obj _ _], _, e => exact (no_inv e).elim
    | [.fn _], _, e => exact (no_inv e).elim
    | [.itr _], _, e => exact (no_inv e).elim
  | extend =>
    match ds, hd, e with
    | [.lst ys], hd, e =>
      cases hd with
      | cons h1 h2 =>
      cases h2
      cases h1 with
      | @lst b zs _ hb hlb hrb =>
      obtain ⟨_, s1, e1, z1⟩ := bind_inv (show (M.guard (decide (ds0.length + ys.length ≤ sizeLine)) >>= fun _ => write n (.lst (ds0 ++ ys)) >>= fun _ => (pure (R.dat .non) : M R)) st = .ok r st' from e)
      obtain ⟨g, rfl⟩ := guard_inv e1
      obtain ⟨rfl, rfl⟩ := pure_inv (show (pure _ : M R) _ = _ from write_inv z1)
      have hz : xs.length + zs.length ≤ sizeLine := by rw [hr.length, hrb.length]; exact of_decide_eq_true g
      obtain ⟨k3, x3⟩ := so.write (o := .lst _) ha hn (.lst upd_same (by rw [List.length_append]; exact hz) (hr.append hrb))
      exact mt_extend pins s σ H _ _ _ _ Q I rx rv ⟨a, b, xs, zs, rfl, rfl, ho, so.sub _ _ hb, hz, af .non _ k3 x3 (.dat .non) (fun _ z => nomatch z)⟩
    | [], _, e => exact (no_inv e).elim
    | d :: _ :: _, _, e => exact (no_inv (show (M.no : M R) st = .ok r st' by cases d <;> exact e)).elim
    | [.non], _, e => exact (no_inv e).elim
    | [.bl _], _, e => exact (no_inv e).elim
    | [.str _], _, e => exact (no_inv e).elim
    | [.tup _], _, e => exact (no_inv e).elim
    | [.int _], _, e => exact (no_inv e).elim
    | [.scr _], _, e => exact (no_inv e).elim
    | [.dct _ _], _, e => exact (no_inv e).elim
    | [.obj _ _], _, e => exact (no_inv e).elim
    | [.fn _], _, e => exact (no_inv e).elim
    | [.itr _], _, e => exact (no_inv e).elim
theorem backTo_all {pos : Pos} {env : PySem.Env} : ∀ {es : List Expr}, (∀ e ∈ es, notStar e = true) → (backTo pos (starEach es env)).all (fun x => !x.1) = true
  | [], _ => rfl
  | e :: es, h => by
    rw [star_cons (h e (List.mem_cons_self ..))]
    have ih := backTo_all (pos := pos) (env := env) (es := es) fun x hx => h x (List.mem_cons_of_mem _ hx)
    show (true && (backTo pos (starEach es env)).all (fun x => !x.1)) = true
    rw [ih]
    rfl
theorem base_of {o : Expr} {y : Str} {env : PySem.Env} (h : notCallX o = true) : attributeBase o y env (eval o env) = eval o env := by
  cases o <;> first | rfl | exact absurd h Bool.false_ne_true
theorem mth_shape {m : Mm} {a : E} {es : Es} {e' : Expr} (h : agE c (.mth m a es) e' = true) : ∃ o apos es' cpos, e' = .Call (.Attribute o (Str.ofString (mName m)) apos) es' [] cpos ∧ notCallX o = true ∧ (apos.endLine == cpos.line) = true ∧ es'.length < 20 ∧ agE c a o = true ∧ agEs c es es' = true := by
  cases e' with
  | Call f' args kws p3 =>
    cases f' with
    | Attribute o y apos =>
      cases kws with
      | nil =>
        have h : (decide (y = Str.ofString (mName m)) && (notCallX o && (decide (apos.endLine = p3.line) && (decide (args.length < 20) && (agE c a o && agEs c es args))))) = true := by
          match args, h with
          | [], h => exact h
          | [_], h => exact h
          | [_, b'], h => cases b' <;> exact h
          | _ :: b' :: _ :: _, h => cases b' <;> exact h
        obtain ⟨h1, h⟩ := b2 h
        obtain ⟨h2, h⟩ := b2 h
        obtain ⟨h3, h⟩ := b2 h
        obtain ⟨h4, h⟩ := b2 h
        obtain ⟨h5, h6⟩ := b2 h
        cases of_decide_eq_true h1
        exact ⟨o, apos, args, p3, rfl, h2, by rw [of_decide_eq_true h3]; exact beq_self_eq_true _, of_decide_eq_true h4, h5, h6⟩
      | cons _ _ =>
        match args, h with
        | [], h => exact absurd h Bool.false_ne_true
        | [_], h => exact absurd h Bool.false_ne_true
        | [_, b'], h => cases b' <;> exact absurd h Bool.false_ne_true
        | _ :: b' :: _ :: _, h => cases b' <;> exact absurd h Bool.false_ne_true
    | _ =>
      match args, kws, h with
      | [], [], h => exact absurd h Bool.false_ne_true
      | [_], [], h => exact absurd h Bool.false_ne_true
      | [_, b'], [], h => cases b' <;> exact absurd h Bool.false_ne_true
      | _ :: b' :: _ :: _, [], h => cases b' <;> exact absurd h Bool.false_ne_true
      | [], _ :: _, h => exact absurd h Bool.false_ne_true
      | [_], _ :: _, h => exact absurd h Bool.false_ne_true
      | [_, b'], _ :: _, h => cases b' <;> exact absurd h Bool.false_ne_true
      | _ :: b' :: _ :: _, _ :: _, h => cases b' <;> exact absurd h Bool.false_ne_true
  | _ => exact absurd h Bool.false_ne_true
theorem s_mth {m : Mm} {a : E} {es : Es} {e' : Expr} (x : XOk c kn k X) (h : agE c (.mth m a es) e' = true)
    (ha : ∀ a', agE c a a' = true → PE X a' (tE X.K a)) (hs : ∀ es', agEs c es es' = true → PA X es' (tDs X.K es)) : PE X e' (tE X.K (.mth m a es)) := by
  obtain ⟨o, apos, es', cpos, rfl, h1, h2, h3, h4, h5⟩ := mth_shape h
  have hst := agEs_star h5
  have slot : Slot "list" (Str.ofString (mName m)) (mId m) := by
    cases m with
    | append => exact F.slot_list_append
    | insert => exact F.slot_list_insert
    | pop => exact F.slot_list_pop
    | popi => exact F.slot_list_pop
    | extend => exact F.slot_list_extend
  have hty : typeOf (.builtin (mId m)) = pure (.type "method_descriptor") := by
    cases m with
    | append => exact F.type_list_append
    | insert => exact F.type_list_insert
    | pop => exact F.type_list_pop
    | popi => exact F.type_list_pop
    | extend => exact F.type_list_extend
  have key : ∀ (σ : L2.St) (H : Hp) (Q : VK), tE X.K (.mth m a es) σ H Q → tBM X.K "list" (rMth X.K m) (tE X.K a) (tDs X.K es) σ H Q := fun σ H Q hh => by
    obtain ⟨as, F, st, env, r, st', s, en, e, af⟩ := hh
    obtain ⟨ra, s1, e1, z1⟩ := bind_inv (show (evE a env >>= fun x => live x >>= fun q0 => lstG q0.2 >>= fun _ => evDs es env >>= fun ds => live x >>= fun q => mthB m q.1 q.2 ds) st = .ok r st' from e)
    obtain ⟨⟨n0, q0⟩, s10, e10, z10⟩ := bind_inv z1
    obtain ⟨_, s11, e11, z11⟩ := bind_inv z10
    obtain ⟨rfl, xs0, rfl⟩ := lstG_inv e11
    obtain ⟨ds, s2, e2, z2⟩ := bind_inv z11
    obtain ⟨⟨n, q⟩, s3, e3, z3⟩ := bind_inv z2
    obtain ⟨rfl, rfl, hn⟩ := live_inv e3
    refine ⟨as, F, st, env, _, s1, s, en, e1, fun v F1 H1 k1 x1 r1 f1 => ?_⟩
    cases r1 with
    | @cell p1 _ hp =>
    refine ⟨?_, ?_⟩
    · obtain ⟨q1, rfl, hd0⟩ := live_inv e10
      cases q1
      obtain ⟨_, c0, _⟩ := k1.live _ p1 _ hp hd0
      cases c0 with
      | lst ho _ _ => exact .inl ⟨rfl, _, .of ho⟩
    · obtain ⟨q1, rfl, hd0⟩ := live_inv e10
      refine ⟨as, F1, _, env, ds, s3, k1, en.ext x1, e2, fun vs F2 H2 k2 x2 d2 => ?_⟩
      refine ⟨as, F2, s3, n, p1, q, ds, r, st', rfl, k2, hp, hn, d2, z3, fun v H3 k3 x3 r3 no => ?_⟩
      refine af v F2 H3 k3 ((x1.trans s.len k1.len x2).trans s.len k2.len x3) r3 ?_
      cases r with
      | own d => exact absurd rfl (no d)
      | _ => trivial
  cases es' with
  | nil =>
    cases es with
    | cons _ _ => exact absurd h5 Bool.false_ne_true
    | star _ _ => exact absurd h5 Bool.false_ne_true
    | nil =>
    refine PE.imp (pe_bm0 F.plainAttrs_list slot hty (mt_all m) (ha o h4) (base_of h1) h2) fun σ H Q hh => ?_
    obtain ⟨as, F, st, env, r, st', s, en, e, af⟩ := hh
    obtain ⟨ra, s1, e1, z1⟩ := bind_inv (show (evE a env >>= fun x => live x >>= fun q0 => lstG q0.2 >>= fun _ => evDs .nil env >>= fun ds => live x >>= fun q => mthB m q.1 q.2 ds) st = .ok r st' from e)
    obtain ⟨⟨n0, q0⟩, s10, e10, z10⟩ := bind_inv z1
    obtain ⟨_, s11, e11, z11⟩ := bind_inv z10
    obtain ⟨rfl, xs0, rfl⟩ := lstG_inv e11
    obtain ⟨ds, s2, e2, z2⟩ := bind_inv z11
    obtain ⟨rfl, rfl⟩ := pure_inv (show (pure [] : M (List D)) _ = .ok ds s2 from e2)
    obtain ⟨⟨n, q⟩, s3, e3, z3⟩ := bind_inv z2
    obtain ⟨rfl, rfl, hn⟩ := live_inv e3
    obtain ⟨q1, rfl, hd0⟩ := live_inv e10
    cases q1
    rw [hn] at hd0
    cases hd0
    refine ⟨as, F, st, env, _, s3, s, en, e1, fun v F1 H1 k1 x1 r1 f1 => ?_⟩
    cases r1 with
    | @cell p1 _ hp =>
    obtain ⟨_, c0, _⟩ := k1.live _ p1 _ hp hn
    refine ⟨by cases c0 with | lst ho _ _ => exact .inl ⟨rfl, _, .of ho⟩, ?_⟩
    refine ⟨as, F1, s3, _, p1, _, [], r, st', rfl, k1, hp, hn, .nil, z3, fun v H3 k3 x3 r3 no => ?_⟩
    refine af v F1 H3 k3 (x1.trans s.len k1.len x3) r3 ?_
    cases r with
    | own d => exact absurd rfl (no d)
    | _ => trivial
  | cons e0 es' =>
    refine PE.imp (pe_bm F.plainAttrs_list slot hty (mt_all m) (ha o h4) (hs _ h5) (base_of h1) ?_ h2 (star_cons (hst _ (List.mem_cons_self ..))) (backTo_plain fun e he => hst e (List.mem_cons_of_mem _ he))) key
    rw [backTo_all hst]
    show (true && decide ((e0 :: es').length + 0 + 0 < 30)) = true
    rw [Bool.true_and]
    exact decide_eq_true (by omega)
end
end DB
set_option maxHeartbeats 4000000
namespace L2
open PySem PySem.Spec PyProof.Rows
section
variable {X : Cx} {CX : CXT} {k n : Nat} {f : Addr} {fd : FuncData} {ps ks : List Str} {sp : Sp} {E : XK} {x : Str} {p pos : Pos} {kws : List Keyword} {tk : TA} {g : List Value → List Value → List Value} {gV : List V → List V → List V}
/-- f(k = v, ..) -/
theorem pe_callN0 (F : FnOk X.prog X.w X.K X.mg X.base CX k f fd ps sp) (hr : Room k X.A) (hg : Gl X x) (hm : X.mg x = some (.ref f)) (hk : PySem.W.keepIn X.K (.ref f) = true) (hb : KBn X.K fd ps n ks g gV) (hx : Passes CX X E) (hn : n = 0)
    (hkw : PK X kws tk) (hall : (backToKw pos (keywordEach kws X.env)).all (·.1.isSome) = true) (hks : (backToKw pos (keywordEach kws X.env)).filterMap (·.1) = ks)
    (hdb : (x == ("__debug__" : Str)) = false)
    (hpl : ((backTo pos (starEach [] X.env)).any (·.1) || (backToKw pos (keywordEach kws X.env)).any (·.1.isNone)) = false) :
    PE X (.Call (.Name x p) [] kws pos) (tCallN n ks.length sp gV E tNil tk) := by
  refine ⟨fun pins s σ H Q I h => ?_⟩
  refine wpAny_Call_Name_kw (ld_glob I hg hm ?_ hdb)
  refine PySem.W.callWith_KW0 (h₀ := X.base) I.ok.mod.kin hk hall (thn (hkw.run pos pins s σ H _ I h) fun ws s2 ⟨zs, H2, I2, rz, l1, l2, q2⟩ => ⟨I2.kIn, ?_⟩) hpl
  rw [hks]
  exact run_fnN (us := []) F hr hb hx I2 .nil rz l1 l2 q2
end
end L2
namespace DB
open PySem PySem.Spec L2
section
variable {c : AC} {kn : Know} {k : Nat} {X : Cx}
theorem PK.imp {X : Cx} {e : List Keyword} {t t' : TA} (h : PK X e t) (i : ∀ σ H Q, t' σ H Q → t σ H Q) : PK X e t' := ⟨fun pos pins s σ H Q I hw => h.run pos pins s σ H Q I (i _ _ _ hw)⟩
theorem s_Ks_nil : PK X [] (tDs X.K .nil) := PK.imp pk_nil fun σ H Q hh => by
  obtain ⟨as, F, st, env, r, st', s, en, e, af⟩ := hh
  obtain ⟨rfl, rfl⟩ := pure_inv (show (pure [] : M (List D)) st = .ok r st' from e)
  exact af [] F H s .refl .nil
theorem s_Ks_cons {a : E} {es : Es} {a' : Expr} {nm : Option Str} {kp : Pos} {es' : List Keyword} (ha : PE X a' (tE X.K a)) (hs : PK X es' (tDs X.K es)) : PK X (⟨nm, a', kp⟩ :: es') (tDs X.K (.cons a es)) := by
  refine PK.imp (pk_cons ha hs) fun σ H Q hh => ?_
  obtain ⟨as, F, st, env, ds, st', s, en, e, af⟩ := hh
  obtain ⟨ra, s1, e1, z1⟩ := bind_inv (show (evE a env >>= fun r => use r >>= fun d => evDs es env >>= fun ds => (pure (d :: ds) : M (List D))) st = .ok ds st' from e)
  obtain ⟨d, s2, e2, z2⟩ := bind_inv z1
  obtain ⟨ds', s3, e3, z3⟩ := bind_inv z2
  obtain ⟨rfl, rfl⟩ := pure_inv z3
  refine ⟨as, F, st, env, ra, s1, s, en, e1, fun v F1 H1 k1 x1 r1 f1 => ?_⟩
  obtain ⟨F2, k2, x2, d2⟩ := use_aft s.len k1 x1 r1 f1 e2
  exact ⟨as, F2, s2, env, ds', st', k2, en.ext x2, e3, fun vs F3 H3 k3 x3 r3 => af (v :: vs) F3 H3 k3 (x2.trans s.len k2.len x3) (.cons (d2.mono x3.f) r3)⟩
theorem kw_each {pos : Pos} {env : PySem.Env} : ∀ {kws : List Keyword}, (backToKw pos (keywordEach kws env)).map (·.1) = kwNames kws
  | [] => rfl
  | ⟨nm, e, p⟩ :: kws => congrArg (nm :: ·) (kw_each (pos := pos) (env := env) (kws := kws))
theorem kw_all {l : List (Option Str × Sem Value)} {ks : List Str} (h : l.map (·.1) = ks.map some) : l.all (·.1.isSome) = true ∧ l.filterMap (·.1) = ks ∧ l.any (·.1.isNone) = false := by
  induction l generalizing ks with
  | nil =>
    cases ks with
    | nil => exact ⟨rfl, rfl, rfl⟩
    | cons _ _ => cases h
  | cons a l ih =>
    cases ks with
    | nil => cases h
    | cons k ks =>
      have h1 : a.1 = some k := (List.cons.inj h).1
      obtain ⟨i1, i2, i3⟩ := ih (List.cons.inj h).2
      refine ⟨?_, ?_, ?_⟩
      · rw [List.all_cons, h1, i1]; rfl
      · rw [List.filterMap_cons, h1, i2]
      · rw [List.any_cons, h1, i3]; rfl
theorem DsOk.perm {K : PySem.W.Frag} {F : Hp} {vs : List V} {ds : List D} (h : DsOk K F vs ds) : ∀ perm : List Nat, DsOk K F (permL perm vs) (permL perm ds)
  | [] => .nil
  | i :: perm => by
    have ih := DsOk.perm h perm
    unfold permL at ih ⊢
    rw [List.filterMap_cons, List.filterMap_cons]
    cases q : ds[i]? with
    | none =>
      have : vs[i]? = none := by
        rw [List.getElem?_eq_none_iff] at q ⊢
        rw [h.length]; exact q
      rw [this]
      exact ih
    | some d =>
      obtain ⟨v, hv, dv⟩ := h.get q
      rw [hv]
      exact .cons dv ih
theorem DsOk.rs {K : PySem.W.Frag} {F H : Hp} {as : List Addr} : ∀ {vs : List V} {ds : List D}, DsOk K F vs ds → RsOk K F H as vs (ds.map R.dat) ∧ ownsA vs (ds.map R.dat) = []
  | _, _, .nil => ⟨.nil, rfl⟩
  | v :: vs, d :: ds, .cons h r => by
    obtain ⟨i1, i2⟩ := DsOk.rs (H := H) (as := as) r
    have h0 : ownA v (R.dat d) = [] := by cases v <;> rfl
    refine ⟨.cons (.dat h) i1 fun a ha => by rw [h0] at ha; (cases ha), ?_⟩
    show ownA v (R.dat d) ++ ownsA vs (ds.map R.dat) = []
    rw [h0, i2]
    rfl
theorem callK_shape {f : Fn} {id n : Nat} {ks : List Str} {dd : List D} {perm : List Nat} {es kes : Es} {e' : Expr} (h : agE c (.callK f id n ks dd perm es kes) e' = true) : ∃ y p as' kws p3, e' = .Call (.Name y p) as' kws p3 ∧ c.fns[id]? = some y ∧ glB c.sc y = true ∧ as'.length = n ∧ kwNames kws = ks.map some ∧ agEs c es as' = true ∧ agKs c kes kws = true := by
  cases e' with
  | Call f' args kws p3 =>
    cases f' with
    | Name y p =>
      have h : (decide (c.fns[id]? = some y) && (glB c.sc y && (decide (args.length = n) && (decide (kwNames kws = ks.map some) && (agEs c es args && agKs c kes kws))))) = true := by
        match args, kws, h with
        | [], [], h => exact h
        | [_], [], h => exact h
        | [_, b'], [], h => cases b' <;> exact h
        | _ :: b' :: _ :: _, [], h => cases b' <;> exact h
        | [], _ :: _, h => exact h
        | [_], _ :: _, h => exact h
        | [_, b'], _ :: _, h => cases b' <;> exact h
        | _ :: b' :: _ :: _, _ :: _, h => cases b' <;> exact h
      obtain ⟨h1, h⟩ := b2 h
      obtain ⟨h2, h⟩ := b2 h
      obtain ⟨h3, h⟩ := b2 h
      obtain ⟨h4, h⟩ := b2 h
      obtain ⟨h5, h6⟩ := b2 h
      exact ⟨y, p, args, kws, p3, rfl, of_decide_eq_true h1, h2, of_decide_eq_true h3, of_decide_eq_true h4, h5, h6⟩
    | _ =>
      match args, kws, h with
      | [], [], h => exact absurd h Bool.false_ne_true
      | [_], [], h => exact absurd h Bool.false_ne_true
      | [_, b'], [], h => cases b' <;> exact absurd h Bool.false_ne_true
      | _ :: b' :: _ :: _, [], h => cases b' <;> exact absurd h Bool.false_ne_true
      | [], _ :: _, h => exact absurd h Bool.false_ne_true
      | [_], _ :: _, h => exact absurd h Bool.false_ne_true
      | [_, b'], _ :: _, h => cases b' <;> exact absurd h Bool.false_ne_true
      | _ :: b' :: _ :: _, _ :: _, h => cases b' <;> exact absurd h Bool.false_ne_true
  | _ => exact absurd h Bool.false_ne_true
theorem agKs_len : ∀ {kes : Es} {kws : List Keyword}, agKs c kes kws = true → kws.length = lenEs kes
  | .nil, [], _ => rfl
  | .nil, _ :: _, h => absurd h Bool.false_ne_true
  | .cons _ _, [], h => absurd h Bool.false_ne_true
  | .cons e es, ⟨_, e', _⟩ :: kws, h => congrArg Nat.succ (agKs_len (b2 (show (agE c e e' && agKs c es kws) = true from h)).2)
  | .star _ _, [], h => absurd h Bool.false_ne_true
  | .star _ _, _ :: _, h => absurd h Bool.false_ne_true
theorem s_callK {f : Fn} {id n : Nat} {ks : List Str} {dd : List D} {perm : List Nat} {es kes : Es} {e' : Expr} (x : XOk c kn k X) (h : agE c (.callK f id n ks dd perm es kes) e' = true) (hk : kn.fn id f) (hk2 : kn.kw id n ks dd perm)
    (hs : ∀ es', agEs c es es' = true → PA X es' (tDs X.K es)) (hks : ∀ es', agKs c kes es' = true → PK X es' (tDs X.K kes)) : PE X e' (tE X.K (.callK f id n ks dd perm es kes)) := by
  obtain ⟨y, p, as', kws, p3, rfl, h1, h2, h3, h4, h5, h6⟩ := callK_shape h
  obtain ⟨g1, d1⟩ := x.glb h2
  obtain ⟨fa, fd, ps, dv, du, hm, hkp, hb, hdd, hF⟩ := x.callK id f y n ks dd perm hk hk2 h1
  have hst := agEs_star h5
  have hn := kw_each (pos := p3) (env := X.env) (kws := kws)
  rw [h4] at hn
  obtain ⟨a1, a2, a3⟩ := kw_all hn
  have run2 : ∀ (as : List Addr) (F : Hp) (st : Sto) (env : Env) (σ : L2.St) (H : Hp) (Q : VK) (ds : List D) (r : R) (s1 st' : Sto) (vs : List V), StOk X.K F H as s1 → EnvOk X.K F as σ env → DsOk X.K F vs ds →
      (evDs kes env >>= fun ws => runFn f ((permL perm (ds ++ (ws ++ dd))).map R.dat)) s1 = .ok r st' → vs.length = n →
      (∀ v F' H', StOk X.K F' H' as st' → Ext [] as F H s1 as F' H' st' → ROk X.K F' H' as v r → Fresh H v r → Q v H') →
      tDs X.K kes σ H fun zs H2 => vs.length = n ∧ zs.length = ks.length ∧ spF X.K f (gP perm dv vs zs) H2 Q E0 := fun as F st env σ H Q ds r s1 st' vs k1 en d1 e hl af => by
    obtain ⟨ws, s2, e2, z2⟩ := bind_inv e
    refine ⟨as, F, s1, env, ws, s2, k1, en, e2, fun zs F2 H2 k2 x2 d2 => ⟨hl, ?_, ?_⟩⟩
    · have l1 := evDs_len e2
      have l2 := agKs_len h6
      have l3 := congrArg List.length h4
      rw [List.length_map] at l3
      unfold kwNames at l3
      rw [List.length_map] at l3
      rw [d2.length, l1, ← l2, l3]
    · have dall := (d1.mono x2.f).append (d2.append (hdd F2))
      have dp := dall.perm perm
      obtain ⟨ro, ow⟩ := dp.rs (H := H2) (as := as)
      refine ⟨as, F2, s2, _, r, st', k2, ro, z2, fun v F3 H3 k3 x3 r3 o3 => ?_⟩
      rw [show ownsA (gP perm dv vs zs) ((permL perm (ds ++ (ws ++ dd))).map R.dat) = [] from ow] at x3 o3
      refine af v F3 H3 k3 (x2.trans k1.len k2.len x3) r3 ?_
      refine Fresh.back x2 ?_
      cases r with
      | own d =>
        intro a ha
        subst ha
        exact (o3 a (by simp [ownA])).elim (fun z => z) fun z => by cases z
      | _ => trivial
  have key : ∀ σ H Q, tE X.K (.callK f id n ks dd perm es kes) σ H Q → tDs X.K es σ H fun vs H1 => tDs X.K kes σ H1 fun zs H2 => vs.length = n ∧ zs.length = ks.length ∧ spF X.K f (gP perm dv vs zs) H2 Q E0 := fun σ H Q hh => by
    obtain ⟨as, F, st, env, r, st', s, en, e, af⟩ := hh
    obtain ⟨ds, s1, e1, z1⟩ := bind_inv (show (evDs es env >>= fun ds => evDs kes env >>= fun ws => runFn f ((permL perm (ds ++ (ws ++ dd))).map R.dat)) st = .ok r st' from e)
    refine ⟨as, F, st, env, ds, s1, s, en, e1, fun vs F1 H1 k1 x1 d1 => ?_⟩
    have hl : vs.length = n := by rw [d1.length, evDs_len e1, agEs_len h5 rfl, h3]
    exact run2 as F1 s1 env σ H1 Q ds r s1 st' vs k1 (en.ext x1) d1 z1 hl fun v F' H' k' x' r' f' => af v F' H' k' (x1.trans s.len k1.len x') r' (Fresh.back x1 f')
  cases as' with
  | nil =>
    cases es with
    | cons _ _ => exact absurd h5 Bool.false_ne_true
    | star _ _ => exact absurd h5 Bool.false_ne_true
    | nil =>
    refine PE.imp (pe_callN0G (E := E0) hF x.room x.gd g1 hm hkp hb h3.symm (hks kws h6) a1 a2 d1 (by rw [a3]; rfl)) fun σ H Q hh => ?_
    obtain ⟨as, F, st, env, r, st', s, en, e, af⟩ := hh
    obtain ⟨ds, s1, e1, z1⟩ := bind_inv (show (evDs .nil env >>= fun ds => evDs kes env >>= fun ws => runFn f ((permL perm (ds ++ (ws ++ dd))).map R.dat)) st = .ok r st' from e)
    obtain ⟨rfl, rfl⟩ := pure_inv (show (pure [] : M (List D)) st = .ok ds s1 from e1)
    exact run2 as F s1 env σ H Q [] r s1 st' [] s en .nil z1 h3 af
  | cons e0 as' =>
    refine PE.imp (pe_callNG (E := E0) hF x.room x.gd g1 hm hkp hb (hs _ h5) (hks kws h6) a1 a2 d1 (star_cons (hst _ (List.mem_cons_self ..))) ?_) key
    rw [a3, Bool.or_false]
    exact backTo_plain hst
end
end DB
set_option maxHeartbeats 4000000
namespace DB
open PySem PySem.Spec L2
section
variable {c : AC} {kn : Know} {k : Nat} {X : Cx}
theorem DsOk.rg {K : PySem.W.Frag} {F : Hp} : ∀ (n : Nat) (a : Int), DsOk K F ((List.range n).map fun i => V.int (a + (i : Nat))) (rngD a n)
  | 0, _ => .nil
  | n + 1, a => by
    rw [List.range_succ_eq_map, List.map_cons, List.map_map]
    have ih := DsOk.rg (K := K) (F := F) n (a + 1)
    have e : ((fun i : Nat => V.int (a + (i : Int))) ∘ Nat.succ) = fun i : Nat => V.int (a + 1 + (i : Int)) := by
      funext i
      simp only [Function.comp]
      congr 1
      push_cast
      omega
    rw [e]
    refine .cons ?_ ih
    have : V.int (a + ((0 : Nat) : Int)) = V.int a := by simp
    rw [this]
    exact .int a
theorem rngB3 {rs : List R} {n : Nat} {ds : List D} {st st' : Sto} (hl : rs.length = n + 1 + 1 + 1) (e : rngB rs st = .ok ds st') : False := by
  match rs, hl, e with
  | x :: y :: z :: w, _, e =>
    cases x with
    | dat d =>
      cases d with
      | int i =>
        cases y with
        | dat d2 => cases d2 <;> exact no_inv e
        | _ => exact no_inv e
      | _ => exact no_inv e
    | own d => exact no_inv e
    | cell d => exact no_inv e
  | [], hl, _ => cases hl
  | [_], hl, _ => cases hl
  | [_, _], hl, _ => cases hl
theorem lrng_shape {t : Bool} {es : Es} {e' : Expr} (h : agE c (.lrng t es) e' = true) : ∃ x p y p2 es' p3 p4, e' = .Call (.Name x p) [.Call (.Name y p2) es' [] p3] [] p4 ∧ x = Str.ofString (if t then "tuple" else "list") ∧ glB c.sc x = true ∧ y = ("range" : Str) ∧ glB c.sc y = true ∧ agEs c es es' = true := by
  cases e' with
  | Call f' args kws p4 =>
    cases f' with
    | Name x p =>
      match args, kws, h with
      | [a], [], h =>
        cases a with
        | Call g args2 kws2 p3 =>
          cases g with
          | Name y p2 =>
            cases kws2 with
            | nil =>
              obtain ⟨h1, h⟩ := b2 (show (decide (x = Str.ofString (if t then "tuple" else "list")) && (glB c.sc x && (decide (y = ("range" : Str)) && (glB c.sc y && agEs c es args2)))) = true from h)
              obtain ⟨h2, h⟩ := b2 h
              obtain ⟨h3, h⟩ := b2 h
              obtain ⟨h4, h5⟩ := b2 h
              exact ⟨x, p, y, p2, args2, p3, p4, rfl, of_decide_eq_true h1, h2, of_decide_eq_true h3, h4, h5⟩
            | cons _ _ => exact absurd h Bool.false_ne_true
          | _ => exact absurd h Bool.false_ne_true
        | _ => exact absurd h Bool.false_ne_true
      | [], [], h => exact absurd h Bool.false_ne_true
      | [], _ :: _, h => exact absurd h Bool.false_ne_true
      | [a], _ :: _, h =>
        cases a with
        | Call g a2 k2 p3 => cases g <;> first | exact absurd h Bool.false_ne_true | (cases k2 <;> exact absurd h Bool.false_ne_true)
        | _ => exact absurd h Bool.false_ne_true
      | a :: b :: l, [], h =>
        cases a with
        | Call g a2 k2 p3 => cases g <;> cases k2 <;> cases b <;> cases l <;> exact absurd h Bool.false_ne_true
        | _ => cases b <;> cases l <;> exact absurd h Bool.false_ne_true
      | a :: b :: l, _ :: _, h =>
        cases a with
        | Call g a2 k2 p3 => cases g <;> cases k2 <;> cases b <;> cases l <;> exact absurd h Bool.false_ne_true
        | _ => cases b <;> cases l <;> exact absurd h Bool.false_ne_true
    | _ =>
      match args, kws, h with
      | [], [], h => exact absurd h Bool.false_ne_true
      | [_], [], h => exact absurd h Bool.false_ne_true
      | [_, b'], [], h => cases b' <;> exact absurd h Bool.false_ne_true
      | _ :: b' :: _ :: _, [], h => cases b' <;> exact absurd h Bool.false_ne_true
      | [], _ :: _, h => exact absurd h Bool.false_ne_true
      | [_], _ :: _, h => exact absurd h Bool.false_ne_true
      | [_, b'], _ :: _, h => cases b' <;> exact absurd h Bool.false_ne_true
      | _ :: b' :: _ :: _, _ :: _, h => cases b' <;> exact absurd h Bool.false_ne_true
  | _ => exact absurd h Bool.false_ne_true
/-- the range's own reading -/
theorem s_lrng {t : Bool} {es : Es} {e' : Expr} (x : XOk c kn k X) (h : agE c (.lrng t es) e' = true) (he : ∀ a b a', (es = .cons a b ∨ ∃ z, es = .cons z (.cons a b)) → agE c a a' = true → PE X a' (tE X.K a)) : PE X e' (tE X.K (.lrng t es)) := by
  obtain ⟨x0, p, y, p2, es', p3, p4, rfl, rfl, h1, rfl, h2, h3⟩ := lrng_shape h
  obtain ⟨g1, d1⟩ := x.glb h1
  obtain ⟨g2, d2⟩ := x.glb h2
  have hr : X.mg "range" = none := free_of x (by decide +kernel)
  have hl : X.mg "list" = none := free_of x (by decide +kernel)
  have ht : X.mg "tuple" = none := free_of x (by decide +kernel)
  have fin : ∀ (te : L2.St → Hp → (Int → Int → Hp → Prop) → Prop), PRg X (.Call (.Name "range" p2) es' [] p3) te →
      (∀ σ H Q, tE X.K (.lrng t es) σ H Q → te σ H fun a b H1 => RgOk a b ∧ ∀ q, H1 q = none → Q (.ref q) (upd H1 q (if t then .tup (rgV a b) else .lst (rgV a b)))) → PE X (.Call (.Name (Str.ofString (if t then "tuple" else "list")) p) [.Call (.Name "range" p2) es' [] p3] [] p4) (tE X.K (.lrng t es)) := fun te hp hq => by
    cases t with
    | true => exact PE.imp (pe_tupRg x.calm g1 ht hp) fun σ H Q hh => hq σ H Q hh
    | false => exact PE.imp (pe_listRg x.calm g1 hl hp) fun σ H Q hh => hq σ H Q hh
  have aft : ∀ (as : List Addr) (F H : Hp) (st st' : Sto) (Q : VK) (lo hi : Int) (r : R), StOk X.K F H as st' → RgOk lo hi → r = rngR t (rngD lo (hi - lo).toNat) → (∀ v F' H', StOk X.K F' H' as st' → Ext [] as F H st' as F' H' st' → ROk X.K F' H' as v r → Fresh H v r → Q v H') →
      ∀ q, H q = none → Q (.ref q) (upd H q (if t then .tup (rgV lo hi) else .lst (rgV lo hi))) := fun as F H st st' Q lo hi r s ok e a => by
    have hz : (rgV lo hi).length ≤ sizeLine := by
      rw [rgV_length, sizeLine_eq]
      have := ok.2.2.2.2
      omega
    have hd : DsOk X.K F (rgV lo hi) (rngD lo (hi - lo).toNat) := DsOk.rg _ _
    cases t with
    | true =>
      subst e
      have a' : Aft X.K as F H st' (.dat (.tup (rngD lo (hi - lo).toNat))) st' Q := fun v F2 H2 k2 x2 r2 f2 => a v F2 H2 k2 x2 r2 trivial
      exact a'.tup s hd hz
    | false =>
      subst e
      have a' : Aft X.K as F H st' (.own (.lst (rngD lo (hi - lo).toNat))) st' Q := fun v F2 H2 k2 x2 r2 f2 => a v F2 H2 k2 x2 r2 f2
      exact a'.lst s hd hz
  match es, es', h3 with
  | .cons a .nil, [a'], h3 =>
    obtain ⟨n1, h3⟩ := b2 (show (notStar a' && (agE c a a' && agEs c .nil [])) = true from h3)
    refine fin _ (prg_1 g2 hr (he a .nil a' (.inl rfl) (b2 h3).1) (star_cons n1)) fun σ H Q hh => ?_
    obtain ⟨as, F, st, env, r, st', s, en, e, af⟩ := hh
    obtain ⟨rs, s1, e1, z1⟩ := bind_inv (show (evEs (.cons a .nil) env >>= fun rs => rngB rs >>= fun ds => (pure (rngR t ds) : M R)) st = .ok r st' from e)
    obtain ⟨ra, s2, e2, z2⟩ := bind_inv (show (evE a env >>= fun r => evEs .nil env >>= fun rs => (pure (r :: rs) : M (List R))) st = .ok rs s1 from e1)
    obtain ⟨rs', s3, e3, z3⟩ := bind_inv z2
    obtain ⟨rfl, rfl⟩ := pure_inv (show (pure [] : M (List R)) s2 = .ok rs' s3 from e3)
    obtain ⟨rfl, rfl⟩ := pure_inv z3
    refine ⟨as, F, st, env, ra, s1, s, en, e2, fun v F1 H1 k1 x1 r1 f1 => ?_⟩
    obtain ⟨ds, s4, e4, z4⟩ := bind_inv z1
    cases r1 with
    | dat r1 =>
      cases r1 with
      | int j =>
        obtain ⟨_, s5, e5, z5⟩ := bind_inv (show (M.guard (decide (-(2 ^ 62) ≤ j) && decide (j ≤ 1000000)) >>= fun _ => (pure (rngD 0 j.toNat) : M (List D))) s1 = .ok ds s4 from e4)
        obtain ⟨g, rfl⟩ := guard_inv e5
        obtain ⟨rfl, rfl⟩ := pure_inv z5
        obtain ⟨rfl, rfl⟩ := pure_inv z4
        simp only [Bool.and_eq_true, decide_eq_true_eq] at g
        have ok : RgOk 0 j := ⟨by omega, by omega, by omega, by omega, by omega⟩
        refine ⟨j, rfl, ok, aft as F1 H1 st st' Q 0 j _ k1 ok (by rw [Int.sub_zero]) fun v F' H' k' x' r' f' => af v F' H' k' (x1.trans s.len k1.len x') r' (Fresh.back x1 f')⟩
      | _ => exact (no_inv e4).elim
    | _ => exact (no_inv e4).elim
  | .cons a (.cons b .nil), [a', b'], h3 =>
    obtain ⟨n1, h3⟩ := b2 (show (notStar a' && (agE c a a' && agEs c (.cons b .nil) [b'])) = true from h3)
    obtain ⟨m1, h3⟩ := b2 h3
    obtain ⟨n2, h3⟩ := b2 (show (notStar b' && (agE c b b' && agEs c .nil [])) = true from h3)
    refine fin _ (prg_2 g2 hr (he a (.cons b .nil) a' (.inl rfl) m1) (he b .nil b' (.inr ⟨a, rfl⟩) (b2 h3).1) (star_cons n1) (star_cons n2) (by rw [star_cons n2]; rfl)) fun σ H Q hh => ?_
    obtain ⟨as, F, st, env, r, st', s, en, e, af⟩ := hh
    obtain ⟨rs, s1, e1, z1⟩ := bind_inv (show (evEs (.cons a (.cons b .nil)) env >>= fun rs => rngB rs >>= fun ds => (pure (rngR t ds) : M R)) st = .ok r st' from e)
    obtain ⟨ra, s2, e2, z2⟩ := bind_inv (show (evE a env >>= fun r => evEs (.cons b .nil) env >>= fun rs => (pure (r :: rs) : M (List R))) st = .ok rs s1 from e1)
    obtain ⟨rs', s3, e3, z3⟩ := bind_inv z2
    obtain ⟨rb, s4, e4, z4⟩ := bind_inv (show (evE b env >>= fun r => evEs .nil env >>= fun rs => (pure (r :: rs) : M (List R))) s2 = .ok rs' s3 from e3)
    obtain ⟨rs2, s5, e5, z5⟩ := bind_inv z4
    obtain ⟨rfl, rfl⟩ := pure_inv (show (pure [] : M (List R)) s4 = .ok rs2 s5 from e5)
    obtain ⟨rfl, rfl⟩ := pure_inv z5
    obtain ⟨rfl, rfl⟩ := pure_inv z3
    refine ⟨as, F, st, env, ra, s2, s, en, e2, fun v F1 H1 k1 x1 r1 f1 => ⟨as, F1, s2, env, rb, _, k1, en.ext x1, e4, fun w F2 H2 k2 x2 r2 f2 => ?_⟩⟩
    obtain ⟨ds, s6, e6, z6⟩ := bind_inv z1
    cases r1 with
    | dat r1 =>
      cases r1 with
      | int i =>
        cases r2 with
        | dat r2 =>
          cases r2 with
          | int j =>
            obtain ⟨_, s7, e7, z7⟩ := bind_inv (show (M.guard (decide (-1000000 ≤ i) && decide (j ≤ 1000000) && decide (i ≤ 1000000) && decide (-1000000 ≤ j)) >>= fun _ => (pure (rngD i (j - i).toNat) : M (List D))) _ = .ok ds s6 from e6)
            obtain ⟨g, rfl⟩ := guard_inv e7
            obtain ⟨rfl, rfl⟩ := pure_inv z7
            obtain ⟨rfl, rfl⟩ := pure_inv z6
            simp only [Bool.and_eq_true, decide_eq_true_eq] at g
            have ok : RgOk i j := ⟨by omega, by omega, by omega, by omega, by omega⟩
            have x12 := x1.trans s.len k1.len x2
            exact ⟨i, j, rfl, rfl, ok, aft as F2 H2 st _ Q i j _ k2 ok rfl fun v F' H' k' x' r' f' => af v F' H' k' (x12.trans s.len k2.len x') r' (Fresh.back x12 f')⟩
          | _ => exact (no_inv e6).elim
        | _ => exact (no_inv e6).elim
      | _ => exact (no_inv (show (Res.no : Res (List D)) = .ok ds s6 by cases r2 <;> exact e6)).elim
    | _ => exact (no_inv (show (Res.no : Res (List D)) = .ok ds s6 by cases r2 <;> exact e6)).elim
  | .nil, [], _ => exact PE.imp (t' := tE X.K (.lrng t .nil)) (fin (fun _ _ _ => False) (fun _ _ _ _ _ _ h => h.elim) fun σ H Q hh => by
      obtain ⟨as, F, st, env, r, st', s, en, e, af⟩ := hh
      exact (no_inv e).elim) fun _ _ _ h => h
  | .nil, _ :: _, h3 => exact absurd h3 Bool.false_ne_true
  | .cons _ _, [], h3 => exact absurd h3 Bool.false_ne_true
  | .cons a .nil, a' :: _ :: _, h3 => exact absurd (b2 (b2 (show (notStar a' && (agE c a a' && false)) = true from h3)).2).2 Bool.false_ne_true
  | .cons a (.cons b _), [a'], h3 => exact absurd (b2 (b2 (show (notStar a' && (agE c a a' && false)) = true from h3)).2).2 Bool.false_ne_true
  | .cons a (.cons b (.cons d ds)), a' :: b' :: es3, _ =>
    have dead : ∀ σ H Q, ¬ tE X.K (.lrng t (.cons a (.cons b (.cons d ds)))) σ H Q := fun σ H Q hh => by
      obtain ⟨as, F, st, env, r, st', s, en, e, af⟩ := hh
      obtain ⟨rs, s1, e1, z1⟩ := bind_inv (show (evEs (.cons a (.cons b (.cons d ds))) env >>= fun rs => rngB rs >>= fun ds => (pure (rngR t ds) : M R)) st = .ok r st' from e)
      obtain ⟨ds', s2, e2, _⟩ := bind_inv z1
      exact rngB3 (evEs_len e1) e2
    exact fin (fun _ _ _ => False) (fun _ _ _ _ _ _ h => h.elim) fun σ H Q hh => (dead σ H Q hh).elim
  | .cons a (.cons b .nil), a' :: b' :: d' :: es3, h3 => exact absurd (b2 (b2 (b2 (b2 (show (notStar a' && (agE c a a' && (notStar b' && (agE c b b' && false)))) = true from h3)).2).2).2).2 Bool.false_ne_true
  | .star _ _, [], h3 => exact absurd h3 Bool.false_ne_true
  | .star _ _, _ :: _, h3 => exact absurd h3 Bool.false_ne_true
  | .cons a (.star _ _), [a'], h3 => exact absurd (b2 (b2 (show (notStar a' && (agE c a a' && false)) = true from h3)).2).2 Bool.false_ne_true
  | .cons a (.star _ _), a' :: _ :: _, h3 => exact absurd (b2 (b2 (show (notStar a' && (agE c a a' && false)) = true from h3)).2).2 Bool.false_ne_true
  | .cons a (.cons b (.star _ _)), [a', b'], h3 => exact absurd (b2 (b2 (b2 (b2 (show (notStar a' && (agE c a a' && (notStar b' && (agE c b b' && false)))) = true from h3)).2).2).2).2 Bool.false_ne_true
  | .cons a (.cons b (.star _ _)), a' :: b' :: _ :: _, h3 => exact absurd (b2 (b2 (b2 (b2 (show (notStar a' && (agE c a a' && (notStar b' && (agE c b b' && false)))) = true from h3)).2).2).2).2 Bool.false_ne_true
end
end DB
set_option maxHeartbeats 4000000
/-! displays with stars; slices from behind; isinstance with several classes; is True -/
namespace DB
open PySem PySem.Spec L2

/-! ### displays with stars -/
def tStar_ (K : PySem.W.Frag) (es : Es) : TA := fun σ H Q => ∃ as F st env ds st', StOk K F H as st ∧ EnvOk K F as σ env ∧ evStar es env st = .ok ds st' ∧
  ∀ vs F' H', StOk K F' H' as st' → Ext [] as F H st as F' H' st' → DsOk K F' vs ds → Q vs H'
section
variable {c : AC} {kn : Know} {k : Nat} {X : Cx}
theorem s_Star_nil : PA X [] (tStar_ X.K .nil) := PA.imp pa_nil fun σ H Q hh => by
  obtain ⟨as, F, st, env, ds, st', s, en, e, af⟩ := hh
  obtain ⟨rfl, rfl⟩ := pure_inv (show (pure [] : M (List D)) st = .ok ds st' from e)
  exact af [] F H s .refl .nil
theorem s_Star_cons {a : E} {es : Es} {a' : Expr} {es' : List Expr} (h0 : notStar a' = true) (ha : PE X a' (tE X.K a)) (hs : PA X es' (tStar_ X.K es)) : PA X (a' :: es') (tStar_ X.K (.cons a es)) := by
  refine PA.imp (pa_cons ha hs (star_cons h0)) fun σ H Q hh => ?_
  obtain ⟨as, F, st, env, ds, st', s, en, e, af⟩ := hh
  obtain ⟨ra, s1, e1, z1⟩ := bind_inv (show (evE a env >>= fun r => use r >>= fun d => evStar es env >>= fun ds => (pure (d :: ds) : M (List D))) st = .ok ds st' from e)
  obtain ⟨d, s2, e2, z2⟩ := bind_inv z1
  obtain ⟨ds', s3, e3, z3⟩ := bind_inv z2
  obtain ⟨rfl, rfl⟩ := pure_inv z3
  refine ⟨as, F, st, env, ra, s1, s, en, e1, fun v F1 H1 k1 x1 r1 f1 => ?_⟩
  obtain ⟨F2, k2, x2, d2⟩ := use_aft s.len k1 x1 r1 f1 e2
  exact ⟨as, F2, s2, env, ds', st', k2, en.ext x2, e3, fun vs F3 H3 k3 x3 r3 => af (v :: vs) F3 H3 k3 (x2.trans s.len k2.len x3) (.cons (d2.mono x3.f) r3)⟩
theorem s_Star_star {a : E} {es : Es} {a' : Expr} {es' : List Expr} {p : Pos} (ha : PE X a' (tE X.K a)) (hs : PA X es' (tStar_ X.K es)) : PA X (.Starred a' p :: es') (tStar_ X.K (.star a es)) := by
  refine PA.imp (StX.pa_star ha hs) fun σ H Q hh => ?_
  obtain ⟨as, F, st, env, ds, st', s, en, e, af⟩ := hh
  obtain ⟨ra, s1, e1, z1⟩ := bind_inv (show (evE a env >>= fun r => use r >>= fun d => itemsOf d >>= fun xs => evStar es env >>= fun ds => (pure (xs ++ ds) : M (List D))) st = .ok ds st' from e)
  obtain ⟨d, s2, e2, z2⟩ := bind_inv z1
  obtain ⟨xs, s3, e3, z3⟩ := bind_inv z2
  obtain ⟨ds', s4, e4, z4⟩ := bind_inv z3
  obtain ⟨rfl, rfl⟩ := pure_inv z4
  refine ⟨as, F, st, env, ra, s1, s, en, e1, fun v F1 H1 k1 x1 r1 f1 => ?_⟩
  obtain ⟨F2, k2, x2, d2⟩ := use_aft s.len k1 x1 r1 f1 e2
  obtain ⟨rfl, b, ys, rfl, hl, hd, hq⟩ := items_ok d2 e3
  refine ⟨b, ys, rfl, ?_, as, F2, s3, env, ds', st', k2, en.ext x2, e4, fun vs F3 H3 k3 x3 r3 => af (ys ++ vs) F3 H3 k3 (x2.trans s.len k2.len x3) ((hd.mono x3.f).append r3)⟩
  rcases hq with ⟨_, q⟩ | ⟨_, q⟩
  · exact .inr (k2.sub.seq q)
  · exact .inl (Same.seqT k2.sub q)
theorem s_tups {es : Es} {e' : Expr} (h : agE c (.tups es) e' = true) (hs : ∀ es', agStar c es es' = true → PA X es' (tStar_ X.K es)) : PE X e' (tE X.K (.tups es)) := by
  cases e' with
  | Tuple es' j p =>
    refine PE.imp (pe_tup (hs es' h)) fun σ H Q hh => ?_
    obtain ⟨as, F, st, env, r, st', s, en, e, af⟩ := hh
    obtain ⟨ds, s1, e1, z1⟩ := bind_inv (show (evStar es env >>= fun ds => M.guard (lenOk ds.length) >>= fun _ => (pure (R.dat (.tup ds)) : M R)) st = .ok r st' from e)
    obtain ⟨_, s2, e2, z2⟩ := bind_inv z1
    obtain ⟨g, rfl⟩ := guard_inv e2
    obtain ⟨rfl, rfl⟩ := pure_inv z2
    refine ⟨as, F, st, env, ds, st', s, en, e1, fun vs F1 H1 k1 x1 r1 => ?_⟩
    have hl : vs.length ≤ sizeLine := by rw [r1.length]; exact lenOk_iff g
    have af' : Aft X.K as F1 H1 st' (.dat (.tup ds)) st' Q := fun v F2 H2 k2 x2 r2 f2 => af v F2 H2 k2 (x1.trans s.len k1.len x2) r2 trivial
    exact ⟨hl, af'.tup k1 r1 hl⟩
  | _ => exact absurd h Bool.false_ne_true
theorem s_lsts {es : Es} {e' : Expr} (h : agE c (.lsts es) e' = true) (hs : ∀ es', agStar c es es' = true → PA X es' (tStar_ X.K es)) : PE X e' (tE X.K (.lsts es)) := by
  cases e' with
  | List es' p =>
    refine PE.imp (pe_lst (hs es' h)) fun σ H Q hh => ?_
    obtain ⟨as, F, st, env, r, st', s, en, e, af⟩ := hh
    obtain ⟨ds, s1, e1, z1⟩ := bind_inv (show (evStar es env >>= fun ds => M.guard (lenOk ds.length) >>= fun _ => (pure (R.own (.lst ds)) : M R)) st = .ok r st' from e)
    obtain ⟨_, s2, e2, z2⟩ := bind_inv z1
    obtain ⟨g, rfl⟩ := guard_inv e2
    obtain ⟨rfl, rfl⟩ := pure_inv z2
    refine ⟨as, F, st, env, ds, st', s, en, e1, fun vs F1 H1 k1 x1 r1 => ?_⟩
    have hl : vs.length ≤ sizeLine := by rw [r1.length]; exact lenOk_iff g
    have af' : Aft X.K as F1 H1 st' (.own (.lst ds)) st' Q := fun v F2 H2 k2 x2 r2 f2 => af v F2 H2 k2 (x1.trans s.len k1.len x2) r2 (Fresh.back x1 f2)
    exact ⟨hl, af'.lst k1 r1 hl⟩
  | _ => exact absurd h Bool.false_ne_true

/-! ### is True, is False -/
theorem bool_x {b : Bool} {e : Expr} (h : isBoolX b e = true) : ∃ j p, e = .Constant (.bool b) j p := by
  cases e with
  | Constant v j p => cases v <;> first | exact absurd h Bool.false_ne_true | (cases (eq_of_beq (show (_ == b) = true from h)); exact ⟨j, p, rfl⟩)
  | _ => exact absurd h Bool.false_ne_true
theorem nomarkB {op : CmpOp} {b : Bool} {j p} : behindInMarks op (.Constant (.bool b) j p) = false := by
  cases op <;> rfl
theorem s_isB2 {no b : Bool} {a : E} {e' : Expr} (h : agE c (.isB no b a) e' = true) (ha : ∀ a', agE c a a' = true → PE X a' (tE X.K a)) : ∃ W : TE, PE X e' W ∧ PT X e' (tTest W) ∧ ∀ σ H Q, tE X.K (.isB no b a) σ H Q → W σ H Q := by
  cases e' with
  | Compare a' ops bs p =>
    match ops, bs, h with
    | [op], [b'], h =>
      obtain ⟨h1, h⟩ := b2 (show (isBoolX b b' && (isOpB no op && agE c a a')) = true from h)
      obtain ⟨h2, h3⟩ := b2 h
      obtain ⟨j, p', rfl⟩ := bool_x h1
      have key : ∀ (r : R2), (∀ (cc : Bool) (H : Hp) (Q : VK), Q (.bl ((cc == b) != no)) H → r (.bl cc) (.bl b) H Q) → ∀ σ H Q, tE X.K (.isB no b a) σ H Q → tOp r (tE X.K a) (tC (.bl b)) σ H Q := fun r hr σ H Q hh => by
        obtain ⟨as, F, st, env, r, st', s, en, e, af⟩ := hh
        obtain ⟨ra, s1, e1, z1⟩ := bind_inv (show (evE a env >>= fun r => match r with | .dat (.bl i) => pure (.dat (.bl ((i == b) != no))) | _ => M.no) st = .ok r st' from e)
        refine ⟨as, F, st, env, ra, s1, s, en, e1, fun v F1 H1 k1 x1 r1 f1 => ?_⟩
        cases ra with
        | dat d =>
          cases d with
          | bl i =>
            obtain ⟨rfl, rfl⟩ := pure_inv (show (pure (R.dat (.bl ((i == b) != no))) : M R) s1 = .ok r st' from z1)
            cases r1 with
            | dat r1 =>
              cases r1
              exact hr i H1 Q (af _ F1 H1 k1 x1 (.dat (.bl _)) trivial)
          | _ => exact (no_inv z1).elim
        | _ => exact (no_inv z1).elim
      cases no with
      | false =>
        cases op <;> first | exact absurd h2 Bool.false_ne_true | exact ⟨_, pe_cmpR op_isBl (ha a' h3) pe_bl nomarkB, pt_cmpR op_isBl (ha a' h3) pe_bl nomarkB, key rIsB (fun cc H Q q => ⟨cc, b, rfl, rfl, by revert q; cases cc <;> cases b <;> exact id⟩)⟩
      | true =>
        cases op <;> first | exact absurd h2 Bool.false_ne_true | exact ⟨_, pe_cmpR op_notBl (ha a' h3) pe_bl nomarkB, pt_cmpR op_notBl (ha a' h3) pe_bl nomarkB, key rNotB (fun cc H Q q => ⟨cc, b, rfl, rfl, by revert q; cases cc <;> cases b <;> exact id⟩)⟩
    | [], _, h => exact absurd h Bool.false_ne_true
    | [_], [], h => exact absurd h Bool.false_ne_true
    | [_], _ :: _ :: _, h => exact absurd h Bool.false_ne_true
    | _ :: _ :: _, _, h => exact absurd h Bool.false_ne_true
  | _ => exact absurd h Bool.false_ne_true
theorem s_isB {no b : Bool} {a : E} {e' : Expr} (h : agE c (.isB no b a) e' = true) (ha : ∀ a', agE c a a' = true → PE X a' (tE X.K a)) : PE X e' (tE X.K (.isB no b a)) := by
  obtain ⟨W, w1, _, w3⟩ := s_isB2 h ha
  exact PE.imp w1 fun σ H Q hh => w3 σ H Q hh
/-- .. as a test -/
theorem s_isBT {no b : Bool} {a : E} {e' : Expr} (h : agE c (.isB no b a) e' = true) (ha : ∀ a', agE c a a' = true → PE X a' (tE X.K a)) : PT X e' (tT X.K (.val (.isB no b a))) := by
  obtain ⟨W, _, w2, w3⟩ := s_isB2 h ha
  refine PT.imp w2 fun σ H Q hh => w3 σ H _ ?_
  obtain ⟨as, F, st, env, t, st', s, en, e, af⟩ := hh
  obtain ⟨r, s1, e1, z1⟩ := bind_inv (show (evE (.isB no b a) env >>= fun r => peek r >>= fun p => truth p) st = .ok t st' from e)
  refine ⟨as, F, st, env, r, s1, s, en, e1, fun v F1 H1 k1 x1 r1 f1 => ?_⟩
  obtain ⟨ra, s2, e2, z2⟩ := bind_inv (show (evE a env >>= fun r => match r with | .dat (.bl i) => pure (.dat (.bl ((i == b) != no))) | _ => M.no) st = .ok r s1 from e1)
  cases ra with
  | dat d =>
    cases d with
    | bl i =>
      obtain ⟨rfl, rfl⟩ := pure_inv (show (pure (R.dat (.bl ((i == b) != no))) : M R) s2 = .ok r s1 from z2)
      obtain ⟨rfl, rfl⟩ := pure_inv (show (pure ((i == b) != no) : M Bool) _ = .ok t st' from z1)
      cases r1 with
      | dat r1 =>
        cases r1
        exact ⟨_, rfl, af F1 H1 k1 x1⟩
    | _ => exact (no_inv z2).elim
  | _ => exact (no_inv z2).elim

/-! ### isinstance, several classes -/
def tTys (ts : List String) : TA := fun _ H Q => Q (ts.map V.ty) H
theorem pa_tys (x : XOk c kn k X) : ∀ {ts : List String} {es' : List Expr}, tysB c ts es' = true → PA X es' (tTys ts) ∧ ts.all tyOk = true
  | [], [], _ => ⟨PA.imp pa_nil fun _ _ _ h => h, rfl⟩
  | [], _ :: _, h => absurd h Bool.false_ne_true
  | _ :: _, [], h => absurd h Bool.false_ne_true
  | t :: ts, e' :: es', h => by
    cases e' with
    | Name y p =>
      obtain ⟨h1, h⟩ := b2 (show (decide (y = Str.ofString t) && (glB c.sc y && (tyOk t && tysB c ts es'))) = true from h)
      obtain ⟨h2, h⟩ := b2 h
      obtain ⟨h3, h4⟩ := b2 h
      obtain ⟨g2, d2⟩ := x.glb h2
      have e := of_decide_eq_true h1
      subst e
      have ht' : t = "int" ∨ t = "bool" ∨ t = "str" ∨ t = "tuple" ∨ t = "list" ∨ t = "dict" := by
        have : t ∈ ["int", "bool", "str", "tuple", "list", "dict"] := by simpa [tyOk] using h3
        simpa using this
      have hz : PE X (.Name (Str.ofString t) p) (tC (.ty t)) := by
        rcases ht' with rfl | rfl | rfl | rfl | rfl | rfl <;> exact pe_bltn g2 (free_of x (by decide +kernel)) (by decide +kernel) rfl (by decide +kernel) d2
      obtain ⟨r1, r2⟩ := pa_tys x h4
      refine ⟨PA.imp (pa_cons hz r1 (star_cons (by rfl))) fun σ H Q q => q, ?_⟩
      rw [List.all_cons, h3, r2]
      rfl
    | _ => exact absurd h Bool.false_ne_true
theorem kitAny_ok {K : PySem.W.Frag} {d : D} (ho : (tyName d != "object") = true) : ∀ {ts : List String}, ts.all tyOk = true → PySem.W.kitAny K (.type (tyName d)) (ts.map Value.type) = some (ts.any fun t => isTy t d)
  | [], _ => rfl
  | t :: ts, h => by
    rw [List.all_cons] at h
    obtain ⟨h1, h2⟩ := b2 h
    have ih := kitAny_ok (K := K) ho h2
    refine kitAny_cons (kit_ty (kitB_ok h1 ho)) (fun e => ?_) fun e => ?_
    · rw [ih, List.any_cons, e]
      rfl
    · rw [List.any_cons, e]
      rfl
theorem paired_ty : ∀ {ts : List String}, Paired ClsV (ts.map V.ty) (ts.map Value.type)
  | [] => .nil
  | t :: _ => .cons (.ty t) paired_ty
theorem s_isIs {ts : List String} {a : E} {e' : Expr} (x : XOk c kn k X) (h : agE c (.isIs ts a) e' = true) (ha : ∀ a', agE c a a' = true → PE X a' (tE X.K a)) : PE X e' (tE X.K (.isIs ts a)) := by
  have h0 : ∃ y p a' es' tk tp p3, e' = .Call (.Name y p) [a', .Tuple es' tk tp] [] p3 ∧ y = ("isinstance" : Str) ∧ glB c.sc y = true ∧ ts.length ≤ sizeLine ∧ tysB c ts es' = true ∧ notStar a' = true ∧ agE c a a' = true := by
    cases e' with
    | Call f args kws p3 =>
      cases f with
      | Name y p =>
        match args, kws, h with
        | [a', b'], [], h =>
          cases b' with
          | Tuple es' tk tp =>
            obtain ⟨h1, h⟩ := b2 (show (decide (y = ("isinstance" : Str)) && (glB c.sc y && (decide (ts.length ≤ sizeLine) && (tysB c ts es' && (notStar a' && agE c a a'))))) = true from h)
            obtain ⟨h2, h⟩ := b2 h
            obtain ⟨h0, h⟩ := b2 h
            obtain ⟨h3, h⟩ := b2 h
            obtain ⟨h4, h5⟩ := b2 h
            exact ⟨y, p, a', es', tk, tp, p3, rfl, of_decide_eq_true h1, h2, of_decide_eq_true h0, h3, h4, h5⟩
          | _ => exact absurd h Bool.false_ne_true
        | [], _, h => exact absurd h Bool.false_ne_true
        | [_], _, h => exact absurd h Bool.false_ne_true
        | [_, b'], _ :: _, h => cases b' <;> exact absurd h Bool.false_ne_true
        | _ :: b' :: _ :: _, _, h => cases b' <;> exact absurd h Bool.false_ne_true
      | _ => exact absurd h Bool.false_ne_true
    | _ => exact absurd h Bool.false_ne_true
  obtain ⟨y, p, a', es', tk, tp, p3, rfl, rfl, h1, hz, h2, h4, h5⟩ := h0
  obtain ⟨g1, d1⟩ := x.glb h1
  obtain ⟨pt, ht⟩ := pa_tys x h2
  refine PE.imp (pe_callB (call_isiT (X := X)) g1 (free_of x (by decide +kernel)) (by decide +kernel) (pa_cons (ha a' h5) (pa_cons (pe_tup pt) pa_nil (star_cons (by rfl))) (star_cons h4)) (by decide +kernel) d1 (star_cons h4) (by rw [star_cons (by rfl)]; rfl)) fun σ H Q hh => ?_
  obtain ⟨as, F, st, env, r, st', s, en, e, af⟩ := hh
  obtain ⟨ra, s1, e1, z1⟩ := bind_inv (show (evE a env >>= fun x => peek x >>= fun p => M.guard (tyName p != "object") >>= fun _ => (pure (R.dat (.bl (ts.any fun t => isTy t p))) : M R)) st = .ok r st' from e)
  obtain ⟨d, s2, e2, z2⟩ := bind_inv z1
  obtain ⟨_, s3, e3, z3⟩ := bind_inv z2
  refine ⟨as, F, st, env, ra, s1, s, en, e1, fun v F1 H1 k1 x1 r1 f1 => ?_⟩
  obtain ⟨rfl, v1⟩ := peek_ok k1 r1 e2
  obtain ⟨g, rfl⟩ := guard_inv e3
  obtain ⟨rfl, rfl⟩ := pure_inv z3
  refine ⟨by rw [List.length_map]; exact hz, fun b hb => ?_⟩
  have k2 := k1.upd (o := .tup (ts.map V.ty)) hb
  have x2 : Ext [] as F1 H1 st' as F1 (L2.upd H1 b (.tup (ts.map V.ty))) st' := Ext.updH hb
  obtain ⟨_, v2⟩ := peek_ok k2 (r1.ext k1.len x2 fun _ _ z => nomatch z) e2
  exact ⟨v, b, ts.map V.ty, _, ts.map Value.type, _, rfl, upd_same, paired_ty, v2.tyX k2.sub g, kitAny_ok g ht, af (.bl _) F1 _ k2 (x1.trans s.len k1.len x2) (.dat (.bl _)) trivial⟩
end
end DB
set_option maxHeartbeats 4000000
/-! a sequence from behind: x[::-1] -/
namespace DB
open PySem PySem.Spec PyProof.Rows L2 HT
section
variable {prog : Program} {w : World} {A : Around} {E : Value → Shared → Prop} {s : Shared}
theorem rev_adjust (n : Nat) : Builtin.Slice.sliceAdjust none none (-1) (n : Int) = ((n : Int) - 1, -1) := rfl
theorem rev_places (n : Nat) : Builtin.Slice.slicePlaces ((n : Int) - 1) (-1) (-1) = n := by
  unfold Builtin.Slice.slicePlaces
  have h1 : ¬ ((-1 : Int) > 0) := by decide
  simp only [h1, if_false]
  have h2 : (-(-1) : Int) = 1 := by decide
  rw [h2, Int.ediv_one]
  split <;> omega
theorem sliceApplied_rev {sl : Addr} {vk : Value} {n : Nat} {Q : Int × Int × Nat → Shared → Prop} (hs : s.heap.IsSliceOf sl .none .none vk) (pk : IsPart vk (some (-1)))
    (h : Q ((n : Int) - 1, -1, n) s) : wpAny (model prog w) A (Builtin.Slice.sliceApplied (.ref sl) (pure (n : Int))) Q E s := by
  obtain ⟨os, hos, hcs, hds⟩ := id hs
  unfold Builtin.Slice.sliceApplied Builtin.Slice.sliceFields
  refine wpAny_bind (wpAny_bind (wpAny_field hos hds (x := .none) rfl (wpAny_bind (wpAny_field hos hds (x := .none) rfl (wpAny_bind (wpAny_field hos hds (x := vk) rfl (wpAny_pure ?_)))))))
  refine wpAny_bind (slicePart_ pk ?_)
  show wpAny _ _ (if ((-1 : Int) == 0) = true then _ else _) _ _ s
  rw [if_neg (by decide)]
  refine wpAny_bind (slicePart_none (wpAny_bind (slicePart_none (wpAny_bind (wpAny_pure ?_)))))
  show wpAny _ _ (match Builtin.Slice.sliceAdjust none none (-1) (n : Int) with | (lo, hi) => pure (lo, (-1 : Int), Builtin.Slice.slicePlaces lo hi (-1))) _ _ s
  rw [rev_adjust]
  show wpAny _ _ (pure ((n : Int) - 1, (-1 : Int), Builtin.Slice.slicePlaces ((n : Int) - 1) (-1) (-1))) _ _ s
  rw [rev_places]
  exact wpAny_pure h
theorem rev_pick (xs : Array Value) : ((List.range xs.size).filterMap fun (m : Nat) => xs[(((xs.size : Nat) : Int) - 1 + (m : Int) * (-1)).toNat]?).toArray = xs.toList.reverse.toArray := by
  have e : (fun (m : Nat) => xs[(((xs.size : Nat) : Int) - 1 + (m : Int) * (-1)).toNat]?) = fun m => xs[xs.size - 1 - m]? := by
    funext m
    have : (((xs.size : Nat) : Int) - 1 + (m : Int) * (-1)).toNat = xs.size - 1 - m := by omega
    rw [this]
  rw [e]
  have h1 := PySem.W.krv_range xs.size
  have h2 := PySem.W.krv_all xs
  have h3 : (List.range xs.size).filterMap (fun m => xs[xs.size - 1 - m]?) = ((List.range xs.size).map fun k => xs.size - 1 - k).filterMap (xs[·]?) := by
    rw [List.filterMap_map]
    rfl
  rw [h3, h1, List.filterMap_reverse, h2]
theorem getItem_tuple_rev {t sl : Addr} {items : Array Value} {vk : Value} {Q : Value → Shared → Prop} (ht : IsTup s.heap t items) (hs : s.heap.IsSliceOf sl .none .none vk) (pk : IsPart vk (some (-1)))
    (h : Q (.ref s.heap.objs.size) { s with heap := s.heap.push { cls := .type "tuple", data := .seq items.toList.reverse.toArray } })
    (hsz : items.size ≤ sizeLine) : wpAny (model prog w) A (getItem (.ref t) (.ref sl)) Q E s := by
  have htake : sizeOk (.seq items.toList.reverse.toArray) := by
    show items.toList.reverse.toArray.size ≤ sizeLine
    rw [List.size_toArray, List.length_reverse, Array.length_toList]
    exact hsz
  obtain ⟨os, hos, hcs, hds⟩ := id hs
  have hTs : s.TypeIs (.ref sl) "slice" := ⟨os, hos, hcs⟩
  unfold getItem
  try with_reducible refine wpAny_holding ?_
  first | refine wpAny_bind (wpAny_pure ?_) | skip
  refine wpAny_bind (wpAny_sequenceKey ht.typeIs (by decide) ?_)
  refine wpAny_bind (wpAny_callSpecial?_slot (name := Str.ofString "__getitem__") ht.typeIs PyProof.Rows.slot_tuple_getitem
    (wpAny_call_entry PyProof.Rows.slot_tuple_getitem ht.typeIs entry_tuple_getitem ?_ (args_tuple_getitem _ _)))
  show wpAny _ _ (Builtin.Tuple.tupleItemsOf (.ref t) >>= _) _ _ s
  refine wpAny_bind (tupleItemsOf_ ht ?_)
  refine wpAny_bind (wpAny_typeOf hTs ?_)
  rw [if_pos (by decide)]
  refine wpAny_bind (sliceApplied_rev hs pk ?_)
  have hno : ¬ ((((items.size : Nat) : Int) - 1 == 0 && (-1 : Int) == 1 && items.size == items.size) = true) := by
    intro q
    rw [Bool.and_eq_true, Bool.and_eq_true] at q
    exact absurd q.1.2 (by decide)
  show wpAny _ _ (if (((items.size : Nat) : Int) - 1 == 0 && (-1 : Int) == 1 && items.size == items.size) = true then _ else _) _ _ s
  rw [if_neg hno, rev_pick]
  first
    | exact wpAny_bind (m := Builtin.Tuple.tupleExact _) (wpAny_newObj_type (wpAny_pure ⟨_, rfl, wpAny_pure h⟩) htake)
    | exact wpAny_bind (m := Builtin.Tuple.tupleExact _) (wpAny_newObj_type (wpAny_bind (wpAny_pure (wpAny_pure ⟨_, rfl, wpAny_pure h⟩))) htake)
    | exact wpAny_bind (wpAny_bind (m := Builtin.Tuple.tupleExact _) (wpAny_newObj_type (wpAny_pure (wpAny_pure ⟨_, rfl, wpAny_pure h⟩)) htake))
    | exact wpAny_bind (wpAny_bind (m := Builtin.Tuple.tupleExact _) (wpAny_newObj_type (wpAny_pure ⟨_, rfl, wpAny_pure h⟩) htake))
end
section
variable {X : Cx}
def tRevA (K : PySem.W.Frag) (te : TE) : TE := fun σ H Q => te σ H fun x H1 => ∃ a xs, x = .ref a ∧ ((SqL K H1 a xs ∧ ∀ p, H1 p = none → Q (.ref p) (upd H1 p (.lst xs.reverse))) ∨ (SqT K H1 a xs ∧ ∀ p, H1 p = none → Q (.ref p) (upd H1 p (.tup xs.reverse))))
theorem pe_revA {e : Expr} {te : TE} {k : Nat} {p1 p2 p3 pos : Pos} (he : PE X e te) : PE X (.Subscript e (.Slice none none (some (.UnaryOp .USub (.Constant (.int 1) k p1) p2)) p3) pos) (tRevA X.K te) := by
  refine ⟨fun pins s σ H Q I h => ?_⟩
  refine Subscript_ (thn (he.run pins s σ H _ I h) fun v s1 ⟨x, H1, I1, r1, q1⟩ => ?_)
  obtain ⟨a, xs, ex, hx⟩ := q1
  subst ex
  cases r1
  have hst : PO X (some (.UnaryOp .USub (.Constant (.int 1) k p1) p2)) (tPart (tUn (rU fun i => .int (-i)) (tC (.int 1)))) := po_some (pe_un un_neg pe_int)
  refine wpAny_Slice (thn (po_none.run pins s1 σ H1 (fun o H2 => o = none ∧ H2 = H1) I1 ⟨rfl, rfl⟩) fun vl s2 ⟨l, H2, I2, pl, el, e2⟩ => ?_)
  subst el e2
  refine thn (po_none.run pins s2 σ H2 (fun o H3 => o = none ∧ H3 = H2) I2 ⟨rfl, rfl⟩) fun vu s3 ⟨u, H3, I3, pu, eu, e3⟩ => ?_
  subst eu e3
  refine thn (hst.run pins s3 σ H3 (fun o H4 => o = some (-1) ∧ H4 = H3) I3 ⟨1, rfl, -1, rfl, rfl, rfl⟩) fun vs s4 ⟨o, H4, I4, ps, eo, e4⟩ => ?_
  subst eo e4
  have I5 : Inv X pins σ H4 { s4 with heap := s4.heap.push { cls := .type "slice", data := .fields #[vl, vu, vs] } } := I4.kept (t' := s4.toks) fun b ob q => Heap.get?_push_of_some _ q
  show wpAny (model X.prog X.w) X.A (subscriptTail e (.Slice none none (some (.UnaryOp .USub (.Constant (.int 1) k p1) p2)) p3) (.ref a) (.ref s4.heap.objs.size)) (EP X pins σ Q) X.xe { s4 with heap := s4.heap.push { cls := .type "slice", data := .fields #[vl, vu, vs] } }
  rcases hx with ⟨hx, q⟩ | ⟨hx, q⟩
  · obtain ⟨its, r, ht, hz⟩ := I5.list hx
    have hlen := r.length
    refine tail_any (ops := [.ref a, .ref s4.heap.objs.size]) ht.isList.typeIs (PySem.slot_list_getitem.lookup) ?_ (by with_unfolding_all rfl)
    refine wpAny_getItem_list_slice ht.isList (Heap.IsSliceOf.new _ vl vu vs) pl pu ps (by decide) ?_ (by rw [List.size_toArray]; omega)
    rw [PySem.W.krv_pick]
    refine ⟨.ref _, _, I5.laid (t' := s4.toks) (o := .lst xs.reverse) (fun b ob q => Heap.get?_push_of_some _ q) (Nat.le_refl _) ?_, rfl, q _ (I5.hok.fresh (Nat.le_refl _))⟩
    exact ⟨by rw [List.length_reverse]; exact hz, _, 0, r.reverse, Heap.get?_push_size _ rfl⟩
  · obtain ⟨its, r, ht, hz⟩ := I5.tuple hx
    have hlen := r.length
    cases pl
    cases pu
    refine tail_any (ops := [.ref a, .ref s4.heap.objs.size]) ht.typeIs (PyProof.Rows.slot_tuple_getitem.lookup) ?_ (by with_unfolding_all rfl)
    refine getItem_tuple_rev ht (Heap.IsSliceOf.new _ .none .none vs) ps ?_ (by rw [List.size_toArray]; omega)
    refine ⟨.ref _, _, I5.laid (t' := s4.toks) (o := .tup xs.reverse) (fun b ob q => Heap.get?_push_of_some _ q) (Nat.le_refl _) ?_, rfl, q _ (I5.hok.fresh (Nat.le_refl _))⟩
    exact ⟨by rw [List.length_reverse]; exact hz, _, r.reverse, IsTup.new _ _⟩
end
section
variable {c : AC} {kn : Know} {k : Nat} {X : Cx}
theorem DsOk.reverse {K : PySem.W.Frag} {F : Hp} {vs : List V} {ds : List D} (h : DsOk K F vs ds) : DsOk K F vs.reverse ds.reverse := by
  induction vs generalizing ds with
  | nil => cases h; exact .nil
  | cons v vs ih =>
    cases h with
    | cons h r => rw [List.reverse_cons, List.reverse_cons]; exact (ih r).append (.cons h .nil)
theorem s_sls {st : Int} {a : E} {e' : Expr} (h : agE c (.sls st a) e' = true) (ha : ∀ a', agE c a a' = true → PE X a' (tE X.K a)) : PE X e' (tE X.K (.sls st a)) := by
  have h0 : ∃ a' k1 p1 p2 p3 p4, st = -1 ∧ agE c a a' = true ∧ e' = .Subscript a' (.Slice none none (some (.UnaryOp .USub (.Constant (.int 1) k1 p1) p2)) p3) p4 := by
    cases e' with
    | Subscript a' b' p4 =>
      cases b' with
      | Slice lo hi stp p3 =>
        cases lo with
        | some _ => exact absurd h Bool.false_ne_true
        | none =>
        cases hi with
        | some _ => exact absurd h Bool.false_ne_true
        | none =>
        cases stp with
        | none => exact absurd h Bool.false_ne_true
        | some z =>
        cases z with
        | UnaryOp op y p2 =>
          cases op with
          | USub =>
            cases y with
            | Constant v k1 p1 =>
              cases v with
              | int j =>
                obtain ⟨h1, h⟩ := b2 (show (decide (st = -1) && (decide (j = 1) && agE c a a')) = true from h)
                obtain ⟨h2, h3⟩ := b2 h
                have e2 := of_decide_eq_true h2
                subst e2
                exact ⟨a', k1, p1, p2, p3, p4, of_decide_eq_true h1, h3, rfl⟩
              | _ => exact absurd h Bool.false_ne_true
            | _ => exact absurd h Bool.false_ne_true
          | _ => exact absurd h Bool.false_ne_true
        | _ => exact absurd h Bool.false_ne_true
      | _ => exact absurd h Bool.false_ne_true
    | _ => exact absurd h Bool.false_ne_true
  obtain ⟨a', k1, p1, p2, p3, p4, rfl, h1, rfl⟩ := h0
  refine PE.imp (pe_revA (ha a' h1)) fun σ H Q hh => ?_
  obtain ⟨as, F, st, env, r, st', s, en, e, af⟩ := hh
  obtain ⟨ra, s1, e1, z1⟩ := bind_inv (show (evE a env >>= fun x => peek x >>= fun p => stB (-1) p) st = .ok r st' from e)
  obtain ⟨p, s2, e2, z2⟩ := bind_inv z1
  refine ⟨as, F, st, env, ra, s1, s, en, e1, fun v F1 H1 k1 x1 r1 f1 => ?_⟩
  obtain ⟨rfl, v1⟩ := peek_ok k1 r1 e2
  cases p with
  | tup ds =>
    obtain ⟨rfl, rfl⟩ := pure_inv (show (pure (R.dat (.tup ds.reverse)) : M R) s2 = .ok r st' from z2)
    obtain ⟨b, ys, rfl, h1, h2, h3, _⟩ := v1.tup k1.sub
    have af' : Aft X.K as F1 H1 st' (.dat (.tup ds.reverse)) st' Q := fun v F2 H2 k2 x2 r2 f2 => af v F2 H2 k2 (x1.trans s.len k1.len x2) r2 trivial
    exact ⟨b, ys, rfl, .inr ⟨h1, af'.tup k1 h3.reverse (by rw [List.length_reverse]; exact h2)⟩⟩
  | lst ds =>
    obtain ⟨rfl, rfl⟩ := pure_inv (show (pure (R.own (.lst ds.reverse)) : M R) s2 = .ok r st' from z2)
    obtain ⟨b, ys, rfl, h1, h2, h3⟩ := v1.lst k1.sub
    have af' : Aft X.K as F1 H1 st' (.own (.lst ds.reverse)) st' Q := fun v F2 H2 k2 x2 r2 f2 => af v F2 H2 k2 (x1.trans s.len k1.len x2) r2 (Fresh.back x1 f2)
    exact ⟨b, ys, rfl, .inl ⟨SqL.of h1, af'.lst k1 h3.reverse (by rw [List.length_reverse]; exact h2)⟩⟩
  | _ => exact (no_inv z2).elim
end
end DB
set_option maxHeartbeats 4000000
/-! set(xs), xs a list of ints; sorted, counted -/
namespace DB
open PySem PySem.Spec PyProof.Rows L2
section
variable {P : Program} {w : World} {A : Around} {E : Value → Shared → Prop} {s : Shared}
set_option maxHeartbeats 6400000 in
theorem set_listI {lx : Addr} {its : Array Value} (ks : List Int) {Q : Value → Shared → Prop} (kh : A.handled = none) (kl : s.heap.IsList lx its) (ki : IntsAre its.toList ks) (kb : ks.length + 1 < scanBound)
    (fin : ∀ (h' : Heap) (tk cn : Nat), SetR w h' s.heap.objs.size (fun j => decide (j ∈ ks)) cn → cn ≤ ks.length → (∀ b o, s.heap.get? b = some o → h'.get? b = some o) → Q (.ref s.heap.objs.size) { s with heap := h', toks := tk }) :
    wpAny (model P w) A (call (.type "set") [.ref lx]) Q E s := by
  have ksz : its.size = ks.length := by
    have qq := IntsAre.length ki
    rw [Array.length_toList] at qq
    exact qq
  obtain ⟨cn, rl, kmro⟩ := F.called_set.mro
  have kmade := F.called_set.made
  have ksub := F.called_set.sub
  refine wpAny_call (codeAny_of_tree ?_)
  show wpAny _ _ (callAny (.type "set") _) _ _ _
  refine wpAny_pure ⟨Code.quiet_builtin _ (by decide +kernel), codeAny_builtin F.entry_type_call ?_⟩
  rw [Around.under_plain (weight_type_call_type "set" [.ref lx] []) rfl]
  have w1 := F.called_set.notType
  have w2 := F.called_set.canCreate
  have wct := F.typeCall_set_1 (.ref lx)
  repeat (any_goals (first | assumption | wp_step))

  refine codeAny_mono (code_set_led1 (.ref lx) (E := E) (Q₁ := fun ov sA => ov = .ref s.heap.objs.size ∧ sA = { s with heap := s.heap.push { cls := .type "set", dict := none, data := .set #[] 0 (.fresh 0 0 (!w.params.followText "set-order")) } }) ⟨rfl, rfl⟩) fun r sA kr => ?_
  cases r with
  | error ee => exact kr
  | ok fw =>
    cases fw with
    | ret ov =>
      obtain ⟨rfl, rfl⟩ := kr
      have kS : (s.heap.push { cls := .type "set", dict := none, data := .set #[] 0 (.fresh 0 0 (!w.params.followText "set-order")) }).get? s.heap.objs.size = some { cls := .type "set", dict := none, data := .set #[] 0 (.fresh 0 0 (!w.params.followText "set-order")) } := Heap.get?_push_size _ rfl
      have kT : Shared.TypeIs { s with heap := s.heap.push { cls := .type "set", dict := none, data := .set #[] 0 (.fresh 0 0 (!w.params.followText "set-order")) } } (.ref s.heap.objs.size) "set" := ⟨_, kS, rfl⟩
      have kli := F.called_set.init.lookup
      have kbi := F.called_set.init.bind (.ref s.heap.objs.size)
      repeat (any_goals (first | assumption | wp_step))

      refine codeAny_mono (codeAny_call_builtin (R := wants (fun r sB => r = .none ∧ ∃ h' tk cn, sB = { s with heap := h', toks := tk } ∧ SetR w h' s.heap.objs.size (fun j => decide (j ∈ ks)) cn ∧ cn ≤ ks.length ∧
          (∀ b o, s.heap.get? b = some o → h'.get? b = some o)) E) F.called_set.init.plain F.entry_set_init (check_set_init_1 kT ?_)) fun rB sB kr2 => ?_
      · obtain ⟨ob, kob, kcl, nb, kdl⟩ := kl
        obtain ⟨bcl, bdi, bda, bsl⟩ := ob
        simp only at kcl kdl
        subst kcl; subst kdl
        have kob2 : (s.heap.push { cls := .type "set", dict := none, data := .set #[] 0 (.fresh 0 0 (!w.params.followText "set-order")) }).get? lx = some { cls := .type "list", dict := bdi, data := .seq its nb, slots := bsl } := Heap.get?_push_of_some _ kob
        have ksls := PySem.F.sub_list_set
        have kslf := PySem.F.sub_list_frozenset
        have kne : (Value.type "list" == Value.type "dict") = false := by decide
        have kl1 : (s.heap.push { cls := .type "set", dict := none, data := .set #[] 0 (.fresh 0 0 (!w.params.followText "set-order")) }).IsList lx its := ⟨_, kob2, rfl, nb, rfl⟩
        unfold Builtin.«set.__init__» noKeywords Builtin.Frozenset.updateFrom
        generalize kPI : pyIter = PI
        wp_walk
        subst kPI

        refine wpAny_pyIter_list kl1 ?_
        refine wpAny_bind (wpAny_runValue ?_)
        have klS : lx < s.heap.objs.size := Heap.lt_size kob
        have kh3 : A.in1.in1.in1.handled = none := by simp [kh]
        have kz1 : (s.heap.push { cls := .type "set", dict := none, data := .set #[] 0 (.fresh 0 0 (!w.params.followText "set-order")) }).objs.size = s.heap.objs.size + 1 := Heap.size_push ..
        have kneI : lx ≠ (s.heap.push { cls := .type "set", dict := none, data := .set #[] 0 (.fresh 0 0 (!w.params.followText "set-order")) }).objs.size := by
          rw [Heap.size_push]; exact Nat.ne_of_lt (Nat.lt_succ_of_lt klS)
        have kSf : s.heap.objs.size ∉ [(s.heap.push { cls := .type "set", dict := none, data := .set #[] 0 (.fresh 0 0 (!w.params.followText "set-order")) }).objs.size, lx] := by
          rw [Heap.size_push]; simp only [List.mem_cons, List.mem_singleton, List.not_mem_nil, or_false, not_or]
          exact ⟨Nat.ne_of_lt (Nat.lt_succ_self _), Nat.ne_of_gt klS⟩
        have kval : ∀ (ix : Nat) (vx : Value), its[ix]? = some vx → ∃ kx tx, ks[ix]? = some kx ∧ vx = .int kx tx := fun ix vx kv => by
          have kix : ix < ks.length := by rw [← ksz]; exact (Array.getElem?_eq_some_iff.mp kv).1
          obtain ⟨tx, ee⟩ := PyProof.Rows.IntsAre.int_at ki ix vx (by rw [Array.getElem?_toList]; exact kv)
          refine ⟨ks[ix], tx, List.getElem?_eq_getElem kix, ?_⟩
          rw [ee, List.getD_eq_getElem?_getD, List.getElem?_eq_getElem kix] <;> rfl
        refine set_update_ints ((Walks.list kh3 _ lx kneI its).toS) s.heap.objs.size
          kSf ks ksz kb kval (its.size - 0) 0 _ (by omega) (Nat.zero_le _)
          ⟨⟨_, Heap.get?_push_size _ rfl, rfl, rfl⟩, (kl1.push _)⟩ ?cS ?cR
        case cS =>
          have kget : ((s.heap.push { cls := .type "set", dict := none, data := .set #[] 0 (.fresh 0 0 (!w.params.followText "set-order")) }).push { cls := .type "list_iterator", data := .fields #[.ref lx, .int 0 0] }).get? s.heap.objs.size
              = some { cls := .type "set", dict := none, data := .set #[] 0 (.fresh 0 0 (!w.params.followText "set-order")) } := Heap.get?_push_of_some _ kS
          exact ⟨0, Nat.le_refl 0, setR_new_at kget⟩
        case cR =>
          intro s' c' mv kc2 kS2
          obtain ⟨h', gg, dd, tk', oo⟩ := s'
          have eG : gg = s.gens := mv.gens
          have eD : dd = s.drawn := mv.drawn
          have eO : oo = s.os := mv.os
          subst eG; subst eD; subst eO
          show wpAny _ _ _ _ _ _
          refine wpAny_pure ?_
          show wpAny _ _ (ret Value.none) _ _ _
          rw [ksz] at kc2
          refine wpAny_pure ⟨rfl, h', tk', c', rfl, kS2, kc2, fun b o ee => ?_⟩
          have kb0 : b < s.heap.objs.size := Heap.lt_size ee
          have kb1 : b ≠ s.heap.objs.size := Nat.ne_of_lt kb0
          have kb2 : b ≠ (s.heap.push { cls := .type "set", dict := none, data := .set #[] 0 (.fresh 0 0 (!w.params.followText "set-order")) }).objs.size := by
            rw [Heap.size_push]; exact Nat.ne_of_lt (Nat.lt_succ_of_lt kb0)
          exact mv.heap b o (by simp only [List.mem_cons, List.mem_singleton, List.not_mem_nil, or_false, not_or]; exact ⟨kb1, kb2⟩) (Heap.get?_push_of_some _ (Heap.get?_push_of_some _ ee))

      · cases rB with
        | error ee => exact kr2
        | ok fw2 =>
          cases fw2 with
          | ret r =>
            obtain ⟨rfl, h', tk, c', rfl, kS2, kc2, kk2⟩ := kr2
            repeat (any_goals (first | assumption | wp_step))
            exact fin _ _ _ kS2 kc2 kk2
          | _ => exact kr2.elim
    | _ => exact kr.elim

/-- sorted(set), any number of members -/
theorem set_sorted {a : Addr} {S : Int → Bool} {n : Nat} {Q : Value → Shared → Prop} (R : SetR w s.heap a S n) (kh : A.handled = none)
    (fin : ∀ s' p (out : Array Value) (cn : Nat) (ks : List Int), (∀ b o, s.heap.get? b = some o → s'.heap.get? b = some o) → s'.gens = s.gens → s'.os = s.os → s.heap.objs.size ≤ p →
      s'.heap.get? p = some (seqObj "list" out cn) → IntsAre out.toList ks → ks.Pairwise (· ≤ ·) → ks.Nodup → (∀ k, k ∈ ks ↔ S k = true) → ks.length = n → Q (.ref p) s') :
    wpAny (model P w) A (call (.builtin "sorted") [.ref a]) Q E s := by
  obtain ⟨ob, es, ep, tb, kob, kex, kd, kg, knd, km, kb, kf, kn, kr, kl⟩ := R
  refine Calls.call_function_entry (kind_sorted) plain_sorted entry_sorted (args_sorted1 _) ?_
  unfold Builtin.«sorted»
  refine wpAny_bind (m := checkCount "sorted" 1 1 _) (wpAny_pure ?_)
  refine wpAny_bind (collect_set (A := A.in1) kh ⟨ob, kob, kex.1, kd⟩ kf kb kr kl fun sA vs k1 kz g1 o1 pm => ?_)
  have hvl : vs.length = n := by rw [pm.length_eq, List.length_map, Array.length_toList]; exact kn
  have hI : IntsAre vs (vs.map Builtin.Re.reRawOf) := ints_of vs fun v hv => by
    obtain ⟨e1, he1, q1⟩ := List.mem_map.mp (pm.mem_iff.mp hv)
    obtain ⟨k, tk, h1, _⟩ := kg e1 he1
    exact ⟨k, tk, by rw [← q1]; exact h1⟩
  have pk : (vs.map Builtin.Re.reRawOf).Perm (es.toList.map L2.keyOf) := by
    have q1 := pm.map Builtin.Re.reRawOf
    rw [List.map_map] at q1
    exact q1
  have hzl : vs.length ≤ sizeLine := by
    rw [hvl, ← kn]
    exact Nat.le_trans (Nat.le_of_lt kb) (by decide +kernel)
  refine wpAny_bind (wpAny_newList ?_ hzl)
  have hoL : (sA.heap.push (seqObj "list" vs.toArray 0)).get? sA.heap.objs.size = some (seqObj "list" vs.toArray 0) := Heap.get?_push_size _ rfl
  refine wpAny_bind (wpAny_holding (wpAny_call_entry slot_list_sort ⟨_, hoL, rfl⟩ entry_list_sort (SrtO.list_sort_ord SrtO.swo_int hoL hzl (fun h2 => SrtO.ints_sortable hI h2) fun out h1 h2 => ⟨_, rfl, ?_⟩) (args_list_sort _)))
  obtain ⟨q1, q2, q3⟩ := SrtO.ints_out hI h1 h2
  obtain ⟨cn, hcn⟩ := sortedHeap_at (vs := vs) (out := out.toArray) hoL
  have pn : (out.map SrtO.iv).Perm (es.toList.map L2.keyOf) := q2.trans pk
  refine wpAny_pure ⟨_, rfl, fin _ sA.heap.objs.size out.toArray cn (out.map SrtO.iv) (fun b u e1 => ?_) g1 o1 kz hcn q1 q3 (pn.nodup_iff.mpr knd) (fun k => by rw [pn.mem_iff, ← km k]) ?_⟩
  · have q4 := k1 b u e1
    have hlt := Heap.lt_size q4
    show (sortedHeap (sA.heap.push (seqObj "list" vs.toArray 0)) sA.heap.objs.size vs out.toArray).get? b = some u
    rw [sortedHeap_old (Nat.ne_of_lt hlt) (by rw [size_push']; exact Nat.lt_succ_of_lt hlt)]
    exact Heap.get?_push_of_some _ q4
  · rw [pn.length_eq, List.length_map, Array.length_toList]
    exact kn
end
section
variable {X : Cx}
/-- sorted(set(xs)), len(set(xs)), ints in a list or in a tuple -/
def tSetI (K : PySem.W.Frag) (ta : TE) (B : List Int → VK → Hp → Prop) : TE := fun σ H Q => ta σ H fun x H1 => ∃ (l : Addr) (ks : List Int), x = .ref l ∧ (SqL K H1 l (ks.map V.int) ∨ SqT K H1 l (ks.map V.int)) ∧ ks.length + 1 < scanBound ∧ B ks Q H1
def bSort (ks : List Int) (Q : VK) (H : Hp) : Prop := ∀ (is : List Int) (p : Addr), is.Pairwise (· ≤ ·) → is.Nodup → (∀ k, k ∈ is ↔ k ∈ ks) → H p = none → Q (.ref p) (upd H p (.lst (is.map V.int)))
def bLen (ks : List Int) (Q : VK) (H : Hp) : Prop := ∀ (is : List Int), is.Nodup → (∀ k, k ∈ is ↔ k ∈ ks) → Q (.int is.length) H
theorem setArg {a : Expr} {ta : TE} {p2 q pos : Pos} {B : List Int → VK → Hp → Prop} {f : Value} (hc : X.calm = true) (hg2 : Gl X "set") (hm2 : X.mg "set" = none) (ha : PE X a ta)
    (na : starEach [a] X.env = (false, eval a X.env) :: starEach [] X.env)
    (fin : ∀ (pins : List (Addr × Obj)) (s : Shared) (σ : L2.St) (H : Hp) (Q : VK) (b : Addr) (cn : Nat) (ks : List Int), Inv X pins σ H s → SetR X.w s.heap b (fun j => decide (j ∈ ks)) cn → B ks Q H →
      wpAny (model X.prog X.w) X.A (call f [.ref b]) (EP X pins σ Q) X.xe s)
    {pins : List (Addr × Obj)} {s : Shared} {σ : L2.St} {H : Hp} {Q : VK} (I : Inv X pins σ H s) (h : tSetI X.K ta B σ H Q) :
    wpAny (model X.prog X.w) X.A (eval (.Call (.Name "set" p2) [a] [] q) X.env) (fun v s2 => wpAny (model X.prog X.w) X.A (call f [v]) (EP X pins σ Q) X.xe s2) X.xe s := by
  refine Call_ (ld_blt I hg2 hm2 PyProof.Rows.boot_set ?_)
  refine PyProof.Rows.callWith_type1 (PyProof.Rows.args_cons (thn (ha.run pins s σ H _ I h) fun v s1 ⟨x, H1, I1, r1, l, ks, ex, hq, hb, q1⟩ => PyProof.Rows.args_nil ?_) na) na rfl
  subst ex
  cases r1
  rcases hq with hq | hq
  · obtain ⟨its, rv, pl, hz⟩ := I1.list hq
    exact set_listI ks (I1.ok.hd hc) pl.isList (by simpa using rv.ints) hb fun h' tk cn hS hl hk => fin pins _ σ H1 Q _ cn ks (I1.kept hk) hS q1
  · obtain ⟨its, rv, pl, hz⟩ := I1.tuple hq
    exact call_set_tupI ks (I1.ok.hd hc) pl (by simpa using rv.ints) hb fun h' tk cn hS hl hk => fin pins _ σ H1 Q _ cn ks (I1.kept hk) hS q1
theorem pe_sortSet {a : Expr} {ta : TE} {p p2 q pos : Pos} (hc : X.calm = true) (hg : Gl X "sorted") (hm : X.mg "sorted" = none) (hg2 : Gl X "set") (hm2 : X.mg "set" = none) (ha : PE X a ta)
    (na : starEach [a] X.env = (false, eval a X.env) :: starEach [] X.env) : PE X (.Call (.Name "sorted" p) [.Call (.Name "set" p2) [a] [] q] [] pos) (tSetI X.K ta bSort) := by
  refine ⟨fun pins s σ H Q I h => ?_⟩
  refine Call_ (ld_blt I hg hm (by decide +kernel : bootBuiltins "sorted" = some (.builtin "sorted")) ?_)
  refine PyProof.Rows.callWith_builtin1 (PyProof.Rows.args_cons (thn (setArg (f := .builtin "sorted") (pos := pos) hc hg2 hm2 ha na (fun pins s σ H Q b cn ks I2 hS hB => ?_) I h) fun v s1 hv => PyProof.Rows.args_nil hv) rfl) rfl rfl
  refine set_sorted hS (I2.ok.hd hc) fun s' p out cn' is k g o hp ho hi h1 h2 h3 h4 => ?_
  have hn : H p = none := I2.hok.fresh hp
  have hlen : (is.map V.int).length ≤ sizeLine := by
    rw [List.length_map, h4]
    obtain ⟨ob, es, ep, tb, kob, kex, kd, kg, knd, km, kb, kf, kn, kr, kl⟩ := hS
    rw [← kn]
    exact Nat.le_trans (Nat.le_of_lt kb) (by decide +kernel)
  have J : Inv X pins σ (upd H p (.lst (is.map V.int))) { s with heap := s'.heap, gens := s'.gens, drawn := s'.drawn, toks := s'.toks } :=
    I2.call (ch := []) (Un.laid k hp hn) (I2.hok.laid k hp ⟨hlen, out.toList, cn', vals_of_ints hi, ho⟩) (by rw [g]; exact I2.bare) (fun _ z => nomatch z)
  have e1 : s' = { s with heap := s'.heap, gens := s'.gens, drawn := s'.drawn, toks := s'.toks } := by
    cases s'
    cases s
    cases o
    rfl
  rw [e1]
  exact ⟨.ref p, _, J, rfl, hB is p h1 h2 (fun k => by rw [h3]; exact decide_eq_true_iff) hn⟩
end
end DB
set_option maxHeartbeats 4000000
/-! sorted(set(x)) -/
namespace DB
open PySem PySem.Spec L2
theorem dedI_mem : ∀ {is : List Int} {k : Int}, k ∈ dedI is ↔ k ∈ is
  | [], k => Iff.rfl
  | i :: is, k => by
    show k ∈ i :: (dedI is).filter (fun j => j != i) ↔ _
    rw [List.mem_cons, List.mem_cons, List.mem_filter, dedI_mem]
    by_cases h : k = i
    · simp [h]
    · simp [h]
theorem dedI_len : ∀ is : List Int, (dedI is).length ≤ is.length
  | [] => Nat.le_refl _
  | i :: is => by
    show (i :: (dedI is).filter (fun j => j != i)).length ≤ _
    rw [List.length_cons, List.length_cons]
    exact Nat.succ_le_succ (Nat.le_trans (List.length_filter_le _ _) (dedI_len is))
theorem dedI_nodup : ∀ is : List Int, (dedI is).Nodup
  | [] => List.nodup_nil
  | i :: is => by
    show (i :: (dedI is).filter (fun j => j != i)).Nodup
    refine List.nodup_cons.mpr ⟨?_, (dedI_nodup is).filter _⟩
    rw [List.mem_filter]
    simp
theorem perm_of_mem : ∀ {l m : List Int}, l.Nodup → m.Nodup → (∀ k, k ∈ l ↔ k ∈ m) → l.Perm m
  | [], m, _, _, h => by
    cases m with
    | nil => exact .refl _
    | cons x m => exact absurd ((h x).mpr List.mem_cons_self) (by simp)
  | x :: l, m, d1, d2, h => by
    obtain ⟨d0, d1⟩ := List.nodup_cons.mp d1
    have hx : x ∈ m := (h x).mp List.mem_cons_self
    refine .trans (.cons x (perm_of_mem d1 (d2.erase x) fun k => ?_)) (List.perm_cons_erase hx).symm
    rw [List.Nodup.mem_erase_iff d2]
    constructor
    · intro hk
      exact ⟨fun e => d0 (e ▸ hk), (h k).mp (List.mem_cons_of_mem _ hk)⟩
    · rintro ⟨hne, hk⟩
      rcases List.mem_cons.mp ((h k).mpr hk) with e | e
      · exact absurd e hne
      · exact e
section
variable {c : AC} {kn : Know} {k : Nat} {X : Cx}
theorem tups_inv {K : PySem.W.Frag} {F : Hp} : ∀ {xs : List D} {ks : List (List Int)} {vs : List V}, tupsOf xs = some ks → DsOk K F vs xs → ∃ ps : List (Addr × List Int), vs = ps.map (fun p => V.ref p.1) ∧ ks = ps.map (·.2) ∧ ∀ p ∈ ps, SqT K F p.1 (p.2.map V.int)
  | [], ks, vs, h, d => by
    cases h
    cases d
    exact ⟨[], rfl, rfl, fun p hp => by cases hp⟩
  | x :: xs, ks, vs, h, d => by
    cases d with
    | cons d1 d2 =>
      cases x with
      | tup ys =>
        unfold tupsOf at h
        cases hi : intsOf ys with
        | none => rw [hi] at h; cases h
        | some is =>
          cases ht : tupsOf xs with
          | none => rw [hi, ht] at h; cases h
          | some ks' =>
            rw [hi, ht] at h
            cases h
            obtain ⟨ps, rfl, rfl, hp⟩ := tups_inv ht d2
            cases d1 with
            | @tup a us _ hq hl hd =>
              have := ints_inv hi
              subst this
              have := hd.ints
              subst this
              refine ⟨(a, is) :: ps, rfl, rfl, fun p hm => ?_⟩
              rcases List.mem_cons.mp hm with rfl | hm
              · exact hq
              · exact hp p hm
      | _ => cases h
theorem setw_shape {w : Sw} {a : E} {e' : Expr} (h : agE c (.setw w a) e' = true) : ∃ x p y p2 a' p3 p4, e' = .Call (.Name x p) [.Call (.Name y p2) [a'] [] p3] [] p4 ∧ x = Str.ofString (swName w) ∧ glB c.sc x = true ∧ y = ("set" : Str) ∧ glB c.sc y = true ∧ notStar a' = true ∧ agE c a a' = true := by
  cases e' with
  | Call f args kws p4 =>
    cases f with
    | Name x p =>
      match args, kws, h with
      | [b'], [], h =>
        cases b' with
        | Call f2 args2 kws2 p3 =>
          cases f2 with
          | Name y p2 =>
            match args2, kws2, h with
            | [a'], [], h =>
              obtain ⟨h1, h⟩ := b2 (show (decide (x = Str.ofString (swName w)) && (glB c.sc x && (decide (y = ("set" : Str)) && (glB c.sc y && (notStar a' && agE c a a'))))) = true from h)
              obtain ⟨h2, h⟩ := b2 h
              obtain ⟨h3, h⟩ := b2 h
              obtain ⟨h4, h⟩ := b2 h
              obtain ⟨h5, h6⟩ := b2 h
              exact ⟨x, p, y, p2, a', p3, p4, rfl, of_decide_eq_true h1, h2, of_decide_eq_true h3, h4, h5, h6⟩
            | [], _, h => exact absurd h Bool.false_ne_true
            | [_], _ :: _, h => exact absurd h Bool.false_ne_true
            | _ :: _ :: _, _, h => exact absurd h Bool.false_ne_true
          | _ => exact absurd h Bool.false_ne_true
        | _ => exact absurd h Bool.false_ne_true
      | [], _, h => exact absurd h Bool.false_ne_true
      | [b'], _ :: _, h =>
        cases b' with
        | Call f2 args2 kws2 p3 => cases f2 <;> first | exact absurd h Bool.false_ne_true | (rcases args2 with _ | ⟨_, _ | _⟩ <;> rcases kws2 with _ | _ <;> exact absurd h Bool.false_ne_true)
        | _ => exact absurd h Bool.false_ne_true
      | b' :: _ :: _, _, h =>
        cases b' with
        | Call f2 args2 kws2 p3 => cases f2 <;> first | exact absurd h Bool.false_ne_true | (rcases args2 with _ | ⟨_, _ | _⟩ <;> rcases kws2 with _ | _ <;> exact absurd h Bool.false_ne_true)
        | _ => exact absurd h Bool.false_ne_true
    | _ => exact absurd h Bool.false_ne_true
  | _ => exact absurd h Bool.false_ne_true
theorem s_setw {w : Sw} {a : E} {e' : Expr} (x : XOk c kn k X) (h : agE c (.setw w a) e' = true) (ha : ∀ a', agE c a a' = true → PE X a' (tE X.K a)) : PE X e' (tE X.K (.setw w a)) := by
  obtain ⟨y, p, z, p2, a', p3, p4, rfl, rfl, h1, rfl, h2, h3, h4⟩ := setw_shape h
  obtain ⟨g1, d1⟩ := x.glb h1
  obtain ⟨g2, d2⟩ := x.glb h2
  cases w with
  | sort =>
    refine PE.imp (pe_sortSet x.calm g1 (free_of x (by decide +kernel)) g2 (free_of x (by decide +kernel)) (ha a' h4) (star_cons h3)) fun σ H Q hh => ?_
    obtain ⟨as, F, st, env, r, st', s, en, e, af⟩ := hh
    obtain ⟨ra, s1, e1, z1⟩ := bind_inv (show (evE a env >>= fun x => peek x >>= fun p => setB .sort p) st = .ok r st' from e)
    obtain ⟨d, s2, e2, z2⟩ := bind_inv z1
    refine ⟨as, F, st, env, ra, s1, s, en, e1, fun v F1 H1 k1 x1 r1 f1 => ?_⟩
    obtain ⟨rfl, v1⟩ := peek_ok k1 r1 e2
    obtain ⟨xs, s3, e3, z3⟩ := bind_inv (show (M.opt (seqOf d) >>= fun xs => M.opt (intsOf xs) >>= fun is => M.guard (decide (is.length < 4000)) >>= fun _ => (pure (R.own (.lst ((isort (dedI is)).map D.int))) : M R)) s2 = .ok r st' from z2)
    obtain ⟨i3, rfl⟩ := opt_inv e3
    obtain ⟨is, s4, e4, z4⟩ := bind_inv z3
    obtain ⟨i4, rfl⟩ := opt_inv e4
    obtain ⟨_, s5, e5, z5⟩ := bind_inv z4
    obtain ⟨g1', rfl⟩ := guard_inv e5
    obtain ⟨rfl, rfl⟩ := pure_inv z5
    have g := of_decide_eq_true g1'
    have exs := ints_inv i4
    subst exs
    have fin : ∀ (l : Addr) (vs : List V), v = .ref l → (SqL X.K H1 l vs ∨ SqT X.K H1 l vs) → DsOk X.K F1 vs (is.map D.int) → ∃ (l : Addr) (ks : List Int), v = .ref l ∧ (SqL X.K H1 l (ks.map V.int) ∨ SqT X.K H1 l (ks.map V.int)) ∧ ks.length + 1 < scanBound ∧ bSort ks Q H1 := fun l vs ev hq hd => by
      have evs := hd.ints
      subst evs
      refine ⟨l, is, ev, hq, by unfold scanBound; omega, fun ns p h1 h2 h3 hp => ?_⟩
      have en : ns = isort (dedI is) := sorted_unique ((perm_of_mem h2 (dedI_nodup is) fun k => by rw [h3, dedI_mem]).trans (isort_perm _).symm) h1 (isort_sorted _)
      subst en
      have af' : Aft X.K as F1 H1 st' (.own (.lst ((isort (dedI is)).map D.int))) st' Q := fun v F2 H2 k2 x2 r2 f2 => af v F2 H2 k2 (x1.trans s.len k1.len x2) r2 (Fresh.back x1 f2)
      refine af'.lst k1 (DsOk.ofInts _) ?_ p hp
      have hl := dedI_len is
      rw [List.length_map, (isort_perm _).length_eq, sizeLine_eq]
      omega
    cases d with
    | lst ys =>
      cases i3
      obtain ⟨l, vs, ev, hq, hl, hd⟩ := v1.lst k1.sub
      exact fin l vs ev (.inl (SqL.of hq)) hd
    | tup ys =>
      cases i3
      obtain ⟨l, vs, ev, hq, hl, hd, _⟩ := v1.tup k1.sub
      exact fin l vs ev (.inr hq) hd
    | _ => cases i3
  | len =>
    refine PE.imp (pe_lenSet x.calm x.units g1 (free_of x (by decide +kernel)) g2 (free_of x (by decide +kernel)) (ha a' h4) (star_cons h3)) fun σ H Q hh => ?_
    obtain ⟨as, F, st, env, r, st', s, en, e, af⟩ := hh
    obtain ⟨ra, s1, e1, z1⟩ := bind_inv (show (evE a env >>= fun x => peek x >>= fun p => setB .len p) st = .ok r st' from e)
    obtain ⟨d, s2, e2, z2⟩ := bind_inv z1
    refine ⟨as, F, st, env, ra, s1, s, en, e1, fun v F1 H1 k1 x1 r1 f1 => ?_⟩
    obtain ⟨rfl, v1⟩ := peek_ok k1 r1 e2
    cases d with
    | lst ys =>
      obtain ⟨xs, s3, e3, z3⟩ := bind_inv (show (M.opt (seqOf (.lst ys)) >>= fun xs => M.opt (blsOf xs) >>= fun bs => (pure (R.dat (.int (cntB bs))) : M R)) s2 = .ok r st' from z2)
      obtain ⟨i3, rfl⟩ := opt_inv e3
      cases i3
      obtain ⟨bs, s4, e4, z4⟩ := bind_inv z3
      obtain ⟨i4, rfl⟩ := opt_inv e4
      obtain ⟨rfl, rfl⟩ := pure_inv z4
      have exs := bls_inv i4
      subst exs
      obtain ⟨l, vs, ev, hq, hl, hd⟩ := v1.lst k1.sub
      have evs := hd.bls
      subst evs
      exact .inl ⟨l, bs, ev, SqL.of hq, af (.int _) F1 H1 k1 x1 (.dat (.int _)) trivial⟩
    | tup ys =>
      obtain ⟨xs, s3, e3, z3⟩ := bind_inv (show (M.opt (seqOf (.tup ys)) >>= fun xs => M.opt (tupsOf xs) >>= fun ks => M.guard (decide (ks.length < 64)) >>= fun _ => (pure (R.dat (.int (dedL ks).length)) : M R)) s2 = .ok r st' from z2)
      obtain ⟨i3, rfl⟩ := opt_inv e3
      cases i3
      obtain ⟨ks, s4, e4, z4⟩ := bind_inv z3
      obtain ⟨i4, rfl⟩ := opt_inv e4
      obtain ⟨_, s5, e5, z5⟩ := bind_inv z4
      obtain ⟨g, rfl⟩ := guard_inv e5
      obtain ⟨rfl, rfl⟩ := pure_inv z5
      obtain ⟨l, vs, ev, hq, hl, hd, _⟩ := v1.tup k1.sub
      obtain ⟨ps, rfl, rfl, hp⟩ := tups_inv i4 hd
      rw [List.length_map] at g
      exact .inr ⟨l, ps, ev, hq, fun p hm => Same.seqT k1.sub (hp p hm), of_decide_eq_true g, af (.int _) F1 H1 k1 x1 (.dat (.int _)) trivial⟩
    | _ => exact (no_inv z2).elim
end
end DB
set_option maxHeartbeats 4000000
namespace DB
open PySem
/-- a comprehension's turn -/
def compF (tg : Tg) (cond : Ts) (elt : E) (env : Env) (d : D) : M (Option D) := do
  let env' ← evTg tg d (DB.wipe env tg.slots)
  let b ← evTAnd cond env'
  if b then do
    let r ← evE elt env'
    let x ← use r
    pure (some x)
  else pure none
end DB
set_option maxHeartbeats 4000000
namespace DB
open PySem PySem.Spec L2
section
variable {K : PySem.W.Frag} {F F' H H' : Hp} {ex as as' : List Addr} {st st' : Sto}
/-- an object that nobody knows changes -/
theorem StOk.updD (s : StOk K F H as st) {p : Addr} {o : HO} (hf : F p = none) (hp : p ∉ as) : StOk K F (L2.upd H p o) as st := by
  refine ⟨fun b u h => ?_, s.len, fun c a d h1 h2 => ?_, s.froz⟩
  · have ne : b ≠ p := fun z => by rw [z, hf] at h; cases h
    rw [upd_ne ne]
    exact s.sub b u h
  · obtain ⟨f, c1, u⟩ := s.live c a d h1 h2
    have ne : a ≠ p := fun z => hp (z ▸ List.mem_of_getElem? h1)
    exact ⟨f, c1.keep (upd_ne ne) (Same.refl _), u⟩
theorem Ext.updD {p : Addr} {o : HO} (e : Ext ex as F H st as' F' H' st') (hp : H p = none) : Ext ex as F H st as' F' (L2.upd H' p o) st' where
  pre := e.pre
  f := e.f
  k := fun b hb z => by
    unfold L2.upd at z
    split at z
    · cases z
    · exact e.k b hb z
  h := fun b u hb n nx => by
    obtain ⟨h1, h2⟩ := e.h b u hb n nx
    have ne : b ≠ p := fun z => by rw [z, hp] at hb; cases hb
    exact ⟨by rw [upd_ne ne]; exact h1, h2⟩
  l := e.l
  g := e.g
end
section
variable {c : AC} {kn : Know} {k : Nat} {X : Cx}
theorem evE_comp' {tg : Tg} {it : It} {cond : Ts} {elt : E} {env : Env} : evE (.comp tg it cond elt) env = (evIt it env >>= fun ds => compM (compF tg cond elt env) ds >>= fun xs => (pure (R.own (.lst xs)) : M R)) := rfl
/-- the reading of a comprehension, whatever is walked -/
theorem comp_gen {tg : Tg} {cond : Ts} {elt : E} {σ : L2.St} {H Hx : Hp} {Q : VK} {wi : TI} {as : List Addr} {F : Hp} {st s1 st' : Sto} {env : Env} {ds xs : List DB.D} (s : StOk X.K F H as st) (en : EnvOk X.K F as σ env)
    (hw : ∀ R, (∀ J F1 H1, StOk X.K F1 H1 as s1 → Ext [] as F H st as F1 H1 s1 → Yl X.K J F1 ds → ds.length ≤ sizeLine → R J H1) → wi σ Hx R) (e2 : compM (compF tg cond elt env) ds s1 = .ok xs st')
    (af : ∀ v F' H', StOk X.K F' H' as st' → Ext [] as F H st as F' H' st' → ROk X.K F' H' as v (.own (.lst xs)) → Fresh H v (.own (.lst xs)) → Q v H') : tLc wi (tTg X.K tg) (tTAnd X.K cond) (tE X.K elt) tg.slots σ Hx Q := by
  refine hw _ fun J F1 H1 k1 x1 yl hl => ?_
  intro D hD
  have fD : F1 D = none := by
    cases q : F1 D with
    | none => rfl
    | some u => rw [k1.sub D u q] at hD; cases hD
  have aD : D ∉ as := fun z => k1.cellSome z hD
  refine ⟨fun i m H' => m = ds.length - i ∧ i ≤ ds.length ∧ ∃ F' sti acc xsi rest, StOk X.K F' H' as sti ∧ Ext [] as F1 H1 s1 as F' H' sti ∧ H' D = some (.lst acc) ∧ F' D = none ∧ DsOk X.K F' acc xsi ∧ acc.length ≤ i ∧
      compM (compF tg cond elt env) (ds.drop i) sti = .ok rest st' ∧ xs = xsi ++ rest,
    ⟨ds.length, by simp, Nat.zero_le _, F1, s1, [], [], xs, k1.upd hD, Ext.updH hD, upd_same, fD, .nil, Nat.le_refl _, by rw [List.drop_zero]; exact e2, rfl⟩, ?_⟩
  rintro i m H' ⟨rfl, hi, F', sti, acc, xsi, rest, k', x', hacc, fD', dacc, lacc, ec, rfl⟩
  obtain ⟨y1, y2⟩ := yl i F' H' as sti x'.f k'
  by_cases hlt : i < ds.length
  · obtain ⟨d, hd⟩ : ∃ d, ds[i]? = some d := ⟨_, List.getElem?_eq_getElem hlt⟩
    obtain ⟨go, yy⟩ := y2 d hd
    have hdrop : ds.drop i = d :: ds.drop (i + 1) := by
      rw [List.drop_eq_getElem_cons hlt]
      rw [List.getElem?_eq_getElem hlt] at hd
      rw [Option.some.inj hd]
    rw [hdrop] at ec
    obtain ⟨o, sa, ea, za⟩ := bind_inv (show (compF tg cond elt env d >>= fun o => match o with | some x => compM (compF tg cond elt env) (ds.drop (i + 1)) >>= fun xs => (pure (x :: xs) : M (List DB.D)) | none => compM (compF tg cond elt env) (ds.drop (i + 1))) sti = .ok rest st' from ec)
    obtain ⟨env', sb, eb, zb⟩ := bind_inv (show (evTg tg d (DB.wipe env tg.slots) >>= fun env' => evTAnd cond env' >>= fun b => if b then (evE elt env' >>= fun r => use r >>= fun x => (pure (some x) : M (Option DB.D))) else pure none) sti = .ok o sa from ea)
    obtain ⟨b, sc, ecd, zc⟩ := bind_inv zb
    refine .inr ⟨go, fun H'' => ∃ F'' stn acc' xsn rest', StOk X.K F'' H'' as stn ∧ Ext [] as F1 H1 s1 as F'' H'' stn ∧ H'' D = some (.lst acc') ∧ F'' D = none ∧ DsOk X.K F'' acc' xsn ∧ acc'.length ≤ i + 1 ∧
      compM (compF tg cond elt env) (ds.drop (i + 1)) stn = .ok rest' st' ∧ xsi ++ rest = xsn ++ rest', fun H'' q => ⟨ds.length - (i + 1), by omega, rfl, hlt, q⟩, fun w H2 hy => ?_⟩
    obtain ⟨F2, k2, x2, dw⟩ := yy w H2 hy
    have x12 : Ext [] as F1 H1 s1 as F2 H2 sti := x'.trans k1.len k'.len x2
    refine ⟨as, F2, sti, DB.wipe env tg.slots, d, env', sb, k2, ((en.ext x1).ext x12).wipe _, dw, eb, fun σ3 F3 H3 k3 x3 en3 w3 => ?_⟩
    refine ⟨by rw [w3, wipe_eq], ?_⟩
    have x13 := x12.trans k1.len k2.len x3
    refine ⟨as, F3, sb, env', b, sc, k3, en3, ecd, fun F4 H4 k4 x4 => ?_⟩
    have x14 := x13.trans k1.len k3.len x4
    -- the new list stays as it is
    have nl : ∀ {stt : Sto} , NL as stt D := fun {stt} c0 d0 _ hc => aD (List.mem_of_getElem? hc)
    have hacc2 := x2.h D _ hacc nl (by simp)
    have hacc3 := x3.h D _ hacc2.1 nl (by simp)
    have hacc4 := x4.h D _ hacc3.1 nl (by simp)
    have fD4 : F4 D = none := hacc4.2 (hacc3.2 (hacc2.2 fD'))
    have S14 : Same F' F4 := (x2.f.trans x3.f).trans x4.f
    cases b with
    | false =>
      refine iteF ?_
      obtain ⟨rfl, rfl⟩ := pure_inv (show (pure none : M (Option DB.D)) sc = .ok o sa from zc)
      exact ⟨F4, sa, acc, xsi, rest, k4, x14, hacc4.1, fD4, dacc.mono S14, by omega, za, rfl⟩
    | true =>
      refine iteT ?_
      obtain ⟨re, sd, ed, zd⟩ := bind_inv (show (evE elt env' >>= fun r => use r >>= fun x => (pure (some x) : M (Option DB.D))) sc = .ok o sa from zc)
      obtain ⟨dx, se, ee, ze⟩ := bind_inv zd
      obtain ⟨rfl, rfl⟩ := pure_inv ze
      obtain ⟨rest', sf, ef, zf⟩ := bind_inv (show (compM (compF tg cond elt env) (ds.drop (i + 1)) >>= fun xs => (pure (dx :: xs) : M (List DB.D))) sa = .ok rest st' from za)
      obtain ⟨rfl, rfl⟩ := pure_inv zf
      refine ⟨as, F4, sc, env', re, sd, k4, en3.ext x4, ed, fun v F5 H5 k5 x5 r5 f5 => ?_⟩
      obtain ⟨F6, k6, x6, d6⟩ := use_aft k4.len k5 x5 r5 f5 ee
      have hacc6 := x6.h D _ hacc4.1 nl (by simp)
      have x16 := x14.trans k1.len k4.len x6
      refine ⟨acc, hacc6.1, by have : acc.length < ds.length := by omega
                               omega, F6, sa, acc ++ [v], xsi ++ [dx], rest', k6.updD (hacc6.2 fD4) aD, x16.updD hD, upd_same, hacc6.2 fD4, (dacc.mono (S14.trans x6.f)).append (.cons d6 .nil), by rw [List.length_append]; exact Nat.succ_le_succ lacc, ef, by simp⟩
  · have hi' : i = ds.length := by omega
    refine .inl ⟨y1 hi', ?_⟩
    rw [List.drop_eq_nil_of_le (by omega)] at ec
    obtain ⟨rfl, rfl⟩ := pure_inv (show (pure [] : M (List DB.D)) sti = .ok rest st' from ec)
    rw [List.append_nil] at af
    have x1' := x1.trans s.len k1.len x'
    refine af (.ref D) F' H' k' x1' (.own fD' (.lst hacc (by omega) dacc) aD) fun a ha => ?_
    cases ha
    cases q : H D with
    | none => rfl
    | some o => exact absurd hD (x1.k D (by rw [q]; exact fun z => nomatch z))
/-- the reading of a comprehension -/
theorem comp_run {tg : Tg} {it : It} {cond : Ts} {elt : E} {σ : L2.St} {H : Hp} {Q : VK} (hh : tE X.K (.comp tg it cond elt) σ H Q) : tLc (tIt X.K it) (tTg X.K tg) (tTAnd X.K cond) (tE X.K elt) tg.slots σ H Q := by
  obtain ⟨as, F, st, env, r, st', s, en, e, af⟩ := hh
  rw [evE_comp'] at e
  obtain ⟨ds, s1, e1, z1⟩ := bind_inv e
  obtain ⟨xs, s2, e2, z2⟩ := bind_inv z1
  obtain ⟨rfl, rfl⟩ := pure_inv z2
  exact comp_gen s en (fun R h => ⟨as, F, st, env, ds, s1, s, en, e1, h⟩) e2 af
/-- the shape of a comprehension that agrees -/
theorem comp_shape {tg : Tg} {it : It} {cond : Ts} {elt : E} {e' : Expr} (h : agE c (.comp tg it cond elt) e' = true) : ∃ elt' tg' it' ifs' scope p, e' = .ListComp elt' [⟨tg', it', ifs', 0⟩] scope p ∧
    blkC c.N c.sc scope (ownOf c.N tg.slots) = true ∧ agIt c tg' it it' = true ∧ notSet it' = true ∧ agTg (c.sub scope) tg tg' = true ∧ agC (c.sub scope) cond ifs' = true ∧ agE (c.sub scope) elt elt' = true := by
  cases e' with
  | ListComp elt' gens scope p =>
    match gens, h with
    | [⟨tg', it', ifs', ia⟩], h =>
      have hia : ia = 0 := by
        by_cases hz : ia = 0
        · exact hz
        · exfalso
          cases ia with
          | ofNat n =>
            cases n with
            | zero => exact hz rfl
            | succ n => exact absurd h Bool.false_ne_true
          | negSucc n => exact absurd h Bool.false_ne_true
      subst hia
      obtain ⟨h1, h⟩ := b2 (show (blkC c.N c.sc scope (ownOf c.N tg.slots) && (agIt c tg' it it' && (notSet it' && (agTg (c.sub scope) tg tg' && (agC (c.sub scope) cond ifs' && agE (c.sub scope) elt elt'))))) = true from h)
      obtain ⟨h2, h⟩ := b2 h
      obtain ⟨h3, h⟩ := b2 h
      obtain ⟨h4, h⟩ := b2 h
      obtain ⟨h5, h6⟩ := b2 h
      exact ⟨elt', tg', it', ifs', scope, p, rfl, h1, h2, h3, h4, h5, h6⟩
    | [], h => exact absurd h Bool.false_ne_true
    | ⟨_, _, _, ia⟩ :: _ :: _, h =>
      cases ia with
      | ofNat n => cases n <;> exact absurd h Bool.false_ne_true
      | negSucc n => exact absurd h Bool.false_ne_true
  | _ => exact absurd h Bool.false_ne_true
/-- the shape of a comprehension that agrees -/
theorem compp_shape {tg : Tg} {it : It} {cond : Ts} {elt : E} {e' : Expr} (h : agE c (.compp tg it cond elt) e' = true) : ∃ elt' tg' it' ifs' scope p, e' = .ListComp elt' [⟨tg', it', ifs', 0⟩] scope p ∧
    blkC c.N c.sc scope (ownOf c.N tg.slots) = true ∧ agIt c tg' it it' = true ∧ notSet it' = true ∧ agTg (c.sub scope) tg tg' = true ∧ agC (c.sub scope) cond ifs' = true ∧ agE (c.sub scope) elt elt' = true := by
  cases e' with
  | ListComp elt' gens scope p =>
    match gens, h with
    | [⟨tg', it', ifs', ia⟩], h =>
      have hia : ia = 0 := by
        by_cases hz : ia = 0
        · exact hz
        · exfalso
          cases ia with
          | ofNat n =>
            cases n with
            | zero => exact hz rfl
            | succ n => exact absurd h Bool.false_ne_true
          | negSucc n => exact absurd h Bool.false_ne_true
      subst hia
      obtain ⟨h1, h⟩ := b2 (show (blkC c.N c.sc scope (ownOf c.N tg.slots) && (agIt c tg' it it' && (notSet it' && (agTg (c.sub scope) tg tg' && (agC (c.sub scope) cond ifs' && agE (c.sub scope) elt elt'))))) = true from h)
      obtain ⟨h2, h⟩ := b2 h
      obtain ⟨h3, h⟩ := b2 h
      obtain ⟨h4, h⟩ := b2 h
      obtain ⟨h5, h6⟩ := b2 h
      exact ⟨elt', tg', it', ifs', scope, p, rfl, h1, h2, h3, h4, h5, h6⟩
    | [], h => exact absurd h Bool.false_ne_true
    | ⟨_, _, _, ia⟩ :: _ :: _, h =>
      cases ia with
      | ofNat n => cases n <;> exact absurd h Bool.false_ne_true
      | negSucc n => exact absurd h Bool.false_ne_true
  | _ => exact absurd h Bool.false_ne_true
/-- item by item is one after another, where nothing changes -/
theorem keep_inv {α : Type} {s : Sto} {r : Res α} {a : α} (h : keep s r = some a) : r = .ok a s := by
  unfold keep at h
  split at h
  · split at h
    · rename_i s' q
      cases h
      rw [Sto.beq_eq q]
    · cases h
  · cases h
theorem optS_inv {α : Type} {o : Option α} {s s' : Sto} {a : α} (h : optS o s = .ok a s') : o = some a ∧ s' = s := by
  cases o with
  | none => cases h
  | some b => cases h; exact ⟨rfl, rfl⟩
theorem seqO_cons {α : Type} {o : Option α} {os : List (Option α)} {l : List α} (h : seqO (o :: os) = some l) : ∃ a l', o = some a ∧ seqO os = some l' ∧ l = a :: l' := by
  cases o with
  | none => cases h
  | some a =>
    have h : (match seqO os with | none => none | some as => some (a :: as)) = some l := h
    cases q : seqO os with
    | none => rw [q] at h; cases h
    | some l' => rw [q] at h; cases h; exact ⟨a, l', rfl, rfl, rfl⟩
theorem mapP_inv {α β : Type} {f : α → M β} {l : List α} {s s' : Sto} {bs : List β} (h : mapP f l s = .ok bs s') : s' = s ∧ seqO (l.map fun a => keep s (f a s)) = some bs := by
  obtain ⟨h1, h2⟩ := optS_inv (show optS (seqO (l.map fun a => keep s (f a s))) s = .ok bs s' from h)
  exact ⟨h2, h1⟩
theorem mapP_comp {f : DB.D → M (Option DB.D)} {s : Sto} : ∀ {l : List DB.D} {os : List (Option DB.D)}, seqO (l.map fun a => keep s (f a s)) = some os → compM f l s = .ok (os.filterMap id) s
  | [], os, h => by cases h; rfl
  | d :: l, os, h => by
    obtain ⟨a, os', h1, h2, rfl⟩ := seqO_cons h
    have h3 := keep_inv h1
    have ih := mapP_comp h2
    show (f d >>= fun o => match o with | some x => compM f l >>= fun xs => (pure (x :: xs) : M (List DB.D)) | none => compM f l) s = _
    show (f d s).bind (fun o => match o with | some x => compM f l >>= fun xs => (pure (x :: xs) : M (List DB.D)) | none => compM f l) = _
    rw [h3]
    cases a with
    | none => exact ih
    | some x =>
      show (compM f l s).bind (fun xs => (pure (x :: xs) : M (List DB.D))) = _
      rw [ih]
      rfl
theorem compp_run {tg : Tg} {it : It} {cond : Ts} {elt : E} {σ : L2.St} {H : Hp} {Q : VK} (hh : tE X.K (.compp tg it cond elt) σ H Q) : tE X.K (.comp tg it cond elt) σ H Q := by
  obtain ⟨as, F, st, env, r, st', s, en, e, af⟩ := hh
  refine ⟨as, F, st, env, r, st', s, en, ?_, af⟩
  obtain ⟨ds, s1, e1, z1⟩ := bind_inv (show (evIt it env >>= fun ds => mapP (compF tg cond elt env) ds >>= fun os => (pure (R.own (.lst (os.filterMap id))) : M R)) st = .ok r st' from e)
  obtain ⟨os, s2, e2, z2⟩ := bind_inv z1
  obtain ⟨rfl, h2⟩ := mapP_inv e2
  obtain ⟨rfl, rfl⟩ := pure_inv z2
  rw [evE_comp']
  show (evIt it env st).bind _ = _
  rw [e1]
  show (compM (compF tg cond elt env) ds st').bind _ = _
  rw [mapP_comp h2]
  rfl
theorem ne_emp {α : Type} {l : List α} (h : (!l.isEmpty) = true) : l ≠ [] := by
  cases l with
  | nil => cases h
  | cons _ _ => exact fun z => nomatch z
theorem c_nil : PTs X [] (tTAnd X.K .nil) := PTs.imp pts_nil fun σ H Q hh => by
  obtain ⟨as, F, st, env, b, st', s, en, e, af⟩ := hh
  obtain ⟨rfl, rfl⟩ := pure_inv (show (pure true : M Bool) st = .ok b st' from e)
  exact af F H s .refl
theorem c_one {t : T} {e' : Expr} (ht : PT X e' (tT X.K t)) : PTs X [e'] (tTAnd X.K (.cons t .nil)) := PTs.imp (pts_one ht) fun σ H Q hh => by
  obtain ⟨as, F, st, env, b, st', s, en, e, af⟩ := hh
  obtain ⟨b1, s1, e1, z1⟩ := bind_inv (show (evT t env >>= fun b => if b then evTAnd .nil env else pure false) st = .ok b st' from e)
  refine ⟨as, F, st, env, b1, s1, s, en, e1, fun F1 H1 k1 x1 => ?_⟩
  cases b1 with
  | true =>
    obtain ⟨rfl, rfl⟩ := pure_inv (show (pure true : M Bool) s1 = .ok b st' from z1)
    exact af F1 H1 k1 x1
  | false =>
    obtain ⟨rfl, rfl⟩ := pure_inv (show (pure false : M Bool) s1 = .ok b st' from z1)
    exact af F1 H1 k1 x1
end

end DB
set_option maxHeartbeats 4000000
/-! list comprehensions of two clauses -/
namespace DB
open PySem PySem.Spec L2
def comp2F (tg : Tg) (it2 : It) (tg2 : Tg) (cond : Ts) (elt : E) (env : Env) (d : DB.D) : M (List (Option DB.D)) := do
  let env' ← evTg tg d (DB.wipe env (tg.slots ++ tg2.slots))
  let es ← evIt it2 env'
  mapP (compF tg2 cond elt env') es
theorem evE_comp2' {tg : Tg} {it : It} {tg2 : Tg} {it2 : It} {cond : Ts} {elt : E} {env : Env} : evE (.comp2 tg it tg2 it2 cond elt) env =
    (evIt it env >>= fun ds => mapP (comp2F tg it2 tg2 cond elt env) ds >>= fun oss => flatB (oss.map fun os => os.filterMap id) >>= fun xs => (pure (R.own (.lst xs)) : M R)) := rfl
theorem seqO_get {α : Type} : ∀ {l : List (Option α)} {as : List α} {i : Nat} {o : Option α}, seqO l = some as → l[i]? = some o → ∃ a, o = some a ∧ as[i]? = some a
  | [], _, _, _, _, h => by simp at h
  | o :: l, as, 0, o', h, h' => by
    obtain ⟨a, l', rfl, h2, rfl⟩ := seqO_cons h
    simp at h'
    exact ⟨a, h'.symm, rfl⟩
  | o :: l, as, i + 1, o', h, h' => by
    obtain ⟨a, l', rfl, h2, rfl⟩ := seqO_cons h
    obtain ⟨b, e1, e2⟩ := seqO_get (i := i) h2 (by simpa using h')
    exact ⟨b, e1, by simpa using e2⟩
theorem seqO_len {α : Type} : ∀ {l : List (Option α)} {as : List α}, seqO l = some as → as.length = l.length
  | [], _, h => by cases h; rfl
  | o :: l, as, h => by
    obtain ⟨a, l', rfl, h2, rfl⟩ := seqO_cons h
    exact congrArg Nat.succ (seqO_len h2)
theorem flat_le {α : Type} {L : List (List α)} {i : Nat} {l : List α} (h : L[i]? = some l) : (L.take i).flatten.length + l.length ≤ L.flatten.length := by
  obtain ⟨hi, e⟩ := List.getElem?_eq_some_iff.mp h
  have : L = L.take i ++ (l :: L.drop (i + 1)) := by
    rw [← e, ← List.drop_eq_getElem_cons hi, List.take_append_drop]
  have h2 := congrArg (fun z => z.flatten.length) this
  simp only [List.flatten_append, List.flatten_cons, List.length_append] at h2
  omega
theorem flat_take {α : Type} {L : List (List α)} {i : Nat} {l : List α} (h : L[i]? = some l) : (L.take (i + 1)).flatten = (L.take i).flatten ++ l := by
  rw [List.take_succ, h]
  simp
theorem EnvOk.monoF {K : PySem.W.Frag} {F F' : Hp} {as : List Addr} {σ : L2.St} {env : Env} (h : EnvOk K F as σ env) (s : Same F F') : EnvOk K F' as σ env :=
  ⟨h.len, fun i r hi => by
    obtain ⟨v, hv, q⟩ := h.get i r hi
    refine ⟨v, hv, ?_⟩
    rcases q with ⟨d, rfl, q⟩ | q
    · exact .inl ⟨d, rfl, q.mono s⟩
    · exact .inr q⟩
theorem wipe_more {σ σ' : L2.St} {is js : List Nat} (h : L2.wipe σ' is = L2.wipe (L2.wipe σ (is ++ js)) is) : L2.wipe σ' (is ++ js) = L2.wipe σ (is ++ js) := by
  rw [wipe_iff] at h ⊢
  refine ⟨by rw [h.1, L2.wipe_length], fun i hi => ?_⟩
  rw [h.2 i fun z => hi (List.mem_append_left _ z)]
  have := wipe_get σ L2.wipe (fun _ => rfl) (fun _ _ _ => rfl) (is ++ js) i
  rw [if_neg hi] at this
  exact this
section
variable {c : AC} {kn : Know} {k : Nat} {X : Cx}
theorem comp2_run {tg tg2 : Tg} {it it2 : It} {cond : Ts} {elt : E} {σ : L2.St} {H : Hp} {Q : VK} (hh : tE X.K (.comp2 tg it tg2 it2 cond elt) σ H Q) :
    tLc2 (tIt X.K it) (tTg X.K tg) tYes (tIt X.K it2) (tTg X.K tg2) (tTAnd X.K cond) (tE X.K elt) (tg.slots ++ tg2.slots) tg2.slots σ H Q := by
  obtain ⟨as, F, st, env, r, st', s, en, e, af⟩ := hh
  rw [evE_comp2'] at e
  obtain ⟨ds, s1, e1, z1⟩ := bind_inv e
  obtain ⟨oss, s2, e2, z2⟩ := bind_inv z1
  obtain ⟨rfl, hm⟩ := mapP_inv e2
  obtain ⟨xs, s3, e3, z3⟩ := bind_inv z2
  obtain ⟨rfl, rfl⟩ := pure_inv z3
  obtain ⟨_, s4, e4, e5⟩ := bind_inv (show (M.guard (lenOk (oss.map fun os => os.filterMap id).flatten.length) >>= fun _ => (pure (oss.map fun os => os.filterMap id).flatten : M (List DB.D))) s2 = .ok xs st' from e3)
  obtain ⟨g, rfl⟩ := guard_inv e4
  obtain ⟨rfl, rfl⟩ := pure_inv e5
  have g := lenOk_iff g
  have hol : oss.length = ds.length := by rw [seqO_len hm, List.length_map]
  refine ⟨as, F, st, env, ds, st', s, en, e1, fun J F1 H1 k1 x1 yl hl => ?_⟩
  intro D hD
  have fD : F1 D = none := by
    cases q : F1 D with
    | none => rfl
    | some u => rw [k1.sub D u q] at hD; cases hD
  have aD : D ∉ as := fun z => k1.cellSome z hD
  have nl : ∀ {stt : Sto} , NL as stt D := fun {stt} c0 d0 _ hc => aD (List.mem_of_getElem? hc)
  generalize hL : (oss.map fun os => os.filterMap id) = L at g af
  refine ⟨fun i m H' => m = ds.length - i ∧ i ≤ ds.length ∧ ∃ F' acc, StOk X.K F' H' as st' ∧ Ext [] as F1 H1 st' as F' H' st' ∧ H' D = some (.lst acc) ∧ F' D = none ∧ DsOk X.K F' acc (L.take i).flatten,
    ⟨ds.length, by simp, Nat.zero_le _, F1, [], k1.upd hD, Ext.updH hD, upd_same, fD, .nil⟩, ?_⟩
  rintro i m H' ⟨rfl, hi, F', acc, k', x', hacc, fD', dacc⟩
  obtain ⟨y1, y2⟩ := yl i F' H' as st' x'.f k'
  by_cases hlt : i < ds.length
  · obtain ⟨d, hd⟩ : ∃ d, ds[i]? = some d := ⟨_, List.getElem?_eq_getElem hlt⟩
    obtain ⟨go, yy⟩ := y2 d hd
    obtain ⟨os, ek, hos⟩ := seqO_get (i := i) hm (by rw [List.getElem?_map, hd]; rfl)
    have ek := keep_inv ek
    have hLi : L[i]? = some (os.filterMap id) := by rw [← hL, List.getElem?_map, hos]; rfl
    obtain ⟨env', sb, eb, zb⟩ := bind_inv (show (evTg tg d (DB.wipe env (tg.slots ++ tg2.slots)) >>= fun env' => evIt it2 env' >>= fun es => mapP (compF tg2 cond elt env') es) st' = .ok os st' from ek)
    obtain ⟨es, sc, ec, zc⟩ := bind_inv zb
    obtain ⟨hsc, hin⟩ := mapP_inv zc
    subst hsc
    have hil : os.length = es.length := by rw [seqO_len hin, List.length_map]
    refine .inr ⟨go, fun H'' => ∃ F'' acc', StOk X.K F'' H'' as st' ∧ Ext [] as F1 H1 st' as F'' H'' st' ∧ H'' D = some (.lst acc') ∧ F'' D = none ∧ DsOk X.K F'' acc' (L.take (i + 1)).flatten,
      fun H'' q => ⟨ds.length - (i + 1), by omega, rfl, hlt, q⟩, fun w H2 hy => ?_⟩
    obtain ⟨F2, k2, x2, dw⟩ := yy w H2 hy
    have x12 : Ext [] as F1 H1 st' as F2 H2 st' := x'.trans k1.len k'.len x2
    refine ⟨as, F2, st', DB.wipe env (tg.slots ++ tg2.slots), d, env', sb, k2, ((en.ext x1).ext x12).wipe _, dw, eb, fun σ3 F3 H3 k3 x3 en3 w3 => ?_⟩
    refine ⟨wipe_more w3, ?_⟩
    have x13 := x12.trans k1.len k2.len x3
    unfold tYes
    refine iteT ?_
    refine ⟨as, F3, sb, env', es, st', k3, en3, ec, fun J1 F4 H4 k4 x4 yl4 hl4 => ?_⟩
    have x14 := x13.trans k1.len k3.len x4
    have hacc2 := x2.h D _ hacc nl (by simp)
    have hacc3 := x3.h D _ hacc2.1 nl (by simp)
    have hacc4 := x4.h D _ hacc3.1 nl (by simp)
    have fD4 : F4 D = none := hacc4.2 (hacc3.2 (hacc2.2 fD'))
    have S14 : Same F' F4 := (x2.f.trans x3.f).trans x4.f
    refine ⟨fun j m H' => m = es.length - j ∧ j ≤ es.length ∧ ∃ F' acc, StOk X.K F' H' as st' ∧ Ext [] as F1 H1 st' as F' H' st' ∧ Same F4 F' ∧ H' D = some (.lst acc) ∧ F' D = none ∧ DsOk X.K F' acc ((L.take i).flatten ++ (os.take j).filterMap id),
      ⟨es.length, by simp, Nat.zero_le _, F4, acc, k4, x14, .refl _, hacc4.1, fD4, by simpa using dacc.mono S14⟩, ?_⟩
    rintro j m5 H5 ⟨rfl, hj, F5, acc5, k5, x15, S45, hacc5, fD5, dacc5⟩
    obtain ⟨v1, v2⟩ := yl4 j F5 H5 as st' S45 k5
    by_cases hlj : j < es.length
    · obtain ⟨e0, he0⟩ : ∃ d, es[j]? = some d := ⟨_, List.getElem?_eq_getElem hlj⟩
      obtain ⟨go5, yy5⟩ := v2 e0 he0
      obtain ⟨o, ek5, ho⟩ := seqO_get (i := j) hin (by rw [List.getElem?_map, he0]; rfl)
      have ek5 := keep_inv ek5
      obtain ⟨env2, sb2, eb2, zb2⟩ := bind_inv (show (evTg tg2 e0 (DB.wipe env' tg2.slots) >>= fun env' => evTAnd cond env' >>= fun b => if b then (evE elt env' >>= fun r => use r >>= fun x => (pure (some x) : M (Option DB.D))) else pure none) st' = .ok o st' from ek5)
      obtain ⟨b, sc2, ecd, zc2⟩ := bind_inv zb2
      have hstep : (os.take (j + 1)).filterMap id = (os.take j).filterMap id ++ ([o].filterMap id) := by
        rw [List.take_succ, ho]
        simp
      have hbound : (L.take i).flatten.length + ((os.take (j + 1)).filterMap id).length ≤ L.flatten.length := by
        have q1 := flat_le hLi
        have q2 : ((os.take (j + 1)).filterMap id).length ≤ (os.filterMap id).length := by
          conv => rhs; rw [← List.take_append_drop (j + 1) os, List.filterMap_append, List.length_append]
          omega
        omega
      refine .inr ⟨go5, fun H'' => ∃ F'' acc', StOk X.K F'' H'' as st' ∧ Ext [] as F1 H1 st' as F'' H'' st' ∧ Same F4 F'' ∧ H'' D = some (.lst acc') ∧ F'' D = none ∧ DsOk X.K F'' acc' ((L.take i).flatten ++ (os.take (j + 1)).filterMap id),
        fun H'' q => ⟨es.length - (j + 1), by omega, rfl, hlj, q⟩, fun w2 H6 hy2 => ?_⟩
      obtain ⟨F6, k6, x6, dw2⟩ := yy5 w2 H6 hy2
      have x16 : Ext [] as F1 H1 st' as F6 H6 st' := x15.trans k1.len k5.len x6
      have en6 : EnvOk X.K F6 as σ3 env' := en3.monoF ((x4.f.trans S45).trans x6.f)
      refine ⟨as, F6, st', DB.wipe env' tg2.slots, e0, env2, sb2, k6, en6.wipe _, dw2, eb2, fun σ7 F7 H7 k7 x7 en7 w7 => ?_⟩
      refine ⟨by rw [w7, wipe_eq], ?_⟩
      have x17 := x16.trans k1.len k6.len x7
      refine ⟨as, F7, sb2, env2, b, sc2, k7, en7, ecd, fun F8 H8 k8 x8 => ?_⟩
      have x18 := x17.trans k1.len k7.len x8
      have hacc6 := x6.h D _ hacc5 nl (by simp)
      have hacc7 := x7.h D _ hacc6.1 nl (by simp)
      have hacc8 := x8.h D _ hacc7.1 nl (by simp)
      have fD8 : F8 D = none := hacc8.2 (hacc7.2 (hacc6.2 fD5))
      have S58 : Same F5 F8 := (x6.f.trans x7.f).trans x8.f
      cases b with
      | false =>
        refine iteF ?_
        obtain ⟨rfl, rfl⟩ := pure_inv (show (pure none : M (Option DB.D)) sc2 = .ok o st' from zc2)
        exact ⟨F8, acc5, k8, x18, S45.trans S58, hacc8.1, fD8, by rw [hstep]; simpa using dacc5.mono S58⟩
      | true =>
        refine iteT ?_
        obtain ⟨re, sd, ed, zd⟩ := bind_inv (show (evE elt env2 >>= fun r => use r >>= fun x => (pure (some x) : M (Option DB.D))) sc2 = .ok o st' from zc2)
        obtain ⟨dx, se, ee, ze⟩ := bind_inv zd
        obtain ⟨rfl, rfl⟩ := pure_inv ze
        refine ⟨as, F8, sc2, env2, re, sd, k8, en7.ext x8, ed, fun v F9 H9 k9 x9 r9 f9 => ?_⟩
        obtain ⟨F10, k10, x10, d10⟩ := use_aft k8.len k9 x9 r9 f9 ee
        have hacc10 := x10.h D _ hacc8.1 nl (by simp)
        have x1A := x18.trans k1.len k8.len x10
        have hlen := dacc5.length
        rw [List.length_append] at hlen
        rw [hstep, List.length_append] at hbound
        have one : ([some dx].filterMap id).length = 1 := rfl
        rw [one] at hbound
        refine ⟨acc5, hacc10.1, by omega, F10, acc5 ++ [v], k10.updD (hacc10.2 fD8) aD, x1A.updD hD, (S45.trans S58).trans x10.f, upd_same, hacc10.2 fD8, ?_⟩
        rw [hstep, ← List.append_assoc]
        exact (dacc5.mono (S58.trans x10.f)).append (.cons d10 .nil)
    · have hj' : j = es.length := by omega
      refine .inl ⟨v1 hj', F5, acc5, k5, x15, hacc5, fD5, ?_⟩
      rw [flat_take hLi]
      rw [hj', ← hil, List.take_length] at dacc5
      exact dacc5
  · have hi' : i = ds.length := by omega
    refine .inl ⟨y1 hi', ?_⟩
    have hLl : L.length = ds.length := by rw [← hL, List.length_map, hol]
    rw [hi', ← hLl, List.take_length] at dacc
    have x1' := x1.trans s.len k1.len x'
    refine af (.ref D) F' H' k' x1' (.own fD' (.lst hacc (by rw [dacc.length]; exact g) dacc) aD) fun a ha => ?_
    cases ha
    cases q : H D with
    | none => rfl
    | some o => exact absurd hD (x1.k D (by rw [q]; exact fun z => nomatch z))
/-- the shape of such a comprehension that agrees -/
theorem comp2_shape {tg tg2 : Tg} {it it2 : It} {cond : Ts} {elt : E} {e' : Expr} (h : agE c (.comp2 tg it tg2 it2 cond elt) e' = true) : ∃ elt' tg' it' tg2' it2' ifs' scope p, e' = .ListComp elt' [⟨tg', it', [], 0⟩, ⟨tg2', it2', ifs', 0⟩] scope p ∧
    blkC c.N c.sc scope (ownOf c.N (tg.slots ++ tg2.slots)) = true ∧ agIt c tg' it it' = true ∧ notSet it' = true ∧ agTg (c.sub scope) tg tg' = true ∧ agIt (c.sub scope) tg2' it2 it2' = true ∧ notSet it2' = true ∧ agTg (c.sub scope) tg2 tg2' = true ∧ agC (c.sub scope) cond ifs' = true ∧ agE (c.sub scope) elt elt' = true := by
  cases e' with
  | ListComp elt' gens scope p =>
    match gens, h with
    | [⟨tg', it', [], ia⟩, ⟨tg2', it2', ifs', ib⟩], h =>
      have z : ia = 0 ∧ ib = 0 := by
        by_cases h1 : ia = 0
        · subst h1
          by_cases h2 : ib = 0
          · exact ⟨rfl, h2⟩
          · exfalso
            cases ib with
            | ofNat n => cases n with
              | zero => exact h2 rfl
              | succ n => exact absurd h Bool.false_ne_true
            | negSucc n => exact absurd h Bool.false_ne_true
        · exfalso
          cases ia with
          | ofNat n => cases n with
            | zero => exact h1 rfl
            | succ n => exact absurd h Bool.false_ne_true
          | negSucc n => exact absurd h Bool.false_ne_true
      obtain ⟨rfl, rfl⟩ := z
      obtain ⟨h1, h⟩ := b2 (show (blkC c.N c.sc scope (ownOf c.N (tg.slots ++ tg2.slots)) && (agIt c tg' it it' && (notSet it' && (agTg (c.sub scope) tg tg' && (agIt (c.sub scope) tg2' it2 it2' && (notSet it2' && (agTg (c.sub scope) tg2 tg2' && (agC (c.sub scope) cond ifs' && agE (c.sub scope) elt elt')))))))) = true from h)
      obtain ⟨h2, h⟩ := b2 h
      obtain ⟨h3, h⟩ := b2 h
      obtain ⟨h4, h⟩ := b2 h
      obtain ⟨h5, h⟩ := b2 h
      obtain ⟨h6, h⟩ := b2 h
      obtain ⟨h7, h⟩ := b2 h
      obtain ⟨h8, h9⟩ := b2 h
      exact ⟨elt', tg', it', tg2', it2', ifs', scope, p, rfl, h1, h2, h3, h4, h5, h6, h7, h8, h9⟩
    | [], h => exact absurd h Bool.false_ne_true
    | [⟨_, _, i1, ia⟩], h => exact absurd h (by cases i1 <;> rcases ia with (_ | _) | _ <;> exact Bool.false_ne_true)
    | [⟨_, _, _ :: _, ia⟩, ⟨_, _, _, ib⟩], h => exact absurd h (by rcases ia with (_ | _) | _ <;> rcases ib with (_ | _) | _ <;> exact Bool.false_ne_true)
    | ⟨_, _, i1, ia⟩ :: ⟨_, _, _, ib⟩ :: _ :: _, h => exact absurd h (by cases i1 <;> rcases ia with (_ | _) | _ <;> rcases ib with (_ | _) | _ <;> exact Bool.false_ne_true)
  | _ => exact absurd h Bool.false_ne_true
end
end DB
set_option maxHeartbeats 4000000
namespace DB
open PySem PySem.Spec L2
/-! ### all of an expression -/
section
variable {kn : Know} {k : Nat}
mutual
theorem sE : ∀ (e : E) (c : AC) (X : Cx) (e' : Expr), XOk c kn k X → KnE kn e → agE c e e' = true → PE X e' (tE X.K e)
  | .k d, c, X, e', x, _, h => s_k x h
  | .v i, c, X, e', x, _, h => s_v x h
  | .glob y d, c, X, e', x, hk, h => s_glob x hk h
  | .bin op a b, c, X, e', x, hk, h => s_bin x h (fun a' => sE a c X a' x hk.1) (fun b' => sE b c X b' x hk.2)
  | .neg a, c, X, e', x, hk, h => s_neg x h (fun a' => sE a c X a' x hk)
  | .cmp op a b, c, X, e', x, hk, h => s_cmp x h (fun a' => sE a c X a' x hk.1) (fun b' => sE b c X b' x hk.2)
  | .dctk ks vs, c, X, e', x, hk, h => s_dctk x h
  | .repEq _ a b, c, X, e', x, hk, h => s_repEq x h (fun a' => sE a c X a' x hk.1) (fun b' => sE b c X b' x hk.2)
  | .chain _ _ a b d, c, X, e', x, hk, h => s_chain x h (fun a' => sE a c X a' x hk.1) (fun b' => sE b c X b' x hk.2.1) (fun b' => sE d c X b' x hk.2.2)
  | .isN _ a, c, X, e', x, hk, h => s_isN x h (fun a' => sE a c X a' x hk)
  | .and es, c, X, e', x, hk, h => by
    cases e' with
    | BoolOp op es' p =>
      cases op with
      | And =>
        obtain ⟨h1, h2⟩ := b2 (show (!es'.isEmpty && agEs c es es') = true from h)
        exact s_and (sAnd es c X es' p x hk h2 (ne_emp h1))
      | Or => exact absurd h Bool.false_ne_true
    | _ => exact absurd h Bool.false_ne_true
  | .or es, c, X, e', x, hk, h => by
    cases e' with
    | BoolOp op es' p =>
      cases op with
      | Or =>
        obtain ⟨h1, h2⟩ := b2 (show (!es'.isEmpty && agEs c es es') = true from h)
        exact s_or (sOr es c X es' p x hk h2 (ne_emp h1))
      | And => exact absurd h Bool.false_ne_true
    | _ => exact absurd h Bool.false_ne_true
  | .not a, c, X, e', x, hk, h => s_not x h (fun a' => sE a c X a' x hk)
  | .ite t a b, c, X, e', x, hk, h => s_ite x h (fun a' => sT t c X a' x hk.1) (fun a' => sE a c X a' x hk.2.1) (fun b' => sE b c X b' x hk.2.2)
  | .tup es, c, X, e', x, hk, h => s_tup x h (fun es' => sDs es c X es' x hk)
  | .lst es, c, X, e', x, hk, h => s_lst x h (fun es' => sDs es c X es' x hk)
  | .ix a b, c, X, e', x, hk, h => s_ix x h (fun a' => sE a c X a' x hk.1) (fun b' => sE b c X b' x hk.2)
  | .sl a lo hi, c, X, e', x, hk, h => s_sl x h (fun a' => sE a c X a' x hk.1) (fun b' => sPart lo c X b' x hk.2.1) (fun b' => sPart hi c X b' x hk.2.2)
  | .isI _ a, c, X, e', x, hk, h => s_isI x h (fun a' => sE a c X a' x hk)
  | .call f id es, c, X, e', x, hk, h => s_call x h hk.1 (fun es' => sEs es c X es' x hk.2)
  | .callK f id n ks dd perm es kes, c, X, e', x, hk, h => s_callK x h hk.1 hk.2.1 (fun es' => sDs es c X es' x hk.2.2.1) (fun es' => sKs kes c X es' x hk.2.2.2)
  | .bi b es, c, X, e', x, hk, h => s_bi x h (fun es' => sEs es c X es' x hk)
  | .lrng t .nil, c, X, e', x, hk, h => s_lrng x h fun a b a' hz _ => by rcases hz with hz | ⟨z, hz⟩ <;> cases hz
  | .lrng t (.cons a .nil), c, X, e', x, hk, h => s_lrng x h fun a0 b0 a' hz ha => by
    rcases hz with hz | ⟨z, hz⟩
    · cases hz
      exact sE a c X a' x hk.1 ha
    · cases hz
  | .lrng t (.cons a (.cons b es)), c, X, e', x, hk, h => s_lrng x h fun a0 b0 a' hz ha => by
    rcases hz with hz | ⟨z, hz⟩
    · cases hz
      exact sE a c X a' x hk.1 ha
    · cases hz
      exact sE b c X a' x hk.2.1 ha
  | .lrng t (.star a b), c, X, e', x, hk, h => s_lrng x h fun a0 b0 a' hz ha => by rcases hz with hz | ⟨z, hz⟩ <;> cases hz
  | .lrng t (.cons a (.star b es)), c, X, e', x, hk, h => s_lrng x h fun a0 b0 a' hz ha => by
    rcases hz with hz | ⟨z, hz⟩
    · cases hz
      exact sE a c X a' x hk.1 ha
    · cases hz
  | .mth m a es, c, X, e', x, hk, h => s_mth x h (fun a' => sE a c X a' x hk.1) (fun es' => sDs es c X es' x hk.2)
  | .comp tg it cond elt, c, X, e', x, hk, h => by
    obtain ⟨elt', tg', it', ifs', scope, p, rfl, h1, h2, h3, h4, h5, h6⟩ := comp_shape h
    obtain ⟨k1, k2, k3, k4⟩ := hk
    have pl := pe_lc (X := X) (elt := elt') (tg := tg') (iter := it') (ifs := ifs') (pos := p) (g := tTg X.K tg) (tt := tTAnd X.K cond) (te := tE X.K elt) x.calm x.nd (sIt it c X tg' it' x k2 h2) (blkOk_by (N := X.N) (sc := X.env.scope) (by rw [x.N, x.sc]; exact h1))
      (fun s H C cl fp => sTg tg (c.sub scope) _ tg' (x.blk s H C cl fp) k1 h4) (fun s H C cl fp => sC cond (c.sub scope) _ ifs' (x.blk s H C cl fp) k3 h5) (fun s H C cl fp => sE elt (c.sub scope) _ elt' (x.blk s H C cl fp) k4 h6) (fun z => fold_of h3 z)
    rw [own_map] at pl
    exact PE.imp pl fun σ H Q hh => comp_run hh
  | .compp tg it cond elt, c, X, e', x, hk, h => by
    obtain ⟨elt', tg', it', ifs', scope, p, rfl, h1, h2, h3, h4, h5, h6⟩ := compp_shape h
    obtain ⟨k1, k2, k3, k4⟩ := hk
    have pl := pe_lc (X := X) (elt := elt') (tg := tg') (iter := it') (ifs := ifs') (pos := p) (g := tTg X.K tg) (tt := tTAnd X.K cond) (te := tE X.K elt) x.calm x.nd (sIt it c X tg' it' x k2 h2) (blkOk_by (N := X.N) (sc := X.env.scope) (by rw [x.N, x.sc]; exact h1))
      (fun s H C cl fp => sTg tg (c.sub scope) _ tg' (x.blk s H C cl fp) k1 h4) (fun s H C cl fp => sC cond (c.sub scope) _ ifs' (x.blk s H C cl fp) k3 h5) (fun s H C cl fp => sE elt (c.sub scope) _ elt' (x.blk s H C cl fp) k4 h6) (fun z => fold_of h3 z)
    rw [own_map] at pl
    exact PE.imp pl fun σ H Q hh => comp_run (compp_run hh)
  | .comp2 tg it tg2 it2 cond elt, c, X, e', x, hk, h => by
    obtain ⟨elt', tg', it', tg2', it2', ifs', scope, p, rfl, h1, h2, h3, h4, h5, h6, h7, h8, h9⟩ := comp2_shape h
    obtain ⟨k1, k2, k3, k4, k5, k6⟩ := hk
    have pl := pe_lc2 (X := X) (elt := elt') (tg := tg') (iter := it') (ifs := []) (tg1 := tg2') (iter1 := it2') (ifs1 := ifs') (pos := p) (vs1 := tg2.slots) (g := tTg X.K tg) (tt := tYes) (wi1 := tIt X.K it2) (g1 := tTg X.K tg2) (tt1 := tTAnd X.K cond) (te := tE X.K elt) x.calm x.nd (sIt it c X tg' it' x k2 h2)
      (blkOk_by (N := X.N) (sc := X.env.scope) (by rw [x.N, x.sc]; exact h1)) (fun i hi => by rw [own_map]; exact List.mem_append_right _ hi)
      (fun s H C cl fp => sTg tg (c.sub scope) _ tg' (x.blk s H C cl fp) k1 h4) (fun s H C cl fp => pts_nil) (fun s H C cl fp => sIt it2 (c.sub scope) _ tg2' it2' (x.blk s H C cl fp) k4 h5)
      (fun s H C cl fp => sTg tg2 (c.sub scope) _ tg2' (x.blk s H C cl fp) k3 h7) (fun s H C cl fp => sC cond (c.sub scope) _ ifs' (x.blk s H C cl fp) k5 h8) (fun s H C cl fp => sE elt (c.sub scope) _ elt' (x.blk s H C cl fp) k6 h9) (fun z => fold_of h3 z) (fun env z => fold_of h6 z)
    rw [own_map] at pl
    exact PE.imp pl fun σ H Q hh => comp2_run hh
  | .dcomp _ _ _ _ _, c, X, e', x, hk, h => hk.elim
  | .dcomp2 _ _ _ _ _ _ _, c, X, e', x, hk, h => hk.elim
  | .tups es, c, X, e', x, hk, h => s_tups h (fun es' => sStar es c X es' x hk)
  | .lsts es, c, X, e', x, hk, h => s_lsts h (fun es' => sStar es c X es' x hk)
  | .sls _ a, c, X, e', x, hk, h => s_sls h (fun a' => sE a c X a' x hk)
  | .isIs _ a, c, X, e', x, hk, h => s_isIs x h (fun a' => sE a c X a' x hk)
  | .isB _ _ a, c, X, e', x, hk, h => s_isB h (fun a' => sE a c X a' x hk)
  | .dct _ _, c, X, e', x, hk, h => hk.elim
  | .setw _ a, c, X, e', x, hk, h => s_setw x h (fun a' => sE a c X a' x hk)
  | .xorw _ _ _, c, X, e', x, hk, h => hk.elim
  | .rm _ _ _, c, X, e', x, hk, h => hk.elim
  | .rep _ _ _, c, X, e', x, hk, h => hk.elim
  | .mk _ _ _, c, X, e', x, hk, h => hk.elim
  | .fld _ _ _, c, X, e', x, hk, h => hk.elim
  | .zip _ _, c, X, e', x, hk, h => hk.elim
theorem sEs : ∀ (es : Es) (c : AC) (X : Cx) (es' : List Expr), XOk c kn k X → KnEs kn es → agEs c es es' = true → PA X es' (tEs X.K es)
  | .nil, c, X, [], _, _, _ => s_Es_nil
  | .nil, _, _, _ :: _, _, _, h => absurd h Bool.false_ne_true
  | .star _ _, _, _, [], _, _, h => absurd h Bool.false_ne_true
  | .star _ _, _, _, _ :: _, _, _, h => absurd h Bool.false_ne_true
  | .cons _ _, _, _, [], _, _, h => absurd h Bool.false_ne_true
  | .cons e es, c, X, e' :: es', x, hk, h =>
    have h := b2 (show (notStar e' && (agE c e e' && agEs c es es')) = true from h)
    s_Es_cons h.1 (sE e c X e' x hk.1 (b2 h.2).1) (sEs es c X es' x hk.2 (b2 h.2).2)
theorem sDs : ∀ (es : Es) (c : AC) (X : Cx) (es' : List Expr), XOk c kn k X → KnEs kn es → agEs c es es' = true → PA X es' (tDs X.K es)
  | .nil, c, X, [], _, _, _ => s_Ds_nil
  | .nil, _, _, _ :: _, _, _, h => absurd h Bool.false_ne_true
  | .star _ _, _, _, [], _, _, h => absurd h Bool.false_ne_true
  | .star _ _, _, _, _ :: _, _, _, h => absurd h Bool.false_ne_true
  | .cons _ _, _, _, [], _, _, h => absurd h Bool.false_ne_true
  | .cons e es, c, X, e' :: es', x, hk, h =>
    have h := b2 (show (notStar e' && (agE c e e' && agEs c es es')) = true from h)
    s_Ds_cons h.1 (sE e c X e' x hk.1 (b2 h.2).1) (sDs es c X es' x hk.2 (b2 h.2).2)
theorem sStar : ∀ (es : Es) (c : AC) (X : Cx) (es' : List Expr), XOk c kn k X → KnEs kn es → agStar c es es' = true → PA X es' (tStar_ X.K es)
  | .nil, c, X, [], _, _, _ => s_Star_nil
  | .nil, _, _, _ :: _, _, _, h => absurd h Bool.false_ne_true
  | .cons _ _, _, _, [], _, _, h => absurd h Bool.false_ne_true
  | .star _ _, _, _, [], _, _, h => absurd h Bool.false_ne_true
  | .cons e es, c, X, e' :: es', x, hk, h =>
    have h := b2 (show (notStar e' && (agE c e e' && agStar c es es')) = true from h)
    s_Star_cons h.1 (sE e c X e' x hk.1 (b2 h.2).1) (sStar es c X es' x hk.2 (b2 h.2).2)
  | .star e es, c, X, e' :: es', x, hk, h => by
    cases e' with
    | Starred e1 p =>
      have h := b2 (show (agE c e e1 && agStar c es es') = true from h)
      exact s_Star_star (sE e c X e1 x hk.1 h.1) (sStar es c X es' x hk.2 h.2)
    | _ => exact absurd h Bool.false_ne_true
theorem sKs : ∀ (es : Es) (c : AC) (X : Cx) (es' : List Keyword), XOk c kn k X → KnEs kn es → agKs c es es' = true → PK X es' (tDs X.K es)
  | .nil, c, X, [], _, _, _ => s_Ks_nil
  | .nil, _, _, _ :: _, _, _, h => absurd h Bool.false_ne_true
  | .star _ _, _, _, [], _, _, h => absurd h Bool.false_ne_true
  | .star _ _, _, _, _ :: _, _, _, h => absurd h Bool.false_ne_true
  | .cons _ _, _, _, [], _, _, h => absurd h Bool.false_ne_true
  | .cons e es, c, X, ⟨nm, e', kp⟩ :: es', x, hk, h =>
    have h := b2 (show (agE c e e' && agKs c es es') = true from h)
    s_Ks_cons (sE e c X e' x hk.1 h.1) (sKs es c X es' x hk.2 h.2)
theorem sPart : ∀ (es : Es) (c : AC) (X : Cx) (o : Option Expr), XOk c kn k X → KnEs kn es → agPart c es o = true → PO X o (tPart_ X.K es)
  | .nil, _, _, none, _, _, _ => s_Part_nil
  | .nil, _, _, some _, _, _, h => absurd h Bool.false_ne_true
  | .star _ _, _, _, none, _, _, h => absurd h Bool.false_ne_true
  | .star _ _, _, _, some _, _, _, h => absurd h Bool.false_ne_true
  | .cons _ (.star _ _), _, _, none, _, _, h => absurd h Bool.false_ne_true
  | .cons _ (.star _ _), _, _, some _, _, _, h => absurd h Bool.false_ne_true
  | .cons e .nil, c, X, some e', x, hk, h => s_Part_one (sE e c X e' x hk.1 h)
  | .cons _ .nil, _, _, none, _, _, h => absurd h Bool.false_ne_true
  | .cons _ (.cons _ _), _, _, none, _, _, h => absurd h Bool.false_ne_true
  | .cons _ (.cons _ _), _, _, some _, _, _, h => absurd h Bool.false_ne_true
theorem sAnd : ∀ (es : Es) (c : AC) (X : Cx) (es' : List Expr) (p : Pos), XOk c kn k X → KnEs kn es → agEs c es es' = true → es' ≠ [] → PE X (.BoolOp .And es' p) (tAnd_ X.K es)
  | .nil, _, _, [], _, _, _, _, h => absurd rfl h
  | .nil, _, _, _ :: _, _, _, _, h, _ => absurd h Bool.false_ne_true
  | .star _ _, _, _, [], _, _, _, _, h => absurd rfl h
  | .star _ _, _, _, _ :: _, _, _, _, h, _ => absurd h Bool.false_ne_true
  | .cons _ (.star _ _), _, _, [e'], _, _, _, h, _ => absurd (b2 (b2 (show (notStar e' && (agE _ _ e' && false)) = true from h)).2).2 Bool.false_ne_true
  | .cons _ (.star _ _), _, _, e' :: _ :: _, _, _, _, h, _ => absurd (b2 (b2 (show (notStar e' && (agE _ _ e' && false)) = true from h)).2).2 Bool.false_ne_true
  | .cons _ _, _, _, [], _, _, _, _, h => absurd rfl h
  | .cons e .nil, c, X, [e'], p, x, hk, h, _ => and_one (sE e c X e' x hk.1 (b2 (b2 (show (notStar e' && (agE c e e' && agEs c .nil [])) = true from h)).2).1)
  | .cons _ .nil, _, _, e' :: b' :: r', _, _, _, h, _ => absurd (b2 (b2 (show (notStar e' && (agE _ _ e' && false)) = true from h)).2).2 Bool.false_ne_true
  | .cons _ (.cons _ _), _, _, [e'], _, _, _, h, _ => absurd (b2 (b2 (show (notStar e' && (agE _ _ e' && false)) = true from h)).2).2 Bool.false_ne_true
  | .cons e (.cons e2 es), c, X, e' :: b' :: r', p, x, hk, h, _ =>
    have h := b2 (show (notStar e' && (agE c e e' && agEs c (.cons e2 es) (b' :: r'))) = true from h)
    and_cons (sE e c X e' x hk.1 (b2 h.2).1) (sAnd (.cons e2 es) c X (b' :: r') p x hk.2 (b2 h.2).2 (fun z => nomatch z))
theorem sOr : ∀ (es : Es) (c : AC) (X : Cx) (es' : List Expr) (p : Pos), XOk c kn k X → KnEs kn es → agEs c es es' = true → es' ≠ [] → PE X (.BoolOp .Or es' p) (tOr_ X.K es)
  | .nil, _, _, [], _, _, _, _, h => absurd rfl h
  | .nil, _, _, _ :: _, _, _, _, h, _ => absurd h Bool.false_ne_true
  | .star _ _, _, _, [], _, _, _, _, h => absurd rfl h
  | .star _ _, _, _, _ :: _, _, _, _, h, _ => absurd h Bool.false_ne_true
  | .cons _ (.star _ _), _, _, [e'], _, _, _, h, _ => absurd (b2 (b2 (show (notStar e' && (agE _ _ e' && false)) = true from h)).2).2 Bool.false_ne_true
  | .cons _ (.star _ _), _, _, e' :: _ :: _, _, _, _, h, _ => absurd (b2 (b2 (show (notStar e' && (agE _ _ e' && false)) = true from h)).2).2 Bool.false_ne_true
  | .cons _ _, _, _, [], _, _, _, _, h => absurd rfl h
  | .cons e .nil, c, X, [e'], p, x, hk, h, _ => or_one (sE e c X e' x hk.1 (b2 (b2 (show (notStar e' && (agE c e e' && agEs c .nil [])) = true from h)).2).1)
  | .cons _ .nil, _, _, e' :: b' :: r', _, _, _, h, _ => absurd (b2 (b2 (show (notStar e' && (agE _ _ e' && false)) = true from h)).2).2 Bool.false_ne_true
  | .cons _ (.cons _ _), _, _, [e'], _, _, _, h, _ => absurd (b2 (b2 (show (notStar e' && (agE _ _ e' && false)) = true from h)).2).2 Bool.false_ne_true
  | .cons e (.cons e2 es), c, X, e' :: b' :: r', p, x, hk, h, _ =>
    have h := b2 (show (notStar e' && (agE c e e' && agEs c (.cons e2 es) (b' :: r'))) = true from h)
    or_cons (sE e c X e' x hk.1 (b2 h.2).1) (sOr (.cons e2 es) c X (b' :: r') p x hk.2 (b2 h.2).2 (fun z => nomatch z))
theorem sT : ∀ (t : T) (c : AC) (X : Cx) (e' : Expr), XOk c kn k X → KnT kn t → agT c t e' = true → PT X e' (tT X.K t)
  | .val (.isB no b a), c, X, e', x, hk, h =>
    have h := b2 (show ((plainX e' || isBC (.isB no b a)) && agE c (.isB no b a) e') = true from h)
    s_isBT h.2 (fun a' => sE a c X a' x hk)
  | .val e, c, X, e', x, hk, h => by
    have h := b2 (show ((plainX e' || isBC e) && agE c e e') = true from h)
    cases hb : isBC e with
    | false =>
      rw [hb, Bool.or_false] at h
      exact s_val h.1 (sE e c X e' x hk h.2)
    | true =>
      cases e with
      | isB no b a => exact s_isBT h.2 (fun a' => sE a c X a' x hk)
      | _ => cases hb
  | .and ts, c, X, e', x, hk, h => by
    cases e' with
    | BoolOp op es' p =>
      cases op with
      | And =>
        obtain ⟨h1, h2⟩ := b2 (show (!es'.isEmpty && agTs c ts es') = true from h)
        exact PW.pt (sTAnd ts c X es' p x hk h2 (ne_emp h1))
      | Or => exact absurd h Bool.false_ne_true
    | _ => exact absurd h Bool.false_ne_true
  | .or ts, c, X, e', x, hk, h => by
    cases e' with
    | BoolOp op es' p =>
      cases op with
      | Or =>
        obtain ⟨h1, h2⟩ := b2 (show (!es'.isEmpty && agTs c ts es') = true from h)
        exact PW.pt (sTOr ts c X es' p x hk h2 (ne_emp h1))
      | And => exact absurd h Bool.false_ne_true
    | _ => exact absurd h Bool.false_ne_true
  | .not t, c, X, e', x, hk, h => by
    cases e' with
    | UnaryOp op a' p =>
      cases op with
      | Not => exact s_notT (sT t c X a' x hk h)
      | _ => exact absurd h Bool.false_ne_true
    | _ => exact absurd h Bool.false_ne_true
  | .cmp _ a b, c, X, e', x, hk, h => s_cmpT x h (fun a' => sE a c X a' x hk.1) (fun b' => sE b c X b' x hk.2)
  | .chain _ _ a b d, c, X, e', x, hk, h => s_chainT x h (fun a' => sE a c X a' x hk.1) (fun b' => sE b c X b' x hk.2.1) (fun b' => sE d c X b' x hk.2.2)
  | .isN _ a, c, X, e', x, hk, h => s_isNT x h (fun a' => sE a c X a' x hk)
theorem sTAnd : ∀ (ts : Ts) (c : AC) (X : Cx) (es' : List Expr) (p : Pos), XOk c kn k X → KnTs kn ts → agTs c ts es' = true → es' ≠ [] → PW X (.BoolOp .And es' p) (tTAnd X.K ts)
  | .nil, _, _, [], _, _, _, _, h => absurd rfl h
  | .nil, _, _, _ :: _, _, _, _, h, _ => absurd h Bool.false_ne_true
  | .cons _ _, _, _, [], _, _, _, _, h => absurd rfl h
  | .cons t .nil, c, X, [e'], p, x, hk, h, _ => tand_one (sT t c X e' x hk.1 (b2 (show (agT c t e' && agTs c .nil []) = true from h)).1)
  | .cons _ .nil, _, _, e' :: b' :: r', _, _, _, h, _ => absurd (b2 (show (agT _ _ e' && false) = true from h)).2 Bool.false_ne_true
  | .cons _ (.cons _ _), _, _, [e'], _, _, _, h, _ => absurd (b2 (show (agT _ _ e' && false) = true from h)).2 Bool.false_ne_true
  | .cons t (.cons t2 ts), c, X, e' :: b' :: r', p, x, hk, h, _ =>
    have h := b2 (show (agT c t e' && agTs c (.cons t2 ts) (b' :: r')) = true from h)
    tand_cons (sT t c X e' x hk.1 h.1) (sTAnd (.cons t2 ts) c X (b' :: r') p x hk.2 h.2 (fun z => nomatch z))
theorem sTOr : ∀ (ts : Ts) (c : AC) (X : Cx) (es' : List Expr) (p : Pos), XOk c kn k X → KnTs kn ts → agTs c ts es' = true → es' ≠ [] → PW X (.BoolOp .Or es' p) (tTOr X.K ts)
  | .nil, _, _, [], _, _, _, _, h => absurd rfl h
  | .nil, _, _, _ :: _, _, _, _, h, _ => absurd h Bool.false_ne_true
  | .cons _ _, _, _, [], _, _, _, _, h => absurd rfl h
  | .cons t .nil, c, X, [e'], p, x, hk, h, _ => tor_one (sT t c X e' x hk.1 (b2 (show (agT c t e' && agTs c .nil []) = true from h)).1)
  | .cons _ .nil, _, _, e' :: b' :: r', _, _, _, h, _ => absurd (b2 (show (agT _ _ e' && false) = true from h)).2 Bool.false_ne_true
  | .cons _ (.cons _ _), _, _, [e'], _, _, _, h, _ => absurd (b2 (show (agT _ _ e' && false) = true from h)).2 Bool.false_ne_true
  | .cons t (.cons t2 ts), c, X, e' :: b' :: r', p, x, hk, h, _ =>
    have h := b2 (show (agT c t e' && agTs c (.cons t2 ts) (b' :: r')) = true from h)
    tor_cons (sT t c X e' x hk.1 h.1) (sTOr (.cons t2 ts) c X (b' :: r') p x hk.2 h.2 (fun z => nomatch z))
theorem sC : ∀ (ts : Ts) (c : AC) (X : Cx) (es' : List Expr), XOk c kn k X → KnTs kn ts → agC c ts es' = true → PTs X es' (tTAnd X.K ts)
  | .nil, _, _, [], _, _, _ => c_nil
  | .nil, _, _, _ :: _, _, _, h => absurd h Bool.false_ne_true
  | .cons t .nil, c, X, [e'], x, hk, h => c_one (sT t c X e' x hk.1 h)
  | .cons _ .nil, _, _, [], _, _, h => absurd h Bool.false_ne_true
  | .cons _ .nil, _, _, _ :: _ :: _, _, _, h => absurd h Bool.false_ne_true
  | .cons _ (.cons _ _), _, _, [], _, _, h => absurd h Bool.false_ne_true
  | .cons _ (.cons _ _), _, _, [_], _, _, h => absurd h Bool.false_ne_true
  | .cons _ (.cons _ _), _, _, _ :: _ :: _, _, _, h => absurd h Bool.false_ne_true
theorem sIt : ∀ (it : It) (c : AC) (X : Cx) (tg' e' : Expr), XOk c kn k X → KnIt kn it → agIt c tg' it e' = true → PI X tg' e' (tIt X.K it)
  | .seq e, c, X, tg', e', x, hk, h => s_It_seq (sE e c X e' x hk (b2 (show (notSet e' && agE c e e') = true from h)).2)
  | .rng es, c, X, tg', e', x, hk, h => s_It_rng x h (fun es' => sEs es c X es' x hk)
  | .enum e, c, X, tg', e', x, hk, h => s_It_enum x h (fun a' => sE e c X a' x hk)
  | .zip a b, c, X, tg', e', x, hk, h => s_It_zip x h (fun a' => sE a c X a' x hk.1) (fun a' => sE b c X a' x hk.2)
  | .zip3 es, c, X, tg', e', x, hk, h => s_It_zip3 x h (fun es' => sDs es c X es' x hk)
theorem sTg : ∀ (t : Tg) (c : AC) (X : Cx) (e' : Expr), XOk c kn k X → KnTg kn t → agTg c t e' = true → PG X e' (tTg X.K t)
  | .n i, c, X, e', x, hk, h => s_Tg_n x h
  | .t ts, c, X, e', x, hk, h => s_Tg_t x h (fun es' => sTgs ts c X es' x hk)
  | .ix a b, c, X, e', x, hk, h => s_Tg_ix x h (fun a' => sE a c X a' x hk.1) (fun b' => sE b c X b' x hk.2)
theorem sTgs : ∀ (ts : Tgs) (c : AC) (X : Cx) (es' : List Expr), XOk c kn k X → KnTgs kn ts → agTgs c ts es' = true → PGs X es' (tTgs X.K ts)
  | .nil, _, _, [], _, _, _ => s_Tgs_nil
  | .nil, _, _, _ :: _, _, _, h => absurd h Bool.false_ne_true
  | .cons _ _, _, _, [], _, _, h => absurd h Bool.false_ne_true
  | .cons t ts, c, X, e' :: es', x, hk, h =>
    have h := b2 (show (notStar e' && (agTg c t e' && agTgs c ts es')) = true from h)
    s_Tgs_cons h.1 (sTg t c X e' x hk.1 (b2 h.2).1) (sTgs ts c X es' x hk.2 (b2 h.2).2)
end
end
end DB
set_option maxHeartbeats 4000000
namespace DB
open PySem PySem.Spec L2

/-! ### statements: agreement -/
def notCompX : Expr → Bool
  | .ListComp _ _ _ _ => false
  | .SetComp _ _ _ _ => false
  | .DictComp _ _ _ _ _ => false
  | _ => true
def notNameX : Expr → Bool
  | .Name _ _ => false
  | _ => true
/-- the exchanged stores of name = [comprehension] -/
def swapL (c : AC) (y : Str) (py : Pos) (scope : Scope) (vp : Pos) : Bool :=
  decide (c.sc.names.lookup y = some .local) && ((py.line == vp.line) && !(scope.names.any fun (n, k) => n == y && (k == .local || k == .cell)))
def asgOk : Expr → Bool
  | .SetComp _ _ _ _ => false
  | .DictComp _ _ _ _ _ => false
  | _ => true
def noPar : Expr → Expr → Bool
  | .Tuple _ _ _, .Tuple _ _ _ => false
  | .List _ _, .Tuple _ _ _ => false
  | _, _ => true
def agNames (c : AC) : List (Nat × Bool) → List Expr → Bool
  | [], [] => true
  | (i, _) :: cs, .Name y _ :: es => decide (c.N[i]? = some y) && (locB c.sc c.blk y && agNames c cs es)
  | _, _ => false
def namesOf : List Expr → List Str
  | [] => []
  | .Name y _ :: es => y :: namesOf es
  | _ :: es => namesOf es
/-- are the stores of a, b = x, y swapped -/
def swapP (c : AC) (ts vs : List Expr) : Bool :=
  (ts.length == 2 || ts.length == 3) && ((namesOf ts).all (fun y => decide (c.sc.names.lookup y = some .local)) && !vs.all (foldedForSure 8))
def parOk (c : AC) (ts vs : List Expr) : Bool :=
  !swapP c ts vs || (ts.all (fun t => t.pos.line == (ts.head?.map (·.pos.line)).getD 0) && !vs.all (constantsAlone 8))
/-- the two statements y = zip(a, b); return tuple([e for t in y]) -/
structure ZrX where
  y : Str
  zn : Str
  a : Expr
  b : Expr
  tn : Str
  elt : Expr
  tg : Expr
  y2 : Str
  scope : Scope
def zrS1 : Stmt → Option (Str × Str × Expr × Expr)
  | .Assign [.Name y _] (.Call (.Name zn _) [a, b] [] _) _ => some (y, zn, a, b)
  | _ => none
def zrC (e : Expr) : Option (Expr × Expr × Str × Scope) := match e with
  | .ListComp elt [⟨tg, .Name y2 _, [], i⟩] scope _ => if i = 0 then some (elt, tg, y2, scope) else none
  | _ => none
def zrS2 : Stmt → Option (Str × Expr)
  | .Return (some (.Call (.Name tn _) [e] [] _)) _ => some (tn, e)
  | _ => none
def zrX : List Stmt → Option ZrX
  | [s1, s2] => match zrS1 s1, zrS2 s2 with
    | some (y, zn, a, b), some (tn, e) => match zrC e with
      | some (elt, tg, y2, scope) => some ⟨y, zn, a, b, tn, elt, tg, y2, scope⟩
      | none => none
    | _, _ => none
  | _ => none
theorem zrS1_inv {s : Stmt} {z} (h : zrS1 s = some z) : ∃ p1 p2 p3 pos, s = .Assign [.Name z.1 p1] (.Call (.Name z.2.1 p2) [z.2.2.1, z.2.2.2] [] p3) pos := by
  unfold zrS1 at h
  split at h
  · cases h; exact ⟨_, _, _, _, rfl⟩
  · cases h
theorem zrS2_inv {s : Stmt} {z} (h : zrS2 s = some z) : ∃ p4 p7 pos, s = .Return (some (.Call (.Name z.1 p4) [z.2] [] p7)) pos := by
  unfold zrS2 at h
  split at h
  · cases h; exact ⟨_, _, _, rfl⟩
  · cases h
theorem zrC_inv {e : Expr} {z} (h : zrC e = some z) : ∃ p5 p6, e = .ListComp z.1 [⟨z.2.1, .Name z.2.2.1 p5, [], 0⟩] z.2.2.2 p6 := by
  unfold zrC at h
  split at h
  · split at h
    · rename_i hi
      cases h
      subst hi
      exact ⟨_, _, rfl⟩
    · cases h
  · cases h
theorem zrX_inv {ss : List Stmt} {z : ZrX} (h : zrX ss = some z) : ∃ p1 p2 p3 pos p4 p5 p6 p7 pos2, ss = [.Assign [.Name z.y p1] (.Call (.Name z.zn p2) [z.a, z.b] [] p3) pos, .Return (some (.Call (.Name z.tn p4) [.ListComp z.elt [⟨z.tg, .Name z.y2 p5, [], 0⟩] z.scope p6] [] p7)) pos2] := by
  unfold zrX at h
  split at h
  · split at h
    · rename_i e1 e2
      split at h
      · rename_i e3
        cases h
        obtain ⟨p1, p2, p3, pos, rfl⟩ := zrS1_inv e1
        obtain ⟨p4, p7, pos2, rfl⟩ := zrS2_inv e2
        obtain ⟨p5, p6, rfl⟩ := zrC_inv e3
        exact ⟨p1, p2, p3, pos, p4, p5, p6, p7, pos2, rfl⟩
      · cases h
    · cases h
  · cases h
def agZr (c : AC) (i : Nat) (a b : E) (tg : Tg) (elt : E) (z : ZrX) : Bool :=
  decide (c.N[i]? = some z.y) && (locB c.sc c.blk z.y && (decide (z.zn = ("zip" : Str)) && (glB c.sc z.zn && (notStar z.a && (notStar z.b && (agE c a z.a && (agE c b z.b && (decide (z.y2 = z.y) && (visB c.sc z.y && (!(z.y == ("__debug__" : Str)) && (!(z.y == ("__classdict__" : Str)) &&
    (decide (z.tn = ("tuple" : Str)) && (glB c.sc z.tn && (isTupX z.tg && (blkC c.N c.sc z.scope (ownOf c.N tg.slots) && (agTg (c.sub z.scope) tg z.tg && agE (c.sub z.scope) elt z.elt))))))))))))))))
mutual
def agS (c : AC) : S → Stmt → Bool
  | .asg _ i e, .Assign [.Name y _] v _ => decide (c.N[i]? = some y) && (locB c.sc c.blk y && (asgOk v && agE c e v))
  | .asgT t e, .Assign [tg'] v _ => notNameX tg' && (notStar tg' && (noPar tg' v && (agTg c t tg' && agE c e v)))
  | .par cs es, .Assign [.Tuple ts _ _] (.Tuple vs _ _) _ => agNames c cs ts && (decide ((cs.map (·.1)).Nodup) && (agEs c es vs && (decide (vs.length ≤ sizeLine) && (decide (ts.length = vs.length) && parOk c ts vs))))
  | .ex e, .Expr e' _ => notCompX e' && agE c e e'
  | .ret e, .Return (some e') _ => agE c e e'
  | .retN, .Return none _ => true
  | .iff t a b, .If t' a' b' _ => agT c t t' && (agSs c a a' && agSs c b b')
  | .for _ t it body, .For tg' it' body' [] _ => agIt c tg' it it' && (notSet it' && (agTg c t tg' && agSs c body body'))
  | .whl _ _ t body, .While t' body' [] _ => agT c t t' && agSs c body body'
  | .rai, .Raise _ _ _ => true
  | .pass, .Pass _ => true
  | .pass, .Expr (.Constant (.str _) _ _) _ => true
  | .brk, .Break _ => true
  | .cont, .Continue _ => true
  | _, _ => false
def agSs (c : AC) : Ss → List Stmt → Bool
  | .nil, [] => true
  | .cons s ss, s' :: ss' => agS c s s' && agSs c ss ss'
  | .zr i a b tg elt, ss' => match zrX ss' with
    | some z => agZr c i a b tg elt z
    | none => false
  | _, _ => false
end
mutual
def KnS (k : Know) : S → Prop
  | .asg _ _ e => KnE k e
  | .asgT t e => KnTg k t ∧ KnE k e
  | .par _ es => KnEs k es
  | .ex e => KnE k e
  | .ret e => KnE k e
  | .retN => True
  | .iff c a b => KnT k c ∧ KnSs k a ∧ KnSs k b
  | .for _ t it body => KnTg k t ∧ KnIt k it ∧ KnSs k body
  | .whl _ _ c body => KnT k c ∧ KnSs k body
  | .rai => True
  | .pass => True
  | .brk => True
  | .cont => True
def KnSs (k : Know) : Ss → Prop
  | .nil => True
  | .cons s ss => KnS k s ∧ KnSs k ss
  | .zr _ a b tg elt => KnE k a ∧ KnE k b ∧ KnTg k tg ∧ KnE k elt
end

/-! ### readings -/
def FlQ (K : PySem.W.Frag) (D : Ends) (H : Hp) (as' : List Addr) (F' H' : Hp) : Flow → Prop
  | .nx env => ∀ σ', EnvOk K F' as' σ' env → D.nx σ' H'
  | .bk env => ∀ σ', EnvOk K F' as' σ' env → D.bk σ' H'
  | .ct env => ∀ σ', EnvOk K F' as' σ' env → D.ct σ' H'
  | .rt r => ∀ v, ROk K F' H' as' v r → Fresh H v r → D.rt v H'
def tS (K : PySem.W.Frag) (s : S) : TS := fun D σ H => ∃ as F st env fl st', StOk K F H as st ∧ EnvOk K F as σ env ∧ evS s env st = .ok fl st' ∧
  ∀ as' F' H', StOk K F' H' as' st' → Ext [] as F H st as' F' H' st' → FlQ K D H as' F' H' fl
def tSs (K : PySem.W.Frag) (ss : Ss) : TS := fun D σ H => ∃ as F st env fl st', StOk K F H as st ∧ EnvOk K F as σ env ∧ evSs ss env st = .ok fl st' ∧
  ∀ as' F' H', StOk K F' H' as' st' → Ext [] as F H st as' F' H' st' → FlQ K D H as' F' H' fl
structure SOk (c : AC) (kn : Know) (k : Nat) (X : Cx) : Prop extends XOk c kn k X where
  kind : X.env.scope.kind = .function
  nb : c.blk = none
  own : PassesOwn (model X.prog X.w) X.A X.env X.xe
section
variable {K : PySem.W.Frag} {F F' H H' F0 H0 : Hp} {ex as as' as0 : List Addr} {st st' st0 : Sto}
/-- a new thing becomes a cell -/
theorem StOk.alloc {a : Addr} {d : D} (s : StOk K F H as st) (f : F a = none) (c : CelOk K F H a d) (nm : a ∉ as) : StOk K F H (as ++ [a]) (st ++ [⟨d, true⟩]) := by
  have hlen : (as ++ [a]).length = (st ++ [(⟨d, true⟩ : Cel)]).length := by rw [List.length_append, List.length_append, s.len]; rfl
  refine ⟨s.sub, hlen, fun n b d' h1 h2 => ?_, fun n b d' h1 h2 => ?_⟩
  · by_cases hn : n < st.length
    · rw [List.getElem?_append_left hn] at h2
      rw [List.getElem?_append_left (by rw [s.len]; exact hn)] at h1
      obtain ⟨f1, c1, u1⟩ := s.live n b d' h1 h2
      refine ⟨f1, c1, fun n' h' => ?_⟩
      by_cases hn' : n' < st.length
      · rw [List.getElem?_append_left (by rw [s.len]; exact hn')] at h'
        exact u1 n' h'
      · rw [List.getElem?_append_right (by rw [s.len]; omega)] at h'
        have : b = a := List.mem_singleton.mp (List.mem_of_getElem? h')
        subst this
        exact absurd (List.mem_of_getElem? h1) nm
    · rw [List.getElem?_append_right (by omega)] at h2
      rw [List.getElem?_append_right (by rw [s.len]; omega)] at h1
      have hz : n - st.length = 0 := by
        cases q : n - st.length with
        | zero => rfl
        | succ j => rw [q] at h2; cases h2
      rw [hz] at h2
      rw [s.len, hz] at h1
      cases h2
      cases h1
      refine ⟨f, c, fun n' h' => ?_⟩
      by_cases hn' : n' < st.length
      · rw [List.getElem?_append_left (by rw [s.len]; exact hn')] at h'
        exact absurd (List.mem_of_getElem? h') nm
      · have := (List.getElem?_eq_some_iff.mp h').1
        rw [List.length_append, s.len] at this
        have : n' < st.length + 1 := this
        omega
  · by_cases hn : n < st.length
    · rw [List.getElem?_append_left hn] at h2
      rw [List.getElem?_append_left (by rw [s.len]; exact hn)] at h1
      exact s.froz n b d' h1 h2
    · rw [List.getElem?_append_right (by omega)] at h2
      have hz : n - st.length = 0 := by
        cases q : n - st.length with
        | zero => rfl
        | succ j => rw [q] at h2; cases h2
      rw [hz] at h2
      cases h2
theorem EnvOk.more {a : Addr} {σ : L2.St} {env : Env} (en : EnvOk K F as σ env) : EnvOk K F (as ++ [a]) σ env := by
  refine ⟨en.len, fun j q hq => ?_⟩
  obtain ⟨w, hw, z⟩ := en.get j q hq
  refine ⟨w, hw, ?_⟩
  rcases z with z | ⟨c', a', rfl, rfl, z⟩
  · exact .inl z
  · exact .inr ⟨c', a', rfl, rfl, by rw [List.getElem?_append_left (List.getElem?_eq_some_iff.mp z).1]; exact z⟩
/-- a name's new value -/
theorem store1_aft {m : Bool} {i : Nat} {v : V} {r : R} {σ : L2.St} {env env' : Env} (hl0 : as0.length = st0.length) (s : StOk K F H as st) (x : Ext [] as0 F0 H0 st0 as F H st) (en : EnvOk K F as σ env) (ro : ROk K F H as v r) (fr : Fresh H0 v r)
    (e : store1 m i r env st = .ok env' st') : ∃ F' as', StOk K F' H as' st' ∧ Ext [] as0 F0 H0 st0 as' F' H st' ∧ Ext (ownA v r) as F H st as F' H st ∧ (as' = as ∨ as' = as ++ ownA v r) ∧ EnvOk K F' as' (σ.set i (some v)) env' := by
  cases ro with
  | dat d =>
    obtain ⟨rfl, rfl⟩ := pure_inv (show (pure (env.set i (some (.dat _))) : M Env) st = .ok env' st' from e)
    exact ⟨F, as, s, x, .refl, .inl rfl, en.set i (.inl ⟨_, rfl, d⟩)⟩
  | cell h =>
    obtain ⟨rfl, rfl⟩ := pure_inv (show (pure (env.set i (some (.cell _))) : M Env) st = .ok env' st' from e)
    exact ⟨F, as, s, x, .refl, .inl rfl, en.set i (.inr ⟨_, _, rfl, rfl, h⟩)⟩
  | @own a d f c nm =>
    cases m with
    | false =>
      obtain ⟨rfl, rfl⟩ := pure_inv (show (pure (env.set i (some (.dat d))) : M Env) st = .ok env' st' from e)
      obtain ⟨F2, k2, x2, d2⟩ := use_ok s (.own f c nm) (show use (.own d) st' = .ok d st' from rfl)
      refine ⟨F2, as, k2, x.transX hl0 s.len x2 (fun _ z => nomatch z) (fun a' ha => .inr ?_), x2, .inl rfl, (en.ext x2).set i (.inl ⟨d, rfl, d2⟩)⟩
      have : a' = a := List.mem_singleton.mp ha
      subst this
      exact fr _ rfl
    | true =>
      have e : (Res.ok (env.set i (some (.cell st.length))) (st ++ [⟨d, true⟩]) : Res Env) = .ok env' st' := e
      cases e
      have hk : StOk K F H (as ++ [a]) (st ++ [⟨d, true⟩]) := s.alloc f c nm
      refine ⟨F, as ++ [a], hk, ?_, .refl, .inr rfl, ?_⟩
      · refine ⟨?_, x.f, x.k, fun b o hb n nx => x.h b o hb n nx, fun n d' hn h2 => ?_, by rw [List.length_append]; exact Nat.le_trans x.g (Nat.le_add_right _ _)⟩
        · obtain ⟨new, rfl, hnew⟩ := x.pre
          refine ⟨new ++ [a], by simp, fun b hb => ?_⟩
          rcases List.mem_append.mp hb with hb | hb
          · exact hnew b hb
          · have : b = a := List.mem_singleton.mp hb
            subst this
            exact fr _ rfl
        · rw [List.getElem?_append_left (Nat.lt_of_lt_of_le hn x.g)] at h2
          exact x.l n d' hn h2
      · have en' : EnvOk K F (as ++ [a]) σ env := by
          refine ⟨en.len, fun j q hq => ?_⟩
          obtain ⟨w, hw, z⟩ := en.get j q hq
          refine ⟨w, hw, ?_⟩
          rcases z with z | ⟨c', a', rfl, rfl, z⟩
          · exact .inl z
          · exact .inr ⟨c', a', rfl, rfl, by rw [List.getElem?_append_left (List.getElem?_eq_some_iff.mp z).1]; exact z⟩
        exact en'.set i (.inr ⟨st.length, a, rfl, rfl, by rw [← s.len, List.getElem?_append_right (Nat.le_refl _), Nat.sub_self]; rfl⟩)
def setAll : List (Nat × Bool) → List V → L2.St → L2.St
  | (i, _) :: cs, v :: vs, σ => setAll cs vs (σ.set i (some v))
  | _, _, σ => σ
theorem parM_aft : ∀ {cs : List (Nat × Bool)} {vs : List V} {rs : List R} {σ : L2.St} {env env' : Env} {F : Hp} {as : List Addr} {st st' : Sto}, as0.length = st0.length → StOk K F H as st → Ext [] as0 F0 H0 st0 as F H st → EnvOk K F as σ env → RsOk K F H as vs rs → (∀ a ∈ ownsA vs rs, H0 a = none) →
    parM cs rs env st = .ok env' st' → ∃ F' as', StOk K F' H as' st' ∧ Ext [] as0 F0 H0 st0 as' F' H st' ∧ EnvOk K F' as' (setAll cs vs σ) env' ∧ cs.length = vs.length
  | [], _, [], σ, env, env', F, as, st, st', hl0, s, x, en, ro, fr, e => by
    cases ro
    obtain ⟨rfl, rfl⟩ := pure_inv (show (pure env : M Env) st = .ok env' st' from e)
    exact ⟨F, as, s, x, en, rfl⟩
  | [], _, _ :: _, σ, env, env', F, as, st, st', hl0, s, x, en, ro, fr, e => (no_inv e).elim
  | (i, m) :: cs, _, [], σ, env, env', F, as, st, st', hl0, s, x, en, ro, fr, e => (no_inv e).elim
  | (i, m) :: cs, _, r :: rs, σ, env, env', F, as, st, st', hl0, s, x, en, ro, fr, e => by
    cases ro with
    | @cons v _ vs _ r1 r2 dj =>
    obtain ⟨env1, s1, e1, z1⟩ := bind_inv (show (store1 m i r env >>= fun env' => parM cs rs env') st = .ok env' st' from e)
    obtain ⟨F1, as1, k1, x1, x10, ha, en1⟩ := store1_aft hl0 s x en r1 (by
      cases r with
      | own d => exact fun a ha => fr a (List.mem_append_left _ (by rw [ha]; simp [ownA]))
      | _ => trivial) e1
    have r2' : RsOk K F1 H as1 vs rs := by
      clear fr z1 e
      induction r2 with
      | nil => exact .nil
      | @cons w q ws qs w1 w2 dj2 ih =>
        refine .cons ?_ (ih fun a ha hb => dj a ha (List.mem_append_right _ hb)) dj2
        have w1' : ROk K F1 H as w q := w1.ext s.len x10 fun a ha hb => dj a hb (List.mem_append_left _ ha)
        rcases ha with rfl | rfl
        · exact w1'
        · cases w1' with
          | dat d => exact .dat d
          | own f c nm =>
            refine .own f c fun hm => ?_
            rcases List.mem_append.mp hm with hm | hm
            · exact nm hm
            · exact dj _ hm (List.mem_append_left _ (by simp [ownA]))
          | cell h => exact .cell (by rw [List.getElem?_append_left (List.getElem?_eq_some_iff.mp h).1]; exact h)
    obtain ⟨F2, as2, k2, x2, en2, hl⟩ := parM_aft hl0 k1 x1 en1 r2' (fun a ha => fr a (List.mem_append_right _ ha)) z1
    exact ⟨F2, as2, k2, x2, en2, congrArg Nat.succ hl⟩
end
end DB
set_option maxHeartbeats 4000000
namespace L2
open PySem PySem.Spec PyProof.Rows
section
variable {X : Cx} {pos : Pos}
/-- a, b, c = x, y, z with plain local names: stored from the right -/
def tPar3D (i j l : Nat) (ta : TA) : TS := fun D σ H => ta σ H fun vs H1 => ∃ v w u, vs = [v, w, u] ∧ D.nx (((σ.set i (some v)).set j (some w)).set l (some u)) H1
theorem ps_par3D {i j l : Nat} {x y z : Str} {a b c : Expr} {ta : TA} {px py pz pt : Pos} {kt k2 pt2} (hc : X.calm = true) (hN : X.N.Nodup) (hi : X.N[i]? = some x) (hj : X.N[j]? = some y) (hl : X.N[l]? = some z) (hij : i ≠ j) (hil : i ≠ l) (hjl : j ≠ l)
    (hx : X.env.scope.names.lookup x = some .local) (hy : X.env.scope.names.lookup y = some .local) (hz : X.env.scope.names.lookup z = some .local) (ha : PA X [a, b, c] ta)
    (hw : swappedStores [.Tuple [.Name x px, .Name y py, .Name z pz] kt pt] (.Tuple [a, b, c] k2 pt2) X.env = pure (some [x, y, z]))
    (hs : swapsWithSole [.Tuple [.Name x px, .Name y py, .Name z pz] kt pt] (.Tuple [a, b, c] k2 pt2) pos.line X.env = pure false := by rfl) :
    PS X (.Assign [.Tuple [.Name x px, .Name y py, .Name z pz] kt pt] (.Tuple [a, b, c] k2 pt2) pos) (tPar3D i j l ta) := by
  refine ⟨fun pins s σ H D I h => ?_⟩
  rw [exec_Assign_arm]
  refine wpAny_bind (wpAny_standAt ?_)
  rw [hs]
  refine wpAny_bind (wpAny_pure ?_)
  rw [if_neg (by decide)]
  refine wpAny_bind (Tuple_ (thn (ha.run _ pins s σ H _ I h) fun us s1 ⟨vs, H1, I1, r1, q1⟩ => ?_))
  obtain ⟨v, w, u, e1, q1⟩ := q1
  subst e1
  obtain ⟨u1, u2, u3, rfl, rv, rw', ru⟩ : ∃ u1 u2 u3, us = [u1, u2, u3] ∧ RelV v u1 ∧ RelV w u2 ∧ RelV u u3 := by
    cases r1 with
    | cons p q =>
      cases q with
      | cons p' q' =>
        cases q' with
        | cons p'' q'' =>
          cases q''
          exact ⟨_, _, _, rfl, p, p', p''⟩
  refine wpAny_newObj_type ?_ (by show 3 ≤ sizeLine; decide)
  have I2 : Inv X pins σ H1 { s1 with heap := s1.heap.push { cls := .type "tuple", data := .seq [u1, u2, u3].toArray } } := I1.kept (t' := s1.toks) fun b o e => Heap.get?_push_of_some _ e
  rw [hw]
  refine wpAny_bind (wpAny_pure ?_)
  show wpAny (model X.prog X.w) X.A (do rule "assign.swapped-stores"; let items ← unpackItems (.ref s1.heap.objs.size) 3 none; assignInOrder [fun v => bindName X.env z v, fun v => bindName X.env y v, fun v => bindName X.env x v] items.reverse; pure Flow.next) _ _ _
  refine wpAny_bind (wpAny_rule (wpAny_bind (unpackItems_tuple (items := #[u1, u2, u3]) (I.ok.hd hc) (IsTup.new s1.heap _) fun h' hx' => ?_)))
  have I3 := I2.kept (h' := h') (t' := s1.toks) fun b o e => hx' b o (Nat.ne_of_lt (Heap.lt_size e)) e
  show wpAny _ _ (assignInOrder [fun v => bindName X.env z v, fun v => bindName X.env y v, fun v => bindName X.env x v] [u3, u2, u1] >>= fun _ => pure Flow.next) _ _ _
  refine wpAny_bind (assignInOrder_cons (wpAny_bindName (store_ok I3 hN hl (.inl hz) ru (fun s2 I4 => ?_) (.inr hz))))
  refine assignInOrder_cons (wpAny_bindName (store_ok I4 hN hj (.inl hy) rw' (fun s3 I5 => ?_) (.inr hy)))
  refine assignInOrder_cons (wpAny_bindName (store_ok I5 hN hi (.inl hx) rv (fun s4 I6 => assignInOrder_nil (wpAny_pure ?_)) (.inr hx)))
  rw [List.set_comm _ _ (Ne.symm hjl), List.set_comm _ _ (Ne.symm hil), List.set_comm _ _ (Ne.symm hij)] at I6
  exact ⟨_, H1, I6, q1⟩
end
end L2
namespace DB
open PySem PySem.Spec L2
section
variable {c : AC} {kn : Know} {k : Nat} {X : Cx}
theorem RsOk.ext {K : PySem.W.Frag} {F F' H H' : Hp} {ex as as' : List Addr} {st st' : Sto} {vs : List V} {rs : List R} (h : RsOk K F H as vs rs) (hl : as.length = st.length) (e : Ext ex as F H st as' F' H' st') (hx : ∀ a ∈ ownsA vs rs, a ∉ ex) : RsOk K F' H' as' vs rs := by
  induction h with
  | nil => exact .nil
  | cons r1 r2 dj ih => exact .cons (r1.ext hl e fun a ha => hx a (List.mem_append_left _ ha)) (ih fun a ha => hx a (List.mem_append_right _ ha)) dj
theorem RsOk.length {K : PySem.W.Frag} {F H : Hp} {as : List Addr} {vs : List V} {rs : List R} (h : RsOk K F H as vs rs) : vs.length = rs.length := by
  induction h with
  | nil => rfl
  | cons _ _ _ ih => exact congrArg Nat.succ ih
theorem sw_false {v : Expr} {t : Option Expr} {l : Nat} {env : PySem.Env} (h : notCompX v = true) : swapsWith v t l env = pure false := by
  cases v <;> first | rfl | exact absurd h Bool.false_ne_true
theorem sw_false2 {v t : Expr} {l : Nat} {env : PySem.Env} (h : notNameX t = true) : swapsWith v (some t) l env = pure false := by
  cases v <;> first | rfl | (cases t <;> first | rfl | exact absurd h Bool.false_ne_true)
theorem block_fn {env : PySem.Env} (h : env.scope.kind = .function) : env.blockKind = .function := by
  unfold Env.blockKind
  rw [h]
  rfl
theorem sw_lc {elt : Expr} {gs : List Comprehension} {scope : Scope} {vp py : Pos} {y : Str} {l : Nat} {env : PySem.Env} (h : env.scope.kind = .function) (hs : env.scope = c.sc) :
    swapsWith (.ListComp elt gs scope vp) (some (.Name y py)) l env = pure (swapL c y py scope vp) := by
  have hb := block_fn h
  unfold swapsWith
  simp only [hb, Expr.pos]
  unfold swapL
  have e : (env.kindOf y == some .local) = decide (c.sc.names.lookup y = some .local) := by
    rw [← hs]
    show (env.scope.names.lookup y == some .local) = _
    cases q : env.scope.names.lookup y with
    | none => rfl
    | some z => cases z <;> rfl
  rw [e]
  show (pure ((true && decide (c.sc.names.lookup y = some .local)) && (py.line == vp.line) && !(scope.names.any fun (n, k) => n == y && (k == .local || k == .cell))) : Sem Bool) = _
  rw [Bool.true_and, Bool.and_assoc]
theorem asg_run {m : Bool} {i : Nat} {e : E} {D : Ends} {σ : L2.St} {H : Hp} (hh : tS X.K (.asg m i e) D σ H) : tE X.K e σ H fun x H1 => D.nx (σ.set i (some x)) H1 := by
  obtain ⟨as, F, st, env, fl, st', s, en, ee, af⟩ := hh
  obtain ⟨r, s1, e1, z1⟩ := bind_inv (show (evE e env >>= fun r => store1 m i r env >>= fun env' => (pure (Flow.nx env') : M Flow)) st = .ok fl st' from ee)
  obtain ⟨env', s2, e2, z2⟩ := bind_inv z1
  obtain ⟨rfl, rfl⟩ := pure_inv z2
  refine ⟨as, F, st, env, r, s1, s, en, e1, fun v F1 H1 k1 x1 r1 f1 => ?_⟩
  obtain ⟨F2, as2, k2, x2, _, _, en2⟩ := store1_aft s.len k1 x1 (en.ext x1) r1 f1 e2
  exact af as2 F2 H1 k2 x2 _ en2
theorem s_asg {m : Bool} {i : Nat} {e : E} {s' : Stmt} (x : SOk c kn k X) (hk : KnE kn e) (h : agS c (.asg m i e) s' = true) : PS X s' (tS X.K (.asg m i e)) := by
  have h0 : ∃ y p v pos, s' = .Assign [.Name y p] v pos ∧ c.N[i]? = some y ∧ locB c.sc c.blk y = true ∧ asgOk v = true ∧ agE c e v = true := by
    cases s' with
    | Assign ts v pos =>
      match ts, h with
      | [t], h =>
        cases t with
        | Name y p =>
          obtain ⟨h1, h⟩ := b2 (show (decide (c.N[i]? = some y) && (locB c.sc c.blk y && (asgOk v && agE c e v))) = true from h)
          obtain ⟨h2, h⟩ := b2 h
          obtain ⟨h3, h4⟩ := b2 h
          exact ⟨y, p, v, pos, rfl, of_decide_eq_true h1, h2, h3, h4⟩
        | _ => exact absurd h Bool.false_ne_true
      | [], h => exact absurd h Bool.false_ne_true
      | t :: _ :: _, h => cases t <;> exact absurd h Bool.false_ne_true
    | _ => exact absurd h Bool.false_ne_true
  obtain ⟨y, p, v, pos, rfl, h1, h2, h3, h4⟩ := h0
  obtain ⟨l1, l2⟩ := x.toXOk.loc h2
  have hN : X.N[i]? = some y := by rw [x.N]; exact h1
  have std : swapsWith v (some (.Name y p)) pos.line X.env = pure false → PS X (.Assign [.Name y p] v pos) (tS X.K (.asg m i e)) := fun hs =>
    PS.imp (ps_set x.nd hN l1 (sE e c X v x.toXOk hk h4) hs l2) fun D σ H hh => asg_run hh
  cases v with
  | ListComp elt gs scope vp =>
    cases hsw : swapL c y p scope vp with
    | false => exact std (by rw [sw_lc x.kind x.sc, hsw])
    | true =>
      have hyl : X.env.scope.names.lookup y = some .local := by
        unfold swapL at hsw
        rw [x.sc]
        exact of_decide_eq_true (b2 hsw).1
      cases e with
      | comp tg it cond elt0 =>
        obtain ⟨elt', tg', it', ifs', scope', p', e0, g1, g2, g3, g4, g5, g6⟩ := comp_shape h4
        cases e0
        obtain ⟨k1, k2, k3, k4⟩ := hk
        have pl := ps_setLc (X := X) (i := i) (y := y) (py := p) (elt := elt) (tg := tg') (iter := it') (ifs := ifs') (pos := vp) (spos := pos) (g := tTg X.K tg) (tt := tTAnd X.K cond) (te := tE X.K elt0) x.calm x.nd hN hyl (by rw [sw_lc x.kind x.sc, hsw]) (sIt it c X tg' it' x.toXOk k2 g2) (blkOk_by (N := X.N) (sc := X.env.scope) (by rw [x.N, x.sc]; exact g1))
          (fun s H C cl fp => sTg tg (c.sub scope) _ tg' (x.toXOk.blk s H C cl fp) k1 g4) (fun s H C cl fp => sC cond (c.sub scope) _ ifs' (x.toXOk.blk s H C cl fp) k3 g5) (fun s H C cl fp => sE elt0 (c.sub scope) _ elt (x.toXOk.blk s H C cl fp) k4 g6) (fun z => fold_of g3 z)
        rw [own_map] at pl
        exact PS.imp pl fun D σ H hh => comp_run (asg_run hh)
      | compp tg it cond elt0 =>
        obtain ⟨elt', tg', it', ifs', scope', p', e0, g1, g2, g3, g4, g5, g6⟩ := compp_shape h4
        cases e0
        obtain ⟨k1, k2, k3, k4⟩ := hk
        have pl := ps_setLc (X := X) (i := i) (y := y) (py := p) (elt := elt) (tg := tg') (iter := it') (ifs := ifs') (pos := vp) (spos := pos) (g := tTg X.K tg) (tt := tTAnd X.K cond) (te := tE X.K elt0) x.calm x.nd hN hyl (by rw [sw_lc x.kind x.sc, hsw]) (sIt it c X tg' it' x.toXOk k2 g2) (blkOk_by (N := X.N) (sc := X.env.scope) (by rw [x.N, x.sc]; exact g1))
          (fun s H C cl fp => sTg tg (c.sub scope) _ tg' (x.toXOk.blk s H C cl fp) k1 g4) (fun s H C cl fp => sC cond (c.sub scope) _ ifs' (x.toXOk.blk s H C cl fp) k3 g5) (fun s H C cl fp => sE elt0 (c.sub scope) _ elt (x.toXOk.blk s H C cl fp) k4 g6) (fun z => fold_of g3 z)
        rw [own_map] at pl
        exact PS.imp pl fun D σ H hh => comp_run (compp_run (asg_run hh))
      | comp2 tg it tg2 it2 cond elt0 =>
        obtain ⟨elt', tg', it', tg2', it2', ifs', scope', p', e0, g1, g2, g3, g4, g5, g6, g7, g8, g9⟩ := comp2_shape h4
        cases e0
        obtain ⟨k1, k2, k3, k4, k5, k6⟩ := hk
        have pl := ps_setLc2 (X := X) (i := i) (y := y) (py := p) (elt := elt) (tg := tg') (iter := it') (ifs := []) (tg1 := tg2') (iter1 := it2') (ifs1 := ifs') (pos := vp) (spos := pos) (vs1 := tg2.slots) (g := tTg X.K tg) (tt := tYes) (wi1 := tIt X.K it2) (g1 := tTg X.K tg2) (tt1 := tTAnd X.K cond) (te := tE X.K elt0) x.calm x.nd hN hyl (by rw [sw_lc x.kind x.sc, hsw]) (sIt it c X tg' it' x.toXOk k2 g2)
          (blkOk_by (N := X.N) (sc := X.env.scope) (by rw [x.N, x.sc]; exact g1)) (fun i hi => by rw [own_map]; exact List.mem_append_right _ hi)
          (fun s H C cl fp => sTg tg (c.sub scope) _ tg' (x.toXOk.blk s H C cl fp) k1 g4) (fun s H C cl fp => pts_nil) (fun s H C cl fp => sIt it2 (c.sub scope) _ tg2' it2' (x.toXOk.blk s H C cl fp) k4 g5)
          (fun s H C cl fp => sTg tg2 (c.sub scope) _ tg2' (x.toXOk.blk s H C cl fp) k3 g7) (fun s H C cl fp => sC cond (c.sub scope) _ ifs' (x.toXOk.blk s H C cl fp) k5 g8) (fun s H C cl fp => sE elt0 (c.sub scope) _ elt (x.toXOk.blk s H C cl fp) k6 g9) (fun z => fold_of g3 z) (fun env z => fold_of g6 z)
        rw [own_map] at pl
        exact PS.imp pl fun D σ H hh => comp2_run (asg_run hh)
      | setw w a0 => exact absurd h4 (by cases w <;> exact Bool.false_ne_true)
      | dctk ks vs => exact absurd h4 (by rcases ks with _ | ⟨k, _ | ⟨_, _⟩⟩ <;> rcases vs with _ | ⟨v, _ | ⟨_, _⟩⟩ <;> exact Bool.false_ne_true)
      | _ => exact absurd (show false = true from h4) Bool.false_ne_true
  | SetComp _ _ _ _ => exact absurd h3 Bool.false_ne_true
  | DictComp _ _ _ _ _ => exact absurd h3 Bool.false_ne_true
  | _ => exact std rfl
theorem s_asgT {t : Tg} {e : E} {s' : Stmt} (x : SOk c kn k X) (hk : KnTg kn t ∧ KnE kn e) (h : agS c (.asgT t e) s' = true) : PS X s' (tS X.K (.asgT t e)) := by
  have h0 : ∃ tg' v pos, s' = .Assign [tg'] v pos ∧ notNameX tg' = true ∧ notStar tg' = true ∧ noPar tg' v = true ∧ agTg c t tg' = true ∧ agE c e v = true := by
    cases s' with
    | Assign ts v pos =>
      match ts, h with
      | [tg'], h =>
        obtain ⟨h1, h⟩ := b2 (show (notNameX tg' && (notStar tg' && (noPar tg' v && (agTg c t tg' && agE c e v)))) = true from h)
        obtain ⟨h2, h⟩ := b2 h
        obtain ⟨h3, h⟩ := b2 h
        obtain ⟨h4, h5⟩ := b2 h
        exact ⟨tg', v, pos, rfl, h1, h2, h3, h4, h5⟩
      | [], h => exact absurd h Bool.false_ne_true
      | _ :: _ :: _, h => exact absurd h Bool.false_ne_true
    | _ => exact absurd h Bool.false_ne_true
  obtain ⟨tg', v, pos, rfl, h1, h2, h3, h4, h5⟩ := h0
  refine PS.imp (ps_asg (sE e c X v x.toXOk hk.2 h5) (sTg t c X tg' x.toXOk hk.1 h4) (sw_false2 h1) ?_ ?_) fun D σ H hh => ?_
  · unfold swappedStores
    cases tg' <;> cases v <;> first | rfl | exact absurd h3 Bool.false_ne_true
  · rw [assign_cons h2]
    rfl
  · obtain ⟨as, F, st, env, fl, st', s, en, ee, af⟩ := hh
    obtain ⟨r, s1, e1, z1⟩ := bind_inv (show (evE e env >>= fun r => use r >>= fun d => evTg t d env >>= fun env' => (pure (Flow.nx env') : M Flow)) st = .ok fl st' from ee)
    obtain ⟨d, s2, e2, z2⟩ := bind_inv z1
    obtain ⟨env', s3, e3, z3⟩ := bind_inv z2
    obtain ⟨rfl, rfl⟩ := pure_inv z3
    refine ⟨as, F, st, env, r, s1, s, en, e1, fun v F1 H1 k1 x1 r1 f1 => ?_⟩
    obtain ⟨F2, k2, x2, d2⟩ := use_aft s.len k1 x1 r1 f1 e2
    exact ⟨as, F2, s2, env, d, env', st', k2, en.ext x2, d2, e3, fun σ3 F3 H3 k3 x3 en3 _ => af as F3 H3 k3 (x2.trans s.len k2.len x3) _ en3⟩
/-! ### several names -/
theorem agNames_len : ∀ {cs : List (Nat × Bool)} {ts : List Expr}, agNames c cs ts = true → ts.length = cs.length
  | [], [], _ => rfl
  | [], _ :: _, h => absurd h Bool.false_ne_true
  | _ :: _, [], h => absurd h Bool.false_ne_true
  | (i, m) :: cs, t :: ts, h => by
    cases t with
    | Name y p =>
      obtain ⟨_, h⟩ := b2 (show (decide (c.N[i]? = some y) && (locB c.sc c.blk y && agNames c cs ts)) = true from h)
      exact congrArg Nat.succ (agNames_len (b2 h).2)
    | _ => exact absurd h Bool.false_ne_true
theorem agNames_star : ∀ {cs : List (Nat × Bool)} {ts : List Expr}, agNames c cs ts = true → ∀ e ∈ ts, notStar e = true
  | [], [], _ => fun _ h => nomatch h
  | [], _ :: _, h => absurd h Bool.false_ne_true
  | _ :: _, [], h => absurd h Bool.false_ne_true
  | (i, m) :: cs, t :: ts, h => fun e he => by
    cases t with
    | Name y p =>
      obtain ⟨_, h⟩ := b2 (show (decide (c.N[i]? = some y) && (locB c.sc c.blk y && agNames c cs ts)) = true from h)
      rcases List.mem_cons.mp he with rfl | he
      · rfl
      · exact agNames_star (b2 h).2 e he
    | _ => exact absurd h Bool.false_ne_true
theorem pgs_names (x : XOk c kn k X) : ∀ {cs : List (Nat × Bool)} {ts : List Expr}, agNames c cs ts = true → PGs X ts (fun vs σ H Q => vs.length = cs.length ∧ Q (setAll cs vs σ) H)
  | [], [], _ => PGs.imp pgs_nil fun vs σ H Q ⟨h1, h2⟩ => by
    cases vs with
    | nil => exact ⟨rfl, h2⟩
    | cons _ _ => cases h1
  | [], _ :: _, h => absurd h Bool.false_ne_true
  | _ :: _, [], h => absurd h Bool.false_ne_true
  | (i, m) :: cs, t :: ts, h => by
    cases t with
    | Name y p =>
      obtain ⟨h1, h⟩ := b2 (show (decide (c.N[i]? = some y) && (locB c.sc c.blk y && agNames c cs ts)) = true from h)
      obtain ⟨h2, h3⟩ := b2 h
      obtain ⟨l1, l2⟩ := x.loc h2
      refine PGs.imp (pgs_cons (pg_name x.nd (by rw [x.N]; exact of_decide_eq_true h1) l1 l2) (pgs_names x h3) (by rw [assign_cons (by rfl)]; rfl)) fun vs σ H Q ⟨g1, g2⟩ => ?_
      cases vs with
      | nil => cases g1
      | cons v vs => exact ⟨v, vs, rfl, Nat.succ.inj g1, g2⟩
    | _ => exact absurd h Bool.false_ne_true
def swNames (env : PySem.Env) (ts : List Expr) : List Str := ts.filterMap fun e => match e with
    | .Name id pos => if env.kindOf id == some .local && pos.line == (ts.head?.map (·.pos.line)).getD 0 then some id else none
    | _ => none
theorem sw_shape {ts vs : List Expr} {kt k2 : _} {pt p2 : Pos} {env : PySem.Env} : swappedStores [.Tuple ts kt pt] (.Tuple vs k2 p2) env =
    (if (!(ts.length == 2 || ts.length == 3) || vs.length != ts.length || env.blockKind != .function) = true then pure none
    else if (vs.any fun x => match x with | .Starred .. => true | _ => false) = true then pure none
    else if ((swNames env ts).length != ts.length || (swNames env ts).eraseDups.length != (swNames env ts).length) = true then pure none
    else if vs.all (foldedForSure 8) = true then pure none
    else if vs.all (constantsAlone 8) = true then (do unsupported "assign.tuple-of-constant-expressions:order-of-the-stores"; pure (some (swNames env ts))) else pure (some (swNames env ts))) := rfl
theorem filter_local {env : PySem.Env} {line : Nat} (hs : env.scope = c.sc) : ∀ {cs : List (Nat × Bool)} {ts : List Expr}, agNames c cs ts = true → (ts.filterMap fun e => match e with
    | .Name id pos => if env.kindOf id == some .local && pos.line == line then some id else none
    | _ => none).length = ts.length → (namesOf ts).all (fun y => decide (c.sc.names.lookup y = some .local)) = true
  | [], [], _, _ => rfl
  | [], _ :: _, h, _ => absurd h Bool.false_ne_true
  | _ :: _, [], h, _ => absurd h Bool.false_ne_true
  | (i, m) :: cs, t :: ts, h, hl => by
    cases t with
    | Name y p =>
      obtain ⟨_, h⟩ := b2 (show (decide (c.N[i]? = some y) && (locB c.sc c.blk y && agNames c cs ts)) = true from h)
      rw [List.filterMap_cons] at hl
      by_cases hc : (env.kindOf y == some .local && p.line == line) = true
      · simp only [hc, if_true] at hl
        have ih := filter_local hs (b2 h).2 (Nat.succ.inj hl)
        have h1 := (b2 hc).1
        show (decide (c.sc.names.lookup y = some .local) && (namesOf ts).all _) = true
        rw [ih, Bool.and_true]
        rw [← hs]
        have h1 : (env.scope.names.lookup y == some .local) = true := h1
        cases q : env.scope.names.lookup y with
        | none => rw [q] at h1; cases h1
        | some z => rw [q] at h1; cases z <;> first | rfl | cases h1
      · simp only [Bool.not_eq_true] at hc
        simp only [hc, Bool.false_eq_true, if_false] at hl
        have := List.length_filterMap_le (fun e => match e with
          | Expr.Name id pos => if env.kindOf id == some .local && pos.line == line then some id else none
          | _ => none) ts
        rw [List.length_cons] at hl
        omega
    | _ => exact absurd h Bool.false_ne_true
theorem sw_none {cs : List (Nat × Bool)} {ts vs : List Expr} {kt k2 : _} {pt p2 : Pos} {env : PySem.Env} (hs : env.scope = c.sc) (h : agNames c cs ts = true) (hw : swapP c ts vs = false) : swappedStores [.Tuple ts kt pt] (.Tuple vs k2 p2) env = pure none := by
  rw [sw_shape]
  by_cases g1 : (!(ts.length == 2 || ts.length == 3) || vs.length != ts.length || env.blockKind != .function) = true
  · rw [if_pos g1]
  rw [if_neg g1]
  by_cases g2 : (vs.any fun x => match x with | .Starred .. => true | _ => false) = true
  · rw [if_pos g2]
  rw [if_neg g2]
  by_cases g3 : ((swNames env ts).length != ts.length || (swNames env ts).eraseDups.length != (swNames env ts).length) = true
  · rw [if_pos g3]
  rw [if_neg g3]
  by_cases g4 : vs.all (foldedForSure 8) = true
  · rw [if_pos g4]
  exfalso
  simp only [Bool.or_eq_true, not_or, bne_iff_ne, ne_eq, Decidable.not_not] at g3
  have hl := filter_local hs h g3.1
  unfold swapP at hw
  rw [hl] at hw
  simp only [Bool.not_eq_true] at g4
  rw [g4] at hw
  rw [Bool.true_and, Bool.not_false, Bool.and_true] at hw
  rw [hw] at g1
  exact g1 rfl
theorem star_any : ∀ {vs : List Expr}, (∀ e ∈ vs, notStar e = true) → (vs.any fun x => match x with | .Starred .. => true | _ => false) = false
  | [], _ => rfl
  | e :: es, h => by
    have ih := star_any (vs := es) fun x hx => h x (List.mem_cons_of_mem _ hx)
    have h1 := h e (List.mem_cons_self ..)
    rw [List.any_cons, ih]
    cases e <;> first | rfl | exact absurd h1 Bool.false_ne_true
theorem swP_parts {ts vs : List Expr} (hp : parOk c ts vs = true) (hw : swapP c ts vs = true) : (ts.length = 2 ∨ ts.length = 3) ∧ (∀ y ∈ namesOf ts, c.sc.names.lookup y = some .local) ∧ vs.all (foldedForSure 8) = false ∧ vs.all (constantsAlone 8) = false ∧
    ∀ t ∈ ts, (t.pos.line == (ts.head?.map (·.pos.line)).getD 0) = true := by
  unfold parOk at hp
  rw [hw] at hp
  obtain ⟨p1, p2⟩ := b2 (show (ts.all (fun t => t.pos.line == (ts.head?.map (·.pos.line)).getD 0) && !vs.all (constantsAlone 8)) = true from hp)
  unfold swapP at hw
  obtain ⟨w1, hw⟩ := b2 hw
  obtain ⟨w2, w3⟩ := b2 hw
  refine ⟨by simpa using w1, fun y hy => of_decide_eq_true (List.all_eq_true.mp w2 y hy), by simpa using w3, by simpa using p2, fun t ht => List.all_eq_true.mp p1 t ht⟩
theorem kind_loc {env : PySem.Env} (hs : env.scope = c.sc) {y : Str} (h : c.sc.names.lookup y = some .local) : (env.kindOf y == some .local) = true := by
  show (env.scope.names.lookup y == some .local) = true
  rw [hs, h]
  rfl
theorem ebeq {x y : Str} (h : x ≠ y) : (x == y) = false := by
  cases q : x == y with
  | false => rfl
  | true => exact absurd (beq_iff_eq.mp q) h
theorem er2 {x y : Str} (h : x ≠ y) : [x, y].eraseDups.length = 2 := by
  have h1 : (y == x) = false := ebeq (Ne.symm h)
  simp [List.eraseDups_cons, h1]
theorem er3 {x y z : Str} (h : x ≠ y) (h2 : x ≠ z) (h3 : y ≠ z) : [x, y, z].eraseDups.length = 3 := by
  have h1 : (y == x) = false := ebeq (Ne.symm h)
  have h2' : (z == x) = false := ebeq (Ne.symm h2)
  have h3' : (z == y) = false := ebeq (Ne.symm h3)
  simp [List.eraseDups_cons, h1, h2', h3']
theorem par_run {cs : List (Nat × Bool)} {es : Es} {D : Ends} {σ : L2.St} {H : Hp} (hh : tS X.K (.par cs es) D σ H) : tEs X.K es σ H fun vs H1 => cs.length = vs.length ∧ D.nx (setAll cs vs σ) H1 ∧ ∀ p, H1 p = none → D.nx (setAll cs vs σ) (upd H1 p (.tup vs)) := by
  obtain ⟨as, F, st, env, fl, st', s, en, ee, af⟩ := hh
  obtain ⟨rs, s1, e1, z1⟩ := bind_inv (show (evEs es env >>= fun rs => parM cs rs env >>= fun env' => (pure (Flow.nx env') : M Flow)) st = .ok fl st' from ee)
  obtain ⟨env', s2, e2, z2⟩ := bind_inv z1
  obtain ⟨rfl, rfl⟩ := pure_inv z2
  refine ⟨as, F, st, env, rs, s1, s, en, e1, fun vs F1 H1 k1 x1 r1 f1 => ?_⟩
  obtain ⟨F2, as2, k2, x2, en2, hl⟩ := parM_aft s.len k1 x1 (en.ext x1) r1 f1 e2
  refine ⟨hl, af as2 F2 H1 k2 x2 _ en2, fun p hp => ?_⟩
  have u1 : Ext [] as F1 H1 s1 as F1 (upd H1 p (.tup vs)) s1 := Ext.updH hp
  have u2 := x1.trans s.len k1.len u1
  obtain ⟨F3, as3, k3, x3, en3, _⟩ := parM_aft s.len (k1.upd hp) u2 (en.ext u2) (r1.ext k1.len u1 fun _ _ z => nomatch z) f1 e2
  exact af as3 F3 _ k3 x3 _ en3
theorem names_inj {x y : Str} {i j : Nat} (x0 : XOk c kn k X) (hx : X.N[i]? = some x) (hy : X.N[j]? = some y) (hij : i ≠ j) : x ≠ y := fun z => by
  subst z
  have h1 := List.getElem?_eq_some_iff.mp hx
  have h2 := List.getElem?_eq_some_iff.mp hy
  exact hij ((List.getElem_inj x0.nd).mp (h1.2.trans h2.2.symm))
theorem s_par {cs : List (Nat × Bool)} {es : Es} {s' : Stmt} (x : SOk c kn k X) (hk : KnEs kn es) (h : agS c (.par cs es) s' = true) : PS X s' (tS X.K (.par cs es)) := by
  have h0 : ∃ ts kt pt vs k2 p2 pos, s' = .Assign [.Tuple ts kt pt] (.Tuple vs k2 p2) pos ∧ agNames c cs ts = true ∧ (cs.map (·.1)).Nodup ∧ agEs c es vs = true ∧ vs.length ≤ sizeLine ∧ ts.length = vs.length ∧ parOk c ts vs = true := by
    cases s' with
    | Assign tl v pos =>
      match tl, h with
      | [t], h =>
        cases t with
        | Tuple ts kt pt =>
          cases v with
          | Tuple vs k2 p2 =>
            obtain ⟨h1, h⟩ := b2 (show (agNames c cs ts && (decide ((cs.map (·.1)).Nodup) && (agEs c es vs && (decide (vs.length ≤ sizeLine) && (decide (ts.length = vs.length) && parOk c ts vs))))) = true from h)
            obtain ⟨h2, h⟩ := b2 h
            obtain ⟨h3, h⟩ := b2 h
            obtain ⟨h4, h⟩ := b2 h
            obtain ⟨h5, h6⟩ := b2 h
            exact ⟨ts, kt, pt, vs, k2, p2, pos, rfl, h1, of_decide_eq_true h2, h3, of_decide_eq_true h4, of_decide_eq_true h5, h6⟩
          | _ => exact absurd h Bool.false_ne_true
        | _ => exact absurd h Bool.false_ne_true
      | [], h => exact absurd h Bool.false_ne_true
      | t :: _ :: _, h => cases t <;> exact absurd h Bool.false_ne_true
    | _ => exact absurd h Bool.false_ne_true
  obtain ⟨ts, kt, pt, vs, k2, p2, pos, rfl, h1, h2, h3, h4, h5, h6⟩ := h0
  have hA := sEs es c X vs x.toXOk hk h3
  have hst := agEs_star h3
  cases hsw : swapP c ts vs with
  | false =>
    refine PS.imp (ps_asg (pe_tup hA) (pg_tup (n := cs.length) x.calm (pgs_names x.toXOk h1) (by rw [(assign_len (agNames_star h1)).1, agNames_len h1]) (assign_len (agNames_star h1)).2) rfl (sw_none x.sc h1 hsw) rfl) fun D σ H hh => ?_
    obtain ⟨as, F, st, env, rs, st', s, en, e1, af⟩ := par_run hh
    refine ⟨as, F, st, env, rs, st', s, en, e1, fun ws F1 H1 k1 x1 r1 f1 => ?_⟩
    obtain ⟨a1, a2, a3⟩ := af ws F1 H1 k1 x1 r1 f1
    have hz : ws.length ≤ sizeLine := by rw [← a1, ← agNames_len h1, h5]; exact h4
    exact ⟨hz, fun p hp => ⟨p, ws, rfl, .of upd_same, a1.symm, a1.symm, a3 p hp⟩⟩
  | true =>
    obtain ⟨q1, q2, q3, q4, q5⟩ := swP_parts h6 hsw
    have hblk := block_fn x.kind
    have hls := agNames_len h1
    match ts, cs, vs, h1, h2, h5, hls, q1 with
    | [t1, t2], [(i, m), (j, n)], [a, b], h1, h2, h5, hls, q1 =>
      cases t1 with
      | Name y1 p1 =>
        cases t2 with
        | Name y2 p2' =>
          obtain ⟨g1, h1⟩ := b2 (show (decide (c.N[i]? = some y1) && (locB c.sc c.blk y1 && agNames c [(j, n)] [.Name y2 p2'])) = true from h1)
          obtain ⟨g2, h1⟩ := b2 h1
          obtain ⟨g3, h1⟩ := b2 (show (decide (c.N[j]? = some y2) && (locB c.sc c.blk y2 && agNames c [] [])) = true from h1)
          have n1 : X.N[i]? = some y1 := by rw [x.N]; exact of_decide_eq_true g1
          have n2 : X.N[j]? = some y2 := by rw [x.N]; exact of_decide_eq_true g3
          have hij : i ≠ j := fun z => by
            have := List.nodup_cons.mp h2
            exact this.1 (by rw [z]; exact List.mem_cons_self ..)
          have hne := names_inj x.toXOk n1 n2 hij
          have lk1 := q2 y1 (by simp [namesOf])
          have lk2 := q2 y2 (by simp [namesOf])
          have ln1 := q5 _ (List.mem_cons_self ..)
          have ln2 := q5 (.Name y2 p2') (by simp)
          have hsn : swNames X.env [.Name y1 p1, .Name y2 p2'] = [y1, y2] := by
            have e1 : (X.env.kindOf y1 == some .local && p1.line == p1.line) = true := by rw [kind_loc x.sc lk1]; exact ln1
            have e2 : (X.env.kindOf y2 == some .local && p2'.line == p1.line) = true := by rw [kind_loc x.sc lk2]; exact ln2
            unfold swNames
            simp only [List.filterMap_cons, List.filterMap_nil, List.head?_cons, Option.map_some, Option.getD_some, Expr.pos, e1, e2, if_true]
          refine PS.imp (ps_par x.calm x.nd n1 n2 hij (by rw [x.sc]; exact lk1) (by rw [x.sc]; exact lk2) hA ?_ rfl) fun D σ H hh => ?_
          · rw [sw_shape, hsn, hblk, star_any hst, q3, q4, er2 hne]
            rfl
          · obtain ⟨as, F, st, env, rs, st', s, en, e1, af⟩ := par_run hh
            refine ⟨as, F, st, env, rs, st', s, en, e1, fun ws F1 H1 k1 x1 r1 f1 => ?_⟩
            obtain ⟨a1, a2, _⟩ := af ws F1 H1 k1 x1 r1 f1
            match ws, a1, a2 with
            | [v, w], _, a2 => exact ⟨v, w, rfl, a2⟩
        | _ => exact absurd (b2 (b2 h1).2).2 Bool.false_ne_true
      | _ => exact absurd h1 Bool.false_ne_true
    | [t1, t2, t3], [(i, m), (j, n), (l, o)], [a, b, d], h1, h2, h5, hls, q1 =>
      cases t1 with
      | Name y1 p1 =>
        cases t2 with
        | Name y2 p2' =>
          cases t3 with
          | Name y3 p3 =>
            obtain ⟨g1, h1⟩ := b2 (show (decide (c.N[i]? = some y1) && (locB c.sc c.blk y1 && agNames c [(j, n), (l, o)] [.Name y2 p2', .Name y3 p3])) = true from h1)
            obtain ⟨g2, h1⟩ := b2 h1
            obtain ⟨g3, h1⟩ := b2 (show (decide (c.N[j]? = some y2) && (locB c.sc c.blk y2 && agNames c [(l, o)] [.Name y3 p3])) = true from h1)
            obtain ⟨g4, h1⟩ := b2 h1
            obtain ⟨g5, h1⟩ := b2 (show (decide (c.N[l]? = some y3) && (locB c.sc c.blk y3 && agNames c [] [])) = true from h1)
            have n1 : X.N[i]? = some y1 := by rw [x.N]; exact of_decide_eq_true g1
            have n2 : X.N[j]? = some y2 := by rw [x.N]; exact of_decide_eq_true g3
            have n3 : X.N[l]? = some y3 := by rw [x.N]; exact of_decide_eq_true g5
            have hnd : [i, j, l].Nodup := h2
            simp only [List.nodup_cons, List.mem_cons, List.not_mem_nil, or_false, not_or] at hnd
            obtain ⟨⟨hij, hil⟩, hjl, _⟩ := hnd
            have lk1 := q2 y1 (by simp [namesOf])
            have lk2 := q2 y2 (by simp [namesOf])
            have lk3 := q2 y3 (by simp [namesOf])
            have ln1 := q5 _ (List.mem_cons_self ..)
            have ln2 := q5 (.Name y2 p2') (by simp)
            have ln3 := q5 (.Name y3 p3) (by simp)
            have hsn : swNames X.env [.Name y1 p1, .Name y2 p2', .Name y3 p3] = [y1, y2, y3] := by
              have e1 : (X.env.kindOf y1 == some .local && p1.line == p1.line) = true := by rw [kind_loc x.sc lk1]; exact ln1
              have e2 : (X.env.kindOf y2 == some .local && p2'.line == p1.line) = true := by rw [kind_loc x.sc lk2]; exact ln2
              have e3 : (X.env.kindOf y3 == some .local && p3.line == p1.line) = true := by rw [kind_loc x.sc lk3]; exact ln3
              unfold swNames
              simp only [List.filterMap_cons, List.filterMap_nil, List.head?_cons, Option.map_some, Option.getD_some, Expr.pos, e1, e2, e3, if_true]
            refine PS.imp (ps_par3D x.calm x.nd n1 n2 n3 hij hil hjl (by rw [x.sc]; exact lk1) (by rw [x.sc]; exact lk2) (by rw [x.sc]; exact lk3) hA ?_ rfl) fun D σ H hh => ?_
            · rw [sw_shape, hsn, hblk, star_any hst, q3, q4, er3 (names_inj x.toXOk n1 n2 hij) (names_inj x.toXOk n1 n3 hil) (names_inj x.toXOk n2 n3 hjl)]
              rfl
            · obtain ⟨as, F, st, env, rs, st', s, en, e1, af⟩ := par_run hh
              refine ⟨as, F, st, env, rs, st', s, en, e1, fun ws F1 H1 k1 x1 r1 f1 => ?_⟩
              obtain ⟨a1, a2, _⟩ := af ws F1 H1 k1 x1 r1 f1
              match ws, a1, a2 with
              | [v, w, u], _, a2 => exact ⟨v, w, u, rfl, a2⟩
          | _ => exact absurd (b2 (b2 (b2 (b2 h1).2).2).2).2 Bool.false_ne_true
        | _ => exact absurd (b2 (b2 h1).2).2 Bool.false_ne_true
      | _ => exact absurd h1 Bool.false_ne_true
end
end DB
set_option maxHeartbeats 4000000
/-! x = zip(a, b), walked once later -/
namespace DB
open PySem PySem.Spec L2 PyProof.Rows
/-- what stands of an address for a walk, whatever the heap -/
def Side (X : Cx) (b : Addr) : Prop := b ≠ X.env.locals ∧ b ∉ X.fs ∧ (b ∈ X.ex ∨ X.s_0.heap.objs.size ≤ b) ∧ ∀ x c, X.env.cells.lookup x = some c → c ≠ b
/-- some objects stand as they stood in h0 -/
noncomputable def trk (X : Cx) (h0 : Heap) (fp : List Addr) (H : Hp) : Hp := fun b =>
  if b ∈ fp then some (.ext fun h => (∃ o, h0.get? b = some o ∧ h.get? b = some o) ∧ Side X b) else H b
/-- a zip object over two lists or two tuples, at its beginning -/
def ZSt (l : Bool) (h : Heap) (z : Addr) (fp : List Addr) (a b : Addr) : Prop := ∃ TI TO i1 i2, fp = [z, TI, TO, i1, i2] ∧ ZipApart z TI TO i1 i2 a b ∧
  (IsZip h z TI TO .none ∧ IsPair h TI (.ref i1) (.ref i2) ∧ (∃ x y, IsPair h TO x y) ∧ (if l = true then h.IsListIter i1 a 0 ∧ h.IsListIter i2 b 0 else h.IsTupleIter i1 a 0 ∧ h.IsTupleIter i2 b 0))
def ItzB (K : PySem.W.Frag) (l : Bool) (a b : Addr) : L2.It := if l = true then Itz K a b else RZ.ItzT K a b
theorem trk_in {X : Cx} {h0 : Heap} {fp : List Addr} {H : Hp} {b : Addr} (h : b ∈ fp) : trk X h0 fp H b = some (.ext fun h => (∃ o, h0.get? b = some o ∧ h.get? b = some o) ∧ Side X b) := by
  unfold trk; rw [if_pos h]
theorem trk_out {X : Cx} {h0 : Heap} {fp : List Addr} {H : Hp} {b : Addr} (h : b ∉ fp) : trk X h0 fp H b = H b := by
  unfold trk; rw [if_neg h]
theorem trk_of {X : Cx} {h0 : Heap} {fp : List Addr} {H : Hp} {b : Addr} {o : HO} (h : trk X h0 fp H b = some o) (hne : ∀ φ, o ≠ .ext φ) : b ∉ fp ∧ H b = some o := by
  by_cases hb : b ∈ fp
  · rw [trk_in hb] at h; cases h; exact absurd rfl (hne _)
  · rw [trk_out hb] at h; exact ⟨hb, h⟩
section
variable {X : Cx} {pins : List (Addr × Obj)} {σ : L2.St} {H H1 : Hp} {s : Shared} {h0 h' : Heap} {fp : List Addr}
/-- they are no longer looked at -/
theorem inv_untrk (I : Inv X pins σ (trk X h0 fp H1) s) (hn : ∀ c ∈ fp, H1 c = none) : Inv X pins σ H1 s := by
  have no : ∀ b, trk X h0 fp H1 b = none → H1 b = none := fun b e => by
    by_cases hb : b ∈ fp
    · exact hn b hb
    · rw [trk_out hb] at e; exact e
  have so : ∀ {b : Addr} {o : HO}, H1 b = some o → trk X h0 fp H1 b = some o := fun {b o} e => by
    rw [trk_out fun hb => by rw [hn b hb] at e; cases e]
    exact e
  refine ⟨I.ok, I.os, I.bare, ⟨I.base.keep, I.base.slot, fun b o e n x => no b (I.base.free b o e n x), I.base.there, fun b xs e => (trk_of (I.base.tups b xs e) (fun _ z => nomatch z)).2,
    fun b o u e => (trk_of (I.base.frzs b o u e) (fun _ z => nomatch z)).2, fun b ps e => ?_⟩, I.loc, I.cell, no _ I.free, fun x c e => no _ (I.freeC x c e), fun p hp => ?_, fun a o e => ?_, I.len⟩
  · obtain ⟨more, e2⟩ := I.base.tbls b ps e
    exact ⟨more, (trk_of e2 (fun _ z => nomatch z)).2⟩
  · obtain ⟨a1, a2, a3⟩ := I.pin p hp
    exact ⟨a1, no _ a2, a3⟩
  · exact (I.hok a o (so e)).stay (fun _ _ _ q => q) (fun b q => (trk_of q (fun _ z => nomatch z)).2) (fun b xs q => (trk_of q (fun _ z => nomatch z)).2)
/-- new objects are looked at -/
theorem inv_trk (I : Inv X pins σ H1 s) (J : Inv X pins σ H1 { s with heap := h' }) (hf : ∀ c ∈ fp, s.heap.objs.size ≤ c) (ho : ∀ c ∈ fp, ∃ o, h'.get? c = some o) : Inv X pins σ (trk X h' fp H1) { s with heap := h' } := by
  have hn : ∀ c ∈ fp, H1 c = none := fun c hc => I.hok.fresh (hf c hc)
  have out : ∀ {b : Addr}, b < s.heap.objs.size → b ∉ fp := fun {b} hl hb => absurd (Nat.lt_of_lt_of_le hl (hf b hb)) (Nat.lt_irrefl _)
  have so : ∀ {b : Addr} {o : HO}, H1 b = some o → trk X h' fp H1 b = some o := fun {b o} e => by
    rw [trk_out fun hb => by rw [hn b hb] at e; cases e]
    exact e
  have old : ∀ {b : Addr} {o : Obj}, X.s_0.heap.get? b = some o → b < s.heap.objs.size := fun {b o} e => Nat.lt_of_lt_of_le (Heap.lt_size e) I.sz
  refine ⟨J.ok, J.os, J.bare, ⟨J.base.keep, J.base.slot, fun b o e n x => by rw [trk_out (out (old e))]; exact J.base.free b o e n x, J.base.there, fun b xs e => so (J.base.tups b xs e),
    fun b o u e => so (J.base.frzs b o u e), fun b ps e => ?_⟩, J.loc, J.cell, by rw [trk_out (out I.lt)]; exact J.free, fun x c e => ?_, fun p hp => ?_, fun a o e => ?_, J.len⟩
  · obtain ⟨more, e2⟩ := J.base.tbls b ps e
    exact ⟨more, so e2⟩
  · obtain ⟨v, q⟩ := I.cell x c e
    rw [trk_out (out q.lt)]
    exact J.freeC x c e
  · obtain ⟨a1, _⟩ := I.pin p hp
    obtain ⟨b1, b2, b3⟩ := J.pin p hp
    exact ⟨b1, by rw [trk_out (out (Heap.lt_size a1))]; exact b2, b3⟩
  · by_cases ha : a ∈ fp
    · rw [trk_in ha] at e
      cases e
      obtain ⟨o, hoo⟩ := ho a ha
      obtain ⟨_, f1, f2, f3, f4, _⟩ := I.fpOk (H' := H1) (hf a ha) (hn a ha)
      refine ⟨⟨⟨o, hoo, hoo⟩, f1, f2, f3, f4⟩, ⟨o, hoo⟩, fun h1 h2 ⟨⟨o1, q1, q2⟩, sd⟩ k => ⟨⟨o1, q1, k o1 q2⟩, sd⟩⟩
    · rw [trk_out ha] at e
      exact (J.hok a o e).stay (fun _ _ _ q => q) (fun b q => so q) (fun b xs q => so q)
end
/-- zip(a, b), as a value -/
def tZipV (X : Cx) (ta : TA) : TE := fun σ H Q => ta σ H fun vs H1 => ∃ a b xs ys l, vs = [.ref a, .ref b] ∧ (if l = true then SqL X.K H1 a xs ∧ SqL X.K H1 b ys else SqT X.K H1 a xs ∧ SqT X.K H1 b ys) ∧
  ∀ z fp h0, (∀ c ∈ fp, H1 c = none) → ZSt l h0 z fp a b → Q (.ref z) (trk X h0 fp H1)
theorem pe_zipV {X : Cx} {e e2 : Expr} {ta : TA} {p pos : Pos} (hg : Gl X "zip") (hm : X.mg "zip" = none) (ha : PA X [e, e2] ta)
    (hs : starEach [e, e2] X.env = (false, eval e X.env) :: starEach [e2] X.env := by rfl) (hpl : (backTo pos (starEach [e2] X.env)).any (·.1) = false := by rfl) :
    PE X (.Call (.Name "zip" p) [e, e2] [] pos) (tZipV X ta) := by
  refine ⟨fun pins s σ H Q I h => ?_⟩
  refine Call_ (ld_blt I hg hm PyProof.Rows.boot_zip (PyProof.Rows.callWith_type1 (thn (ha.run pos pins s σ H _ I h) fun us s1 ⟨vs, H1, I1, r1, q1⟩ => ?_) hs hpl))
  obtain ⟨a, b, xs, ys, l, ex, hq, q⟩ := q1
  subst ex
  cases r1 with
  | cons r rr =>
    cases rr with
    | cons r' rr =>
      cases rr
      cases r
      cases r'
      have hf : ∀ c, c ∈ [s1.heap.objs.size + 4, s1.heap.objs.size + 2, s1.heap.objs.size + 3, s1.heap.objs.size, s1.heap.objs.size + 1] → s1.heap.objs.size ≤ c := fun c hcm => by
        have e' : c = s1.heap.objs.size + 4 ∨ c = s1.heap.objs.size + 2 ∨ c = s1.heap.objs.size + 3 ∨ c = s1.heap.objs.size ∨ c = s1.heap.objs.size + 1 := by simpa using hcm
        omega
      have fin : ∀ (h' : Heap) (o0 o1 o2 o3 o4 : Obj), h'.get? (s1.heap.objs.size + 4) = some o0 → h'.get? (s1.heap.objs.size + 2) = some o1 → h'.get? (s1.heap.objs.size + 3) = some o2 → h'.get? s1.heap.objs.size = some o3 → h'.get? (s1.heap.objs.size + 1) = some o4 →
          (∀ c o, s1.heap.get? c = some o → h'.get? c = some o) → ZSt l h' (s1.heap.objs.size + 4) [s1.heap.objs.size + 4, s1.heap.objs.size + 2, s1.heap.objs.size + 3, s1.heap.objs.size, s1.heap.objs.size + 1] a b → EP X pins σ Q (.ref (s1.heap.objs.size + 4)) { s1 with heap := h' } := fun h' o0 o1 o2 o3 o4 g0 g1 g2 g3 g4 hk hst => by
        have I2 : Inv X pins σ H1 { s1 with heap := h' } := I1.kept (t' := s1.toks) hk
        have hd : ∀ c, c ∈ [s1.heap.objs.size + 4, s1.heap.objs.size + 2, s1.heap.objs.size + 3, s1.heap.objs.size, s1.heap.objs.size + 1] → ∃ o, h'.get? c = some o := fun c hcm => by
          have e' : c = s1.heap.objs.size + 4 ∨ c = s1.heap.objs.size + 2 ∨ c = s1.heap.objs.size + 3 ∨ c = s1.heap.objs.size ∨ c = s1.heap.objs.size + 1 := by simpa using hcm
          rcases e' with z | z | z | z | z <;> subst z
          · exact ⟨_, g0⟩
          · exact ⟨_, g1⟩
          · exact ⟨_, g2⟩
          · exact ⟨_, g3⟩
          · exact ⟨_, g4⟩
        exact ⟨.ref (s1.heap.objs.size + 4), _, inv_trk I1 I2 hf hd, rfl, q _ _ h' (fun c hc => I1.hok.fresh (hf c hc)) hst⟩
      cases l with
      | false =>
        obtain ⟨hqx, hqy⟩ := (show SqT X.K H1 a xs ∧ SqT X.K H1 b ys from hq)
        obtain ⟨its, rv, p1, _⟩ := I1.tuple hqx
        obtain ⟨its2, rv2, p2, _⟩ := I1.tuple hqy
        obtain ⟨o1, ho1, _⟩ := id p1
        obtain ⟨o2, ho2, _⟩ := id p2
        refine RZ.call_zipT (show s1.heap.IsTuple a its.toArray from p1) (show s1.heap.IsTuple b its2.toArray from p2) fun h' hz hTI hTO h1 h2 hsz hk => ?_
        obtain ⟨w1, g1, _⟩ := id h1
        obtain ⟨w2, g2, _⟩ := id h2
        exact fin h' _ _ _ _ _ hz hTI hTO g1 g2 hk ⟨_, _, _, _, rfl, PySem.W.ktu_apart s1.heap.objs.size a b (Heap.lt_size ho1) (Heap.lt_size ho2), hz, hTI, ⟨_, _, hTO⟩, h1, h2⟩
      | true =>
        obtain ⟨hqx, hqy⟩ := (show SqL X.K H1 a xs ∧ SqL X.K H1 b ys from hq)
        obtain ⟨its, rv, p1, _⟩ := I1.list hqx
        obtain ⟨its2, rv2, p2, _⟩ := I1.list hqy
        refine call_zip_2 p1.isList p2.isList fun h' hz hTI hTO h1 h2 hsz hk => ?_
        obtain ⟨w1, g1, _⟩ := id h1
        obtain ⟨w2, g2, _⟩ := id h2
        exact fin h' _ _ _ _ _ hz hTI hTO g1 g2 hk ⟨_, _, _, _, rfl, PySem.W.ktu_apart s1.heap.objs.size a b p1.lt p2.lt, hz, hTI, ⟨_, _, hTO⟩, h1, h2⟩
/-- a name that holds such a zip object, walked -/
def tZipN (X : Cx) (i : Nat) : TI := fun σ H R => ∃ z fp h0 a b H1 l, σ[i]? = some (some (.ref z)) ∧ H = trk X h0 fp H1 ∧ (∀ c ∈ fp, H1 c = none) ∧ ZSt l h0 z fp a b ∧ R (ItzB X.K l a b) H1
theorem pi_zipN {X : Cx} {i : Nat} {y : Str} {p tpos : Pos} {elts : List Expr} {kk : Nat} (hN : X.N[i]? = some y) (hv : Vis X.env.scope y) (hd : (y == ("__debug__" : Str)) = false) (hcd : (y == ("__classdict__" : Str)) = false) :
    PI X (.Tuple elts kk tpos) (.Name y p) (tZipN X i) := by
  refine ⟨fun pins s σ H R I h => ?_⟩
  obtain ⟨z, fp, h0, a, b, H1, l, hi, rfl, hn, hst, q⟩ := h
  refine wpAny_mono ((pe_var (pos := p) hN hv hd hcd).run pins s σ _ (fun v H' => v = .ref z ∧ H' = trk X h0 fp H1) I ⟨_, hi, rfl, rfl⟩) (fun u s1 ⟨v, H', I1, r1, e1, e2⟩ => ?_) fun _ _ e => e
  subst e1 e2
  cases r1
  obtain ⟨TI, TO, i1, i2, rfl, D, hz, hTI, ⟨x, y', hTO⟩, hit⟩ := hst
  have at_ : ∀ c, c ∈ [z, TI, TO, i1, i2] → (∃ o, h0.get? c = some o ∧ s1.heap.get? c = some o) ∧ Side X c := fun c hc => (I1.hok c _ (trk_in hc)).1
  have kp : ∀ c, c ∈ [z, TI, TO, i1, i2] → ∀ o, h0.get? c = some o → s1.heap.get? c = some o := fun c hc o e => by
    obtain ⟨⟨o', e1, e2⟩, _⟩ := at_ c hc
    rw [e] at e1; cases e1; exact e2
  have hz' : IsZip s1.heap z TI TO .none := kp z (by simp) _ hz
  have fpk : ∀ c ∈ [z, TI, TO, i1, i2], FpOk X pins H1 c := fun c hc => by
    obtain ⟨_, s1', s2', s3', s4'⟩ := at_ c hc
    refine ⟨hn c hc, s1', s2', s3', s4', fun pp hp e => ?_⟩
    have := (I1.pin pp hp).2.1
    rw [e, trk_in hc] at this
    cases this
  cases l with
  | false =>
    obtain ⟨h1, h2⟩ := (show h0.IsTupleIter i1 a 0 ∧ h0.IsTupleIter i2 b 0 from hit)
    exact wpAny_pyIter_zip hz' ⟨z, [z, TI, TO, i1, i2], _, _, H1, rfl, inv_untrk I1 hn, RZ.turn_zipT D, ⟨hz', kp TI (by simp) _ hTI, ⟨x, y', kp TO (by simp) _ hTO⟩, h1.at fun o q => kp i1 (by simp) o q, h2.at fun o q => kp i2 (by simp) o q⟩, fpk, q⟩
  | true =>
    obtain ⟨h1, h2⟩ := (show h0.IsListIter i1 a 0 ∧ h0.IsListIter i2 b 0 from hit)
    exact wpAny_pyIter_zip hz' ⟨z, [z, TI, TO, i1, i2], _, _, H1, rfl, inv_untrk I1 hn, turn_zip D, ⟨hz', kp TI (by simp) _ hTI, ⟨x, y', kp TO (by simp) _ hTO⟩, h1.at fun o q => kp i1 (by simp) o q, h2.at fun o q => kp i2 (by simp) o q⟩, fpk, q⟩
end DB
set_option maxHeartbeats 4000000
namespace DB
open PySem PySem.Spec L2
section
variable {c : AC} {kn : Know} {k : Nat} {X : Cx}
theorem tE_mono {K : PySem.W.Frag} {e : E} {σ : L2.St} {H : Hp} {P Q : VK} (h : tE K e σ H P) (i : ∀ v H', P v H' → Q v H') : tE K e σ H Q := by
  obtain ⟨as, F, st, env, r, st', s, en, e1, af⟩ := h
  exact ⟨as, F, st, env, r, st', s, en, e1, fun v F' H' k x r f => i v H' (af v F' H' k x r f)⟩
theorem EnvOk.unk {K : PySem.W.Frag} {F : Hp} {as : List Addr} {σ : L2.St} {env : Env} (h : EnvOk K F as σ env) (i : Nat) (v : V) : EnvOk K F as (σ.set i (some v)) (env.set i none) := by
  refine ⟨by rw [List.length_set, List.length_set, h.len], fun j q hj => ?_⟩
  by_cases e : i = j
  · subst e
    by_cases hi : i < env.length
    · rw [List.getElem?_set_self hi] at hj
      cases hj
    · rw [List.getElem?_eq_none (by rw [List.length_set]; omega)] at hj
      cases hj
  · rw [List.getElem?_set_ne e] at hj
    rw [List.getElem?_set_ne e]
    exact h.get j q hj
def zrF (tg : Tg) (elt : E) (env : Env) : D → M D := fun d => evTg tg d (DB.wipe env tg.slots) >>= fun env' => evE elt env' >>= fun r => use r
theorem evSs_zr' {i : Nat} {a b : E} {tg : Tg} {elt : E} {env : Env} : evSs (.zr i a b tg elt) env = (M.guard (decide (i < env.length)) >>= fun _ => evE a env >>= fun x => evE b env >>= fun y => use x >>= fun p => use y >>= fun q => M.guard (isTupD p == isTupD q) >>= fun _ => itemsOf p >>= fun as => itemsOf q >>= fun bs => mapP (zrF tg elt (env.set i none)) (zipD as bs) >>= fun os => (pure (.rt (.dat (.tup os))) : M Flow)) := rfl
theorem zr_comp {tg : Tg} {elt : E} {env : Env} {s : Sto} : ∀ {l : List DB.D} {os : List DB.D}, seqO (l.map fun a => keep s (zrF tg elt env a s)) = some os → compM (compF tg .nil elt env) l s = .ok os s
  | [], os, h => by cases h; rfl
  | d :: l, os, h => by
    obtain ⟨a, os', h1, h2, rfl⟩ := seqO_cons h
    have h3 := keep_inv h1
    have ih := zr_comp h2
    obtain ⟨env', sa, ea, za⟩ := bind_inv (show (evTg tg d (DB.wipe env tg.slots) >>= fun env' => evE elt env' >>= fun r => use r) s = .ok a s from h3)
    obtain ⟨r, sb, eb, zb⟩ := bind_inv za
    have hc : compF tg .nil elt env d s = .ok (some a) s := by
      show (evTg tg d (DB.wipe env tg.slots) s).bind _ = _
      rw [ea]
      show (evE elt env' sa).bind _ = _
      rw [eb]
      show (use r sb).bind _ = _
      rw [zb]
      rfl
    show (compF tg .nil elt env d s).bind (fun o => match o with | some x => compM (compF tg .nil elt env) l >>= fun xs => (pure (x :: xs) : M (List DB.D)) | none => compM (compF tg .nil elt env) l) = _
    rw [hc]
    show (compM (compF tg .nil elt env) l s).bind (fun xs => (pure (a :: xs) : M (List DB.D))) = _
    rw [ih]
    rfl
theorem s_zr {i : Nat} {a b : E} {tg : Tg} {elt : E} {ss' : List Stmt} (x : SOk c kn k X) (hk : KnE kn a ∧ KnE kn b ∧ KnTg kn tg ∧ KnE kn elt) (h : agSs c (.zr i a b tg elt) ss' = true) : PSs X ss' (tSs X.K (.zr i a b tg elt)) := by
  have h0 : ∃ z, zrX ss' = some z ∧ agZr c i a b tg elt z = true := by
    have h : (match zrX ss' with | some z => agZr c i a b tg elt z | none => false) = true := by
      cases ss' <;> exact h
    cases q : zrX ss' with
    | none => rw [q] at h; cases h
    | some z => rw [q] at h; exact ⟨z, rfl, h⟩
  clear h
  obtain ⟨z, hz, h⟩ := h0
  obtain ⟨p1, p2, p3, pos, p4, p5, p6, p7, pos2, rfl⟩ := zrX_inv hz
  unfold agZr at h
  simp only [Bool.and_eq_true, decide_eq_true_eq] at h
  obtain ⟨h1, h2, hzn, h3, h4, h5, h6, h7, hy2, h8, h9, h10, htn, h11, h12, h13, h14, h15⟩ := h
  obtain ⟨y, zn, a', b', tn, elt', tg', y2, scope⟩ := z
  dsimp only at *
  subst hzn htn hy2
  obtain ⟨hka, hkb, hkt, hke⟩ := hk
  obtain ⟨l1, l2⟩ := x.toXOk.loc h2
  have hN : X.N[i]? = some y2 := by rw [x.N]; exact h1
  obtain ⟨g1, d1⟩ := x.toXOk.glb h3
  obtain ⟨g2, d2⟩ := x.toXOk.glb h11
  have hm1 : X.mg "zip" = none := free_of x.toXOk (by decide +kernel)
  have hm2 : X.mg "tuple" = none := free_of x.toXOk (by decide +kernel)
  have pz := pe_zipV (p := p2) (pos := p3) g1 hm1 (pa_cons (sE a c X a' x.toXOk hka h6) (pa_cons (sE b c X b' x.toXOk hkb h7) pa_nil (star_cons h5)) (star_cons h4)) (star_cons h4) (by rw [star_cons h5]; rfl)
  have q1 := ps_set (pos := pos) (pos' := p1) x.nd hN l1 pz (sw_false rfl) l2
  cases tg' with
  | Tuple elts kk tpos =>
    have pl := pe_lc (X := X) (elt := elt') (tg := .Tuple elts kk tpos) (iter := .Name y2 p5) (ifs := []) (pos := p6) (g := tTg X.K tg) (tt := tTAnd X.K .nil) (te := tE X.K elt) x.calm x.nd (pi_zipN (p := p5) hN (x.toXOk.vis h8) (by simpa using h9) (by simpa using h10)) (blkOk_by (N := X.N) (sc := X.env.scope) (by rw [x.N, x.sc]; exact h13))
      (fun s H C cl fp => sTg tg (c.sub scope) _ _ (x.toXOk.blk s H C cl fp) hkt h14) (fun s H C cl fp => sC .nil (c.sub scope) _ [] (x.toXOk.blk s H C cl fp) trivial rfl) (fun s H C cl fp => sE elt (c.sub scope) _ elt' (x.toXOk.blk s H C cl fp) hke h15) (fun z => fold_of rfl z)
    rw [own_map] at pl
    have q2 := ps_ret (pos := pos2) (pe_callTy (p := p4) (pos := p7) (call_bi (X := X) (b := .tuple) x.calm) g2 hm2 (by decide +kernel) (pa_cons pl pa_nil (star_cons rfl)) (by decide +kernel) d2 (star_cons rfl) (by rfl))
    refine PSs.imp (pss_cons q1 (pss_one q2)) fun D σ H hh => ?_
    obtain ⟨as, F, st, env, fl, st', s, en, ee, af⟩ := hh
    rw [evSs_zr'] at ee
    obtain ⟨_, t0, e0, z0⟩ := bind_inv ee
    obtain ⟨g0, e00⟩ := guard_inv e0
    rw [e00] at z0
    obtain ⟨ra, t1, e1, z1⟩ := bind_inv z0
    obtain ⟨rb, t2, e2, z2⟩ := bind_inv z1
    obtain ⟨dp, t3, e3, z3⟩ := bind_inv z2
    obtain ⟨dq, t4, e4, z4⟩ := bind_inv z3
    obtain ⟨_, t5, e5, z5⟩ := bind_inv z4
    obtain ⟨ds1, t6, e6, z6⟩ := bind_inv z5
    obtain ⟨ds2, t7, e7, z7⟩ := bind_inv z6
    obtain ⟨os, t8, e8, z8⟩ := bind_inv z7
    obtain ⟨rfl, rfl⟩ := pure_inv z8
    obtain ⟨rfl, e8⟩ := mapP_inv e8
    have ei : evIt (.zip a b) env st = .ok (zipD ds1 ds2) st' := by
      show (evE a env st).bind _ = _
      rw [e1]
      show (evE b env t1).bind _ = _
      rw [e2]
      show (use ra t2).bind _ = _
      rw [e3]
      show (use rb t3).bind _ = _
      rw [e4]
      show (M.guard (isTupD dp == isTupD dq) t4).bind _ = _
      rw [e5]
      show (itemsOf dp t5).bind _ = _
      rw [e6]
      show (itemsOf dq t6).bind _ = _
      rw [e7]
      rfl
    have ec := zr_comp e8
    have hr := zip_run (X := X) (a := a) (b := b) (σ := σ) (H := H) (R' := fun J H1 => ∃ F1, StOk X.K F1 H1 as st' ∧ Ext [] as F H st as F1 H1 st' ∧ Yl X.K J F1 (zipD ds1 ds2) ∧ (zipD ds1 ds2).length ≤ sizeLine)
      ⟨as, F, st, env, zipD ds1 ds2, st', s, en, ei, fun J F1 H1 k1 x1 yl hl => ⟨F1, k1, x1, yl, hl⟩⟩
    have fin : ∀ (l : Bool) (H1 : Hp) (aa bb : Addr), (∃ F1, StOk X.K F1 H1 as st' ∧ Ext [] as F H st as F1 H1 st' ∧ Yl X.K (ItzB X.K l aa bb) F1 (zipD ds1 ds2) ∧ (zipD ds1 ds2).length ≤ sizeLine) →
        ∀ zz fp h0, (∀ cc ∈ fp, H1 cc = none) → ZSt l h0 zz fp aa bb → tRet (tCB (rBi X.K .tuple) (tCons (tLc (tZipN X i) (tTg X.K tg) (tTAnd X.K .nil) (tE X.K elt) tg.slots) tNil)) D (σ.set i (some (.ref zz))) (trk X h0 fp H1) := by
      intro l H1 aa bb ⟨F1, k1, x1, yl, hl⟩ zz fp h0 hn hst
      show tLc (tZipN X i) (tTg X.K tg) (tTAnd X.K .nil) (tE X.K elt) tg.slots (σ.set i (some (.ref zz))) (trk X h0 fp H1) (fun v H3 => rBi X.K .tuple [v] H3 D.rt)
      refine comp_gen (H := H1) k1 ((en.ext x1).unk i (.ref zz)) (fun R hR => ⟨zz, fp, h0, aa, bb, H1, l, ?_, rfl, hn, hst, hR _ F1 H1 k1 .refl yl hl⟩) ec fun v F' H' k' x' r' f' => ?_
      · have : i < σ.length := by
          rw [← en.len]
          exact of_decide_eq_true g0
        exact List.getElem?_set_self this
      · obtain ⟨_, v1⟩ := peeks_ok k' (.cons r' .nil (fun _ _ z => nomatch z)) (show peeks [.own (.lst os)] st' = .ok [.lst os] st' from rfl)
        refine ⟨as, F', st', [.lst os], .dat (.tup os), st', k', v1, rfl, fun v2 F2 H2 k2 x2 r2 f2 => ?_⟩
        have x12 := x1.trans s.len k1.len x'
        exact af as F2 H2 k2 (x12.trans s.len k'.len x2) v2 r2 (Fresh.back x12 f2)
    refine tE_mono hr fun v Hv hv => tE_mono hv fun w Hw hw => ?_
    obtain ⟨aa, bb, xs, ys, ex, hq⟩ := hw
    rcases hq with ⟨u1, u2, hR⟩ | ⟨u1, u2, hR⟩
    · exact ⟨aa, bb, xs, ys, true, ex, ⟨u1, u2⟩, fun zz fp h0 hn hst => fin true Hw aa bb hR zz fp h0 hn hst⟩
    · exact ⟨aa, bb, xs, ys, false, ex, ⟨u1, u2⟩, fun zz fp h0 hn hst => fin false Hw aa bb hR zz fp h0 hn hst⟩
  | _ => exact absurd h12 Bool.false_ne_true
end
end DB
set_option maxHeartbeats 4000000
namespace DB
open PySem PySem.Spec L2
section
variable {K : PySem.W.Frag} {F F' H H' : Hp} {ex as as' : List Addr} {st st' : Sto}
theorem StOk.cut {new : List Addr} (k : StOk K F H (as ++ new) st) : StOk K F H as (st.take as.length) := by
  have hl := k.len
  rw [List.length_append] at hl
  refine ⟨k.sub, by rw [List.length_take]; omega, fun c a d h1 h2 => ?_, fun c a d h1 h2 => ?_⟩
  · have hc := (List.getElem?_eq_some_iff.mp h1).1
    rw [List.getElem?_take_of_lt hc] at h2
    obtain ⟨f, c1, u⟩ := k.live c a d (by rw [List.getElem?_append_left hc]; exact h1) h2
    exact ⟨f, c1, fun c' h' => u c' (by rw [List.getElem?_append_left (List.getElem?_eq_some_iff.mp h').1]; exact h')⟩
  · have hc := (List.getElem?_eq_some_iff.mp h1).1
    rw [List.getElem?_take_of_lt hc] at h2
    exact k.froz c a d (by rw [List.getElem?_append_left hc]; exact h1) h2
theorem EnvOk.forget {σ : L2.St} {env : Env} (h : EnvOk K F as σ env) (is : List Nat) : EnvOk K F as σ (DB.wipe env is) := by
  induction is with
  | nil => exact h
  | cons i is ih =>
    refine ⟨?_, fun j r hj => ?_⟩
    · show ((DB.wipe env is).set i none).length = _
      rw [List.length_set]
      exact ih.len
    · have hj : ((DB.wipe env is).set i none)[j]? = some (some r) := hj
      by_cases hij : i = j
      · subst hij
        rw [List.getElem?_set] at hj
        rw [if_pos rfl] at hj
        split at hj <;> cases hj
      · rw [List.getElem?_set_ne hij] at hj
        exact ih.get j r hj
theorem below_get : ∀ {n : Nat} {env : Env}, below n env = true → ∀ (i c : Nat), env[i]? = some (some (.cell c)) → c < n
  | n, [], _, i, c, hi => by simp at hi
  | n, none :: e, h, i, c, hi => by
    cases i with
    | zero => cases hi
    | succ i => exact below_get (show below n e = true from h) i c hi
  | n, some (.cell k) :: e, h, i, c, hi => by
    have h := b2 (show (decide (k < n) && below n e) = true from h)
    cases i with
    | zero => cases hi; exact of_decide_eq_true h.1
    | succ i => exact below_get h.2 i c hi
  | n, some (.dat _) :: e, h, i, c, hi => by
    cases i with
    | zero => cases hi
    | succ i => exact below_get (show below n e = true from h) i c hi
  | n, some (.own _) :: e, h, i, c, hi => absurd h Bool.false_ne_true
/-- a turn's end: the state behind it -/
theorem trim_aft {σ : L2.St} {env : Env} {ws : List Nat} (hl : as.length = st.length) (k : StOk K F' H' as' st') (x : Ext [] as F H st as' F' H' st') (en : EnvOk K F' as' σ env) :
    ∃ as2, StOk K F' H' as2 (match below st.length (DB.wipe env ws) with | true => st'.take st.length | false => st') ∧ EnvOk K F' as2 σ (DB.wipe env ws) ∧ Ext [] as F H st as2 F' H' (match below st.length (DB.wipe env ws) with | true => st'.take st.length | false => st') := by
  cases q : below st.length (DB.wipe env ws) with
  | false => exact ⟨as', k, en.forget ws, x⟩
  | true =>
    obtain ⟨new, rfl, hn⟩ := x.pre
    have kc := k.cut
    rw [hl] at kc
    refine ⟨as, kc, ⟨(en.forget ws).len, fun i r hi => ?_⟩, ⟨⟨[], by simp, fun _ z => nomatch z⟩, x.f, x.k, x.h, fun c d hc h => ?_, ?_⟩⟩
    · obtain ⟨v, hv, hh⟩ := (en.forget ws).get i r hi
      refine ⟨v, hv, ?_⟩
      rcases hh with hh | ⟨c, a, rfl, rfl, hc⟩
      · exact .inl hh
      · have := below_get q i c hi
        rw [List.getElem?_append_left (by omega)] at hc
        exact .inr ⟨c, a, rfl, rfl, hc⟩
    · have h : (st'.take st.length)[c]? = some ⟨d, true⟩ := h
      rw [List.getElem?_take_of_lt hc] at h
      exact x.l c d hc h
    · show st.length ≤ (st'.take st.length).length
      rw [List.length_take]
      have := x.g
      omega
end
theorem trim_inv {n : Nat} {ws : List Nat} {f0 f1 : Flow} {s0 s1 : Sto} (h : trim n ws f0 s0 = .ok f1 s1) : (∃ e, f0 = .nx e ∧ f1 = .nx (DB.wipe e ws) ∧ s1 = (match below n (DB.wipe e ws) with | true => s0.take n | false => s0)) ∨
    (∃ e, f0 = .ct e ∧ f1 = .ct (DB.wipe e ws) ∧ s1 = (match below n (DB.wipe e ws) with | true => s0.take n | false => s0)) ∨
    (∃ e, f0 = .bk e ∧ f1 = .bk (DB.wipe e ws) ∧ s1 = (match below n (DB.wipe e ws) with | true => s0.take n | false => s0)) ∨ ∃ r, f0 = .rt r ∧ f1 = .rt r ∧ s1 = s0 := by
  cases f0 with
  | nx e => cases h; exact .inl ⟨e, rfl, rfl, rfl⟩
  | ct e => cases h; exact .inr (.inl ⟨e, rfl, rfl, rfl⟩)
  | bk e => cases h; exact .inr (.inr (.inl ⟨e, rfl, rfl, rfl⟩))
  | rt r => cases h; exact .inr (.inr (.inr ⟨r, rfl, rfl, rfl⟩))
section
variable {c : AC} {kn : Know} {k : Nat} {X : Cx}
theorem s_ex {e : E} {s' : Stmt} (x : SOk c kn k X) (hk : KnE kn e) (h : agS c (.ex e) s' = true) : PS X s' (tS X.K (.ex e)) := by
  cases s' with
  | Expr e' pos =>
    obtain ⟨h1, h2⟩ := b2 (show (notCompX e' && agE c e e') = true from h)
    refine PS.imp (ps_expr (sE e c X e' x.toXOk hk h2) (sw_false h1)) fun D σ H hh => ?_
    obtain ⟨as, F, st, env, fl, st', s, en, ee, af⟩ := hh
    obtain ⟨r, s1, e1, z1⟩ := bind_inv (show (evE e env >>= fun _ => (pure (Flow.nx env) : M Flow)) st = .ok fl st' from ee)
    obtain ⟨rfl, rfl⟩ := pure_inv z1
    exact ⟨as, F, st, env, r, st', s, en, e1, fun v F1 H1 k1 x1 r1 f1 => af as F1 H1 k1 x1 σ (en.ext x1)⟩
  | _ => exact absurd h Bool.false_ne_true
theorem s_ret {e : E} {s' : Stmt} (x : SOk c kn k X) (hk : KnE kn e) (h : agS c (.ret e) s' = true) : PS X s' (tS X.K (.ret e)) := by
  cases s' with
  | Return o pos =>
    cases o with
    | none => exact absurd h Bool.false_ne_true
    | some e' =>
      refine PS.imp (ps_ret (sE e c X e' x.toXOk hk h)) fun D σ H hh => ?_
      obtain ⟨as, F, st, env, fl, st', s, en, ee, af⟩ := hh
      obtain ⟨r, s1, e1, z1⟩ := bind_inv (show (evE e env >>= fun r => (pure (Flow.rt r) : M Flow)) st = .ok fl st' from ee)
      obtain ⟨rfl, rfl⟩ := pure_inv z1
      exact ⟨as, F, st, env, r, st', s, en, e1, fun v F1 H1 k1 x1 r1 f1 => af as F1 H1 k1 x1 v r1 f1⟩
  | _ => exact absurd h Bool.false_ne_true
theorem s_retN {s' : Stmt} (x : SOk c kn k X) (h : agS c .retN s' = true) : PS X s' (tS X.K .retN) := by
  cases s' with
  | Return o pos =>
    cases o with
    | some _ => exact absurd h Bool.false_ne_true
    | none =>
      refine PS.imp ps_retN fun D σ H hh => ?_
      obtain ⟨as, F, st, env, fl, st', s, en, ee, af⟩ := hh
      obtain ⟨rfl, rfl⟩ := pure_inv (show (pure (Flow.rt (.dat .non)) : M Flow) st = .ok fl st' from ee)
      exact af as F H s .refl .non (.dat .non) trivial
  | _ => exact absurd h Bool.false_ne_true
theorem s_pass {s' : Stmt} (x : SOk c kn k X) (h : agS c .pass s' = true) : PS X s' (tS X.K .pass) := by
  have key : ∀ D σ H, tS X.K .pass D σ H → tNext D σ H := fun D σ H hh => by
    obtain ⟨as, F, st, env, fl, st', s, en, ee, af⟩ := hh
    obtain ⟨rfl, rfl⟩ := pure_inv (show (pure (Flow.nx env) : M Flow) st = .ok fl st' from ee)
    exact af as F H s .refl σ en
  cases s' with
  | Pass pos => exact PS.imp ps_pass key
  | Expr e pos =>
    cases e with
    | Constant v j p =>
      cases v with
      | str z => exact PS.imp ps_doc key
      | _ => exact absurd h Bool.false_ne_true
    | _ => exact absurd h Bool.false_ne_true
  | _ => exact absurd h Bool.false_ne_true
theorem s_brk {s' : Stmt} (x : SOk c kn k X) (h : agS c .brk s' = true) : PS X s' (tS X.K .brk) := by
  cases s' with
  | Break pos =>
    refine PS.imp ps_break fun D σ H hh => ?_
    obtain ⟨as, F, st, env, fl, st', s, en, ee, af⟩ := hh
    obtain ⟨rfl, rfl⟩ := pure_inv (show (pure (Flow.bk env) : M Flow) st = .ok fl st' from ee)
    exact af as F H s .refl σ en
  | _ => exact absurd h Bool.false_ne_true
theorem s_cont {s' : Stmt} (x : SOk c kn k X) (h : agS c .cont s' = true) : PS X s' (tS X.K .cont) := by
  cases s' with
  | Continue pos =>
    refine PS.imp ps_continue fun D σ H hh => ?_
    obtain ⟨as, F, st, env, fl, st', s, en, ee, af⟩ := hh
    obtain ⟨rfl, rfl⟩ := pure_inv (show (pure (Flow.ct env) : M Flow) st = .ok fl st' from ee)
    exact af as F H s .refl σ en
  | _ => exact absurd h Bool.false_ne_true
theorem s_rai {s' : Stmt} : PS X s' (tS X.K .rai) := PS.imp ps_never fun D σ H hh => by
  obtain ⟨as, F, st, env, fl, st', s, en, ee, af⟩ := hh
  exact (no_inv ee).elim
theorem FlQ.back {K : PySem.W.Frag} {D : Ends} {H H1 : Hp} {ex as as1 as' : List Addr} {F F1 F' H' : Hp} {st st1 : Sto} {fl : Flow} (e : Ext ex as F H st as1 F1 H1 st1) (h : FlQ K D H as' F' H' fl) : FlQ K D H1 as' F' H' fl := by
  cases fl with
  | rt r => exact fun v r1 f1 => h v r1 (Fresh.back e f1)
  | _ => exact h
theorem s_iff {t : T} {a b : Ss} {s' : Stmt} (x : SOk c kn k X) (hk : KnT kn t) (h : agS c (.iff t a b) s' = true) (ha : ∀ a', agSs c a a' = true → PSs X a' (tSs X.K a)) (hb : ∀ b', agSs c b b' = true → PSs X b' (tSs X.K b)) : PS X s' (tS X.K (.iff t a b)) := by
  cases s' with
  | If t' a' b' pos =>
    obtain ⟨h1, h⟩ := b2 (show (agT c t t' && (agSs c a a' && agSs c b b')) = true from h)
    obtain ⟨h2, h3⟩ := b2 h
    refine PS.imp (ps_if (sT t c X t' x.toXOk hk h1) (ha a' h2) (hb b' h3)) fun D σ H hh => ?_
    obtain ⟨as, F, st, env, fl, st', s, en, ee, af⟩ := hh
    obtain ⟨d, s1, e1, z1⟩ := bind_inv (show (evT t env >>= fun d => if d then evSs a env else evSs b env) st = .ok fl st' from ee)
    refine ⟨as, F, st, env, d, s1, s, en, e1, fun F1 H1 k1 x1 => ?_⟩
    cases d with
    | true => exact iteT ⟨as, F1, s1, env, fl, st', k1, en.ext x1, z1, fun as' F2 H2 k2 x2 => (af as' F2 H2 k2 (x1.trans s.len k1.len x2)).back x1⟩
    | false => exact iteF ⟨as, F1, s1, env, fl, st', k1, en.ext x1, z1, fun as' F2 H2 k2 x2 => (af as' F2 H2 k2 (x1.trans s.len k1.len x2)).back x1⟩
  | _ => exact absurd h Bool.false_ne_true
theorem s_Ss_nil : PSs X [] (tSs X.K .nil) := PSs.imp pss_nil fun D σ H hh => by
  obtain ⟨as, F, st, env, fl, st', s, en, ee, af⟩ := hh
  obtain ⟨rfl, rfl⟩ := pure_inv (show (pure (Flow.nx env) : M Flow) st = .ok fl st' from ee)
  exact af as F H s .refl σ en
theorem s_Ss_cons {s0 : S} {ss : Ss} {s' : Stmt} {ss' : List Stmt} (h1 : PS X s' (tS X.K s0)) (h2 : PSs X ss' (tSs X.K ss)) : PSs X (s' :: ss') (tSs X.K (.cons s0 ss)) := PSs.imp (pss_cons h1 h2) fun D σ H hh => by
  obtain ⟨as, F, st, env, fl, st', s, en, ee, af⟩ := hh
  obtain ⟨f1, s1, e1, z1⟩ := bind_inv (show (evS s0 env >>= fun f => match f with | .nx e => evSs ss e | f => pure f) st = .ok fl st' from ee)
  refine ⟨as, F, st, env, f1, s1, s, en, e1, fun as1 F1 H1 k1 x1 => ?_⟩
  cases f1 with
  | nx env1 => exact fun σ1 en1 => ⟨as1, F1, s1, env1, fl, st', k1, en1, z1, fun as2 F2 H2 k2 x2 => (af as2 F2 H2 k2 (x1.trans s.len k1.len x2)).back x1⟩
  | rt r =>
    obtain ⟨rfl, rfl⟩ := pure_inv (show (pure (Flow.rt r) : M Flow) s1 = .ok fl st' from z1)
    exact af as1 F1 H1 k1 x1
  | bk r =>
    obtain ⟨rfl, rfl⟩ := pure_inv (show (pure (Flow.bk r) : M Flow) s1 = .ok fl st' from z1)
    exact af as1 F1 H1 k1 x1
  | ct r =>
    obtain ⟨rfl, rfl⟩ := pure_inv (show (pure (Flow.ct r) : M Flow) s1 = .ok fl st' from z1)
    exact af as1 F1 H1 k1 x1
/-- after a turn's body -/
def aftM (g : Env → M Flow) : Flow → M Flow
  | .nx e => g e
  | .ct e => g e
  | .bk e => pure (.nx e)
  | .rt r => pure (.rt r)
theorem forM_consS {f : DB.D → Env → M Flow} {d : DB.D} {ds : List DB.D} {env : Env} : forM f (d :: ds) env = (f d env >>= fun x => aftM (forM f ds) x) := by
  show (f d env >>= fun x => match x with | .nx e => forM f ds e | .ct e => forM f ds e | .bk e => pure (.nx e) | .rt r => pure (.rt r)) = _
  congr 1
theorem whM_succS {cd : Env → M Bool} {f : Env → M Flow} {n : Nat} {env : Env} : whM cd f (n + 1) env = (cd env >>= fun b => if b then (f env >>= fun x => aftM (whM cd f n) x) else pure (.nx env)) := by
  show (cd env >>= fun b => if b then (f env >>= fun x => match x with | .nx e => whM cd f n e | .ct e => whM cd f n e | .bk e => pure (.nx e) | .rt r => pure (.rt r)) else pure (.nx env)) = _
  congr 1
theorem s_for {ws : List Nat} {tg : Tg} {it : It} {body : Ss} {s' : Stmt} (x : SOk c kn k X) (hk : KnTg kn tg ∧ KnIt kn it) (h : agS c (.for ws tg it body) s' = true) (hb : ∀ b', agSs c body b' = true → PSs X b' (tSs X.K body)) : PS X s' (tS X.K (.for ws tg it body)) := by
  cases s' with
  | For tg' it' body' els pos =>
    cases els with
    | cons _ _ => exact absurd h Bool.false_ne_true
    | nil =>
    obtain ⟨h1, h⟩ := b2 (show (agIt c tg' it it' && (notSet it' && (agTg c tg tg' && agSs c body body'))) = true from h)
    obtain ⟨h2, h⟩ := b2 h
    obtain ⟨h3, h4⟩ := b2 h
    refine PS.imp (ps_for x.own x.calm (sIt it c X tg' it' x.toXOk hk.2 h1) (sTg tg c X tg' x.toXOk hk.1 h3) (hb body' h4) (fun z => fold_of h2 z)) fun D σ H hh => ?_
    obtain ⟨as, F, st, env, fl, st', s, en, ee, af⟩ := hh
    obtain ⟨ds, s1, e1, z1⟩ := bind_inv (show (evIt it env >>= fun ds => fun s => forM (fun d env => evTg tg d env >>= fun env' => evSs body env' >>= fun fl => trim s.length ws fl) ds (DB.wipe env ws) s) st = .ok fl st' from ee)
    have z1 : forM (fun d env => evTg tg d env >>= fun env' => evSs body env' >>= fun fl => trim s1.length ws fl) ds (DB.wipe env ws) s1 = .ok fl st' := z1
    refine ⟨as, F, st, env, ds, s1, s, en, e1, fun J F1 H1 k1 x1 yl hl => ?_⟩
    refine ⟨fun i m σ' H' => m = ds.length - i ∧ i ≤ ds.length ∧ ∃ asi F' sti envi, StOk X.K F' H' asi sti ∧ EnvOk X.K F' asi σ' envi ∧ Ext [] as F1 H1 s1 asi F' H' sti ∧ forM (fun d env => evTg tg d env >>= fun env' => evSs body env' >>= fun fl => trim s1.length ws fl) (ds.drop i) envi sti = .ok fl st',
      ⟨ds.length, by simp, Nat.zero_le _, as, F1, s1, DB.wipe env ws, k1, (en.ext x1).forget ws, .refl, by rw [List.drop_zero]; exact z1⟩, ?_⟩
    rintro i m σ' H' ⟨rfl, hi, asi, F', sti, envi, k', en', x', ec⟩
    obtain ⟨y1, y2⟩ := yl i F' H' asi sti x'.f k'
    by_cases hlt : i < ds.length
    · obtain ⟨d, hd⟩ : ∃ d, ds[i]? = some d := ⟨_, List.getElem?_eq_getElem hlt⟩
      obtain ⟨go, yy⟩ := y2 d hd
      have hdrop : ds.drop i = d :: ds.drop (i + 1) := by
        rw [List.drop_eq_getElem_cons hlt]
        rw [List.getElem?_eq_getElem hlt] at hd
        rw [Option.some.inj hd]
      rw [hdrop, forM_consS] at ec
      obtain ⟨f1, sa, ea, za⟩ := bind_inv ec
      obtain ⟨env', sb, eb, zb⟩ := bind_inv ea
      obtain ⟨f0, s0, e0, zt⟩ := bind_inv zb
      refine .inr ⟨go, fun σ'' H'' => ∃ asn F'' stn envn, StOk X.K F'' H'' asn stn ∧ EnvOk X.K F'' asn σ'' envn ∧ Ext [] as F1 H1 s1 asn F'' H'' stn ∧ forM (fun d env => evTg tg d env >>= fun env' => evSs body env' >>= fun fl => trim s1.length ws fl) (ds.drop (i + 1)) envn stn = .ok fl st',
        fun σ'' H'' q => ⟨ds.length - (i + 1), by omega, rfl, hlt, q⟩, fun w H2 hy => ?_⟩
      obtain ⟨F2, k2, x2, dw⟩ := yy w H2 hy
      have x12 : Ext [] as F1 H1 s1 asi F2 H2 sti := x'.trans k1.len k'.len x2
      refine ⟨asi, F2, sti, envi, d, env', sb, k2, en'.ext x2, dw, eb, fun σ3 F3 H3 k3 x3 en3 w3 => ?_⟩
      have x13 := x12.trans k1.len k2.len x3
      refine ⟨asi, F3, sb, env', f0, s0, k3, en3, e0, fun as4 F4 H4 k4 x4 => ?_⟩
      have x14 := x13.trans k1.len k3.len x4
      rcases trim_inv zt with ⟨e4, rfl, rfl, rfl⟩ | ⟨e4, rfl, rfl, rfl⟩ | ⟨e4, rfl, rfl, rfl⟩ | ⟨r, rfl, rfl, rfl⟩
      · intro σ4 en4
        obtain ⟨as5, k5, en5, x5⟩ := trim_aft (ws := ws) k1.len k4 x14 en4
        exact ⟨as5, F4, _, _, k5, en5, x5, za⟩
      · intro σ4 en4
        obtain ⟨as5, k5, en5, x5⟩ := trim_aft (ws := ws) k1.len k4 x14 en4
        exact ⟨as5, F4, _, _, k5, en5, x5, za⟩
      · intro σ4 en4
        obtain ⟨as5, k5, en5, x5⟩ := trim_aft (ws := ws) k1.len k4 x14 en4
        obtain ⟨rfl, rfl⟩ := pure_inv (show (pure (Flow.nx (DB.wipe e4 ws)) : M Flow) _ = .ok fl st' from za)
        exact af as5 F4 H4 k5 (x1.trans s.len k1.len x5) σ4 en5
      · obtain ⟨rfl, rfl⟩ := pure_inv (show (pure (Flow.rt r) : M Flow) _ = .ok fl st' from za)
        exact fun v r4 f4 => af as4 F4 H4 k4 (x1.trans s.len k1.len x14) v r4 (Fresh.back (x1.trans s.len k1.len x13) f4)
    · have hi' : i = ds.length := by omega
      refine .inl ⟨y1 hi', ?_⟩
      rw [List.drop_eq_nil_of_le (by omega)] at ec
      obtain ⟨rfl, rfl⟩ := pure_inv (show (pure (Flow.nx envi) : M Flow) sti = .ok fl st' from ec)
      exact af asi F' H' k' (x1.trans s.len k1.len x') σ' en'
  | _ => exact absurd h Bool.false_ne_true
theorem s_whl {ws : List Nat} {n : Nat} {t : T} {body : Ss} {s' : Stmt} (x : SOk c kn k X) (hk : KnT kn t) (h : agS c (.whl ws n t body) s' = true) (hb : ∀ b', agSs c body b' = true → PSs X b' (tSs X.K body)) : PS X s' (tS X.K (.whl ws n t body)) := by
  cases s' with
  | While t' body' els pos =>
    cases els with
    | cons _ _ => exact absurd h Bool.false_ne_true
    | nil =>
    obtain ⟨h1, h2⟩ := b2 (show (agT c t t' && agSs c body body') = true from h)
    refine PS.imp (ps_while x.own (sT t c X t' x.toXOk hk h1) (hb body' h2)) fun D σ H hh => ?_
    obtain ⟨as, F, st, env, fl, st', s, en, ee, af⟩ := hh
    have ee : whM (fun env => evT t env) (fun env => evSs body env >>= fun fl => trim st.length ws fl) n (DB.wipe env ws) st = .ok fl st' := ee
    refine ⟨fun m σ' H' => ∃ asi F' sti envi, StOk X.K F' H' asi sti ∧ EnvOk X.K F' asi σ' envi ∧ Ext [] as F H st asi F' H' sti ∧ whM (fun env => evT t env) (fun env => evSs body env >>= fun fl => trim st.length ws fl) m envi sti = .ok fl st',
      ⟨n, as, F, st, DB.wipe env ws, s, en.forget ws, .refl, ee⟩, ?_⟩
    rintro m σ' H' ⟨asi, F', sti, envi, k', en', x', ec⟩
    cases m with
    | zero => exact (no_inv ec).elim
    | succ m =>
      rw [whM_succS] at ec
      obtain ⟨b, s1, e1, z1⟩ := bind_inv ec
      refine ⟨asi, F', sti, envi, b, s1, k', en', e1, fun F1 H1 k1 x1 => ?_⟩
      have x11 := x'.trans s.len k'.len x1
      cases b with
      | false =>
        obtain ⟨rfl, rfl⟩ := pure_inv (show (pure (Flow.nx envi) : M Flow) s1 = .ok fl st' from z1)
        exact iteF (af asi F1 H1 k1 x11 σ' (en'.ext x1))
      | true =>
        refine iteT ⟨fun σ'' H'' => ∃ asn F'' stn envn, StOk X.K F'' H'' asn stn ∧ EnvOk X.K F'' asn σ'' envn ∧ Ext [] as F H st asn F'' H'' stn ∧ whM (fun env => evT t env) (fun env => evSs body env >>= fun fl => trim st.length ws fl) m envn stn = .ok fl st',
          fun σ'' H'' q => ⟨m, Nat.lt_succ_self m, q⟩, ?_⟩
        obtain ⟨f1, sa, ea, za⟩ := bind_inv (show ((evSs body envi >>= fun fl => trim st.length ws fl) >>= fun x => aftM (whM (fun env => evT t env) (fun env => evSs body env >>= fun fl => trim st.length ws fl) m) x) s1 = .ok fl st' from z1)
        obtain ⟨f0, s0, e0, zt⟩ := bind_inv ea
        refine ⟨asi, F1, s1, envi, f0, s0, k1, en'.ext x1, e0, fun as4 F4 H4 k4 x4 => ?_⟩
        have x14 := x11.trans s.len k1.len x4
        rcases trim_inv zt with ⟨e4, rfl, rfl, rfl⟩ | ⟨e4, rfl, rfl, rfl⟩ | ⟨e4, rfl, rfl, rfl⟩ | ⟨r, rfl, rfl, rfl⟩
        · intro σ4 en4
          obtain ⟨as5, k5, en5, x5⟩ := trim_aft (ws := ws) s.len k4 x14 en4
          exact ⟨as5, F4, _, _, k5, en5, x5, za⟩
        · intro σ4 en4
          obtain ⟨as5, k5, en5, x5⟩ := trim_aft (ws := ws) s.len k4 x14 en4
          exact ⟨as5, F4, _, _, k5, en5, x5, za⟩
        · intro σ4 en4
          obtain ⟨as5, k5, en5, x5⟩ := trim_aft (ws := ws) s.len k4 x14 en4
          obtain ⟨rfl, rfl⟩ := pure_inv (show (pure (Flow.nx (DB.wipe e4 ws)) : M Flow) _ = .ok fl st' from za)
          exact af as5 F4 H4 k5 x5 σ4 en5
        · obtain ⟨rfl, rfl⟩ := pure_inv (show (pure (Flow.rt r) : M Flow) _ = .ok fl st' from za)
          exact fun v r4 f4 => af as4 F4 H4 k4 x14 v r4 (Fresh.back x11 f4)
  | _ => exact absurd h Bool.false_ne_true
mutual
theorem sS : ∀ (s0 : S) (s' : Stmt), SOk c kn k X → KnS kn s0 → agS c s0 s' = true → PS X s' (tS X.K s0)
  | .asg m i e, s', x, hk, h => s_asg x hk h
  | .asgT t e, s', x, hk, h => s_asgT x hk h
  | .par cs es, s', x, hk, h => s_par x hk h
  | .ex e, s', x, hk, h => s_ex x hk h
  | .ret e, s', x, hk, h => s_ret x hk h
  | .retN, s', x, hk, h => s_retN x h
  | .iff t a b, s', x, hk, h => s_iff x hk.1 h (fun a' => sSs a a' x hk.2.1) (fun b' => sSs b b' x hk.2.2)
  | .for ws t it body, s', x, hk, h => s_for x ⟨hk.1, hk.2.1⟩ h (fun b' => sSs body b' x hk.2.2)
  | .whl ws n t body, s', x, hk, h => s_whl x hk.1 h (fun b' => sSs body b' x hk.2)
  | .rai, s', x, hk, h => s_rai
  | .pass, s', x, hk, h => s_pass x h
  | .brk, s', x, hk, h => s_brk x h
  | .cont, s', x, hk, h => s_cont x h
theorem sSs : ∀ (ss : Ss) (ss' : List Stmt), SOk c kn k X → KnSs kn ss → agSs c ss ss' = true → PSs X ss' (tSs X.K ss)
  | .nil, [], x, hk, h => s_Ss_nil
  | .nil, _ :: _, x, hk, h => absurd h Bool.false_ne_true
  | .cons _ _, [], x, hk, h => absurd h Bool.false_ne_true
  | .cons s0 ss, s' :: ss', x, hk, h =>
    have h := b2 (show (agS c s0 s' && agSs c ss ss') = true from h)
    s_Ss_cons (sS s0 s' x hk.1 h.1) (sSs ss ss' x hk.2 h.2)
  | .zr i a b tg elt, ss', x, hk, h => s_zr x hk h
end
end
end DB
set_option maxHeartbeats 4000000
namespace DB
open PySem PySem.Spec L2

/-- a def of the text -/
structure KwQ where
  n : Nat
  ks : List Str
  dd : List D
  perm : List Nat
structure Dn where
  x : Str
  args : Arguments
  body : List Stmt
  scope : Scope
  ps : List Str
  N : List Str
  kws : List KwQ
structure DnOk (K : PySem.W.Frag) (mg : Str → Option Value) (d : Dn) : Prop where
  ex : ∃ fa fd dvs kw0 y, mg d.x = some (.ref fa) ∧ FunD K y y d.args d.body d.scope dvs kw0 fa fd ∧ Binds K fd d.ps [] ∧ (d.x = "law" → ∀ (s : Shared) (us : List Value), us.length = d.ps.length → BindsTo s fd ⟨us, []⟩ (d.ps.zip us)) ∧ ∀ q ∈ d.kws, (∃ dv du, KBn K fd d.ps q.n q.ks (gP q.perm du) (gP q.perm dv) ∧ ∀ F, DsOk K F dv q.dd)
structure Wo (K : PySem.W.Frag) (mg : Str → Option Value) (ds : List Dn) (gls : List (Str × D)) : Prop where
  free : ∀ x ∈ freeNames, mg x = none
  gl : ∀ p ∈ gls, ∃ u v, mg p.1 = some u ∧ RelV v u ∧ ∀ F, DOk K F v p.2
  df : ∀ d ∈ ds, DnOk K mg d
def kwOk (ds : List Dn) (id n : Nat) (ks : List Str) (dd : List D) (perm : List Nat) : Prop := ∃ d, ds[id]? = some d ∧ ⟨n, ks, dd, perm⟩ ∈ d.kws
def GoodF (ds : List Dn) (gls : List (Str × D)) : Nat → Nat → Fn → Prop
  | _, id, .no => ∃ d, ds[id]? = some d
  | _, _, .ini _ _ _ => False
  | 0, _, _ => False
  | k + 1, id, .mk n ms body => ∃ d, ds[id]? = some d ∧ d.N.length = n ∧ ms.length = d.ps.length ∧ C8.scC d.N d.ps d.scope = true ∧ agSs ⟨d.N, d.scope, none, ds.map (·.x)⟩ body d.body = true ∧
    KnSs ⟨GoodF ds gls k, fun x v => (x, v) ∈ gls, kwOk ds⟩ body
def kno (ds : List Dn) (gls : List (Str × D)) (k : Nat) : Know := ⟨GoodF ds gls k, fun x v => (x, v) ∈ gls, kwOk ds⟩

section
variable {K : PySem.W.Frag} {F F' H H' F0 H0 : Hp} {ex as as' as0 : List Addr} {st st' st0 : Sto}
/-! ### a call's beginning -/
/-- what holds of the state after the arguments came in -/
structure BindR (K : PySem.W.Frag) (F H : Hp) (as : List Addr) (st : Sto) (ow : List Addr) (F1 : Hp) (as1 : List Addr) (st1 : Sto) : Prop where
  ok : StOk K F1 H as1 st1
  pre : ∃ new, as1 = as ++ new ∧ ∀ a ∈ new, a ∈ ow
  f : Same F F1
  ff : ∀ b o, H b = some o → NL as st b → b ∉ ow → F b = none → F1 b = none
  l : ∀ (c : Nat) (d : D), c < st.length → st1[c]? = some ⟨d, true⟩ → ∃ d0, st[c]? = some ⟨d0, true⟩
  g : st.length ≤ st1.length
  hl : as.length = st.length
theorem BindR.refl (s : StOk K F H as st) : BindR K F H as st [] F as st := ⟨s, ⟨[], by simp, fun _ z => nomatch z⟩, Same.refl F, fun _ _ _ _ _ z => z, fun c d _ h => ⟨d, h⟩, Nat.le_refl _, s.len⟩
/-- one argument comes in -/
theorem bind1 {ow : List Addr} {F1 : Hp} {as1 : List Addr} {st1 st2 : Sto} {r : R} {v : V} {d : D} (b : BindR K F H as st ow F1 as1 st1) (ro : ROk K F1 H as1 v r) (e : use r st1 = .ok d st2) :
    ∃ F2, BindR K F H as st (ow ++ ownA v r) F2 as1 st2 ∧ Ext (ownA v r) as1 F1 H st1 as1 F2 H st2 ∧ DOk K F2 v d := by
  obtain ⟨F2, k2, x2, d2⟩ := use_ok b.ok ro e
  refine ⟨F2, ⟨k2, ?_, b.f.trans x2.f, fun c o hc n no hf => ?_, fun c d hc h => ?_, Nat.le_trans b.g x2.g, b.hl⟩, x2, d2⟩
  · obtain ⟨new, h1, h2⟩ := b.pre
    exact ⟨new, h1, fun a ha => List.mem_append_left _ (h2 a ha)⟩
  · have n1 : NL as1 st1 c := by
      intro m d' hm ha
      obtain ⟨new, rfl, hn⟩ := b.pre
      by_cases hlt : m < as.length
      · rw [List.getElem?_append_left hlt] at ha
        have hlt' : m < st.length := by rw [← b.hl]; exact hlt
        obtain ⟨d0, h0⟩ := b.l m d' hlt' hm
        exact n m d0 h0 ha
      · rw [List.getElem?_append_right (by omega)] at ha
        exact no (List.mem_append_left _ (hn c (List.mem_of_getElem? ha)))
    exact (x2.h c o hc n1 fun z => no (List.mem_append_right _ z)).2 (b.ff c o hc n (fun z => no (List.mem_append_left _ z)) hf)
  · obtain ⟨d0, h0⟩ := x2.l c d (Nat.lt_of_lt_of_le hc b.g) h
    exact b.l c d0 hc h0
theorem BindR.al {ow : List Addr} {F1 : Hp} {as1 : List Addr} {st1 : Sto} {a : Addr} {d : D} (b : BindR K F H as st ow F1 as1 st1) (f : F1 a = none) (c : CelOk K F1 H a d) (nm : a ∉ as1) : BindR K F H as st (ow ++ [a]) F1 (as1 ++ [a]) (st1 ++ [⟨d, true⟩]) := by
  refine ⟨b.ok.alloc f c nm, ?_, b.f, fun x o hx n no hf => b.ff x o hx n (fun z => no (List.mem_append_left _ z)) hf, fun n d' hn h => ?_, by rw [List.length_append]; exact Nat.le_trans b.g (Nat.le_add_right _ _), b.hl⟩
  · obtain ⟨new, rfl, h2⟩ := b.pre
    refine ⟨new ++ [a], by simp, fun x hx => ?_⟩
    rcases List.mem_append.mp hx with hx | hx
    · exact List.mem_append_left _ (h2 x hx)
    · exact List.mem_append_right _ hx
  · rw [List.getElem?_append_left (Nat.lt_of_lt_of_le hn b.g)] at h
    exact b.l n d' hn h
theorem BindR.wide {ow ow' : List Addr} {F1 : Hp} {as1 : List Addr} {st1 : Sto} (b : BindR K F H as st ow F1 as1 st1) (h : ∀ a ∈ ow, a ∈ ow') : BindR K F H as st ow' F1 as1 st1 :=
  ⟨b.ok, b.pre.imp fun _ z => ⟨z.1, fun a ha => h a (z.2 a ha)⟩, b.f, fun x o hx n no hf => b.ff x o hx n (fun z => no (h x z)) hf, b.l, b.g, b.hl⟩
theorem RsOk.more {a : Addr} {vs : List V} {rs : List R} (h : RsOk K F H as vs rs) (hx : ∀ x ∈ ownsA vs rs, x ≠ a) : RsOk K F H (as ++ [a]) vs rs := by
  induction h with
  | nil => exact .nil
  | cons r1 r2 dj ih =>
    refine .cons ?_ (ih fun x hm => hx x (List.mem_append_right _ hm)) dj
    cases r1 with
    | dat d => exact .dat d
    | own f c nm =>
      refine .own f c fun hm => ?_
      rcases List.mem_append.mp hm with hm | hm
      · exact nm hm
      · exact hx _ (List.mem_append_left _ (by simp [ownA])) (List.mem_singleton.mp hm)
    | cell h => exact .cell (by rw [List.getElem?_append_left (List.getElem?_eq_some_iff.mp h).1]; exact h)
/-- what a name holds -/
def Hold (K : PySem.W.Frag) (F : Hp) (as : List Addr) (v : V) (r : R) : Prop := (∃ d, r = .dat d ∧ DOk K F v d) ∨ ∃ c a, r = .cell c ∧ v = .ref a ∧ as[c]? = some a
theorem Hold.mono {v : V} {r : R} (h : Hold K F as v r) (s : Same F F') (new : List Addr) : Hold K F' (as ++ new) v r := by
  rcases h with ⟨d, rfl, h⟩ | ⟨c, a, rfl, rfl, h⟩
  · exact .inl ⟨d, rfl, h.mono s⟩
  · exact .inr ⟨c, a, rfl, rfl, by rw [List.getElem?_append_left (List.getElem?_eq_some_iff.mp h).1]; exact h⟩
theorem bindA_aft : ∀ {ms : List Bool} {vs : List V} {rs : List R} {es : List (Option R)} {ow : List Addr} {F1 : Hp} {as1 : List Addr} {st1 st2 : Sto}, BindR K F H as st ow F1 as1 st1 → RsOk K F1 H as1 vs rs → bindA ms rs st1 = .ok es st2 →
    ∃ F2 as2, BindR K F H as st (ow ++ ownsA vs rs) F2 as2 st2 ∧ Same F1 F2 ∧ (∃ new, as2 = as1 ++ new) ∧ es.length = vs.length ∧ ms.length = vs.length ∧ ∀ (i : Nat) (r : R), es[i]? = some (some r) → ∃ v, vs[i]? = some v ∧ Hold K F2 as2 v r
  | [], _, [], es, ow, F1, as1, st1, st2, b, ro, e => by
    cases ro
    obtain ⟨rfl, rfl⟩ := pure_inv (show (pure [] : M (List (Option R))) st1 = .ok es st2 from e)
    exact ⟨F1, as1, b.wide fun a ha => List.mem_append_left _ ha, Same.refl _, ⟨[], by simp⟩, rfl, rfl, fun i r z => by simp at z⟩
  | [], _, _ :: _, es, ow, F1, as1, st1, st2, b, ro, e => (no_inv e).elim
  | false :: _, _, [], es, ow, F1, as1, st1, st2, b, ro, e => (no_inv e).elim
  | true :: _, _, [], es, ow, F1, as1, st1, st2, b, ro, e => (no_inv e).elim
  | false :: ms, _, r :: rs, es, ow, F1, as1, st1, st2, b, ro, e => by
    cases ro with
    | @cons v _ vs _ r1 r2 dj =>
    obtain ⟨d, s1, e1, z1⟩ := bind_inv (show (use r >>= fun d => bindA ms rs >>= fun es => (pure (some (.dat d) :: es) : M (List (Option R)))) st1 = .ok es st2 from e)
    obtain ⟨es', s2, e2, z2⟩ := bind_inv z1
    obtain ⟨rfl, rfl⟩ := pure_inv z2
    obtain ⟨F2, b2, x2, d2⟩ := bind1 b r1 e1
    obtain ⟨F3, as3, b3, f3, ⟨new, hn⟩, l1, l2, hh⟩ := bindA_aft b2 (r2.ext b.ok.len x2 fun a ha hb => dj a hb ha) e2
    refine ⟨F3, as3, b3.wide fun a ha => by rw [show ownsA (v :: vs) (r :: rs) = ownA v r ++ ownsA vs rs from rfl, ← List.append_assoc]; exact ha, x2.f.trans f3, ⟨new, hn⟩, congrArg Nat.succ l1, congrArg Nat.succ l2, fun i q hq => ?_⟩
    cases i with
    | zero =>
      have hq : some (some (R.dat d)) = some (some q) := hq
      cases hq
      exact ⟨v, rfl, .inl ⟨d, rfl, d2.mono f3⟩⟩
    | succ i => exact hh i q hq
  | true :: ms, _, .cell c :: rs, es, ow, F1, as1, st1, st2, b, ro, e => by
    cases ro with
    | @cons v _ vs _ r1 r2 dj =>
    obtain ⟨es', s2, e2, z2⟩ := bind_inv (show (bindA ms rs >>= fun es => (pure (some (.cell c) :: es) : M (List (Option R)))) st1 = .ok es st2 from e)
    obtain ⟨rfl, rfl⟩ := pure_inv z2
    obtain ⟨F3, as3, b3, f3, ⟨new, hn⟩, l1, l2, hh⟩ := bindA_aft b r2 e2
    refine ⟨F3, as3, b3.wide fun a ha => ?_, f3, ⟨new, hn⟩, congrArg Nat.succ l1, congrArg Nat.succ l2, fun i q hq => ?_⟩
    · rcases List.mem_append.mp ha with ha | ha
      · exact List.mem_append_left _ ha
      · exact List.mem_append_right _ (List.mem_append_right _ ha)
    cases i with
    | zero =>
      have hq : some (some (R.cell c)) = some (some q) := hq
      cases hq
      cases r1 with
      | @cell a _ h =>
        refine ⟨_, rfl, .inr ⟨c, a, rfl, rfl, ?_⟩⟩
        rw [hn, List.getElem?_append_left (List.getElem?_eq_some_iff.mp h).1]
        exact h
    | succ i => exact hh i q hq
  | true :: ms, _, .own d :: rs, es, ow, F1, as1, st1, st2, b, ro, e => by
    cases ro with
    | @cons v _ vs _ r1 r2 dj =>
    obtain ⟨es', s2, e2, z2⟩ := bind_inv (show (bindA ms rs >>= fun es => (pure (some (.cell st1.length) :: es) : M (List (Option R)))) (st1 ++ [⟨d, true⟩]) = .ok es st2 from e)
    obtain ⟨rfl, rfl⟩ := pure_inv z2
    cases r1 with
    | @own a _ f c nm =>
    obtain ⟨F3, as3, b3, f3, ⟨new, hn⟩, l1, l2, hh⟩ := bindA_aft (b.al f c nm) (r2.more fun x hx z => dj a (by simp [ownA]) (z ▸ hx)) e2
    refine ⟨F3, as3, b3.wide fun x hx => ?_, f3, ⟨a :: new, by rw [hn]; simp⟩, congrArg Nat.succ l1, congrArg Nat.succ l2, fun i q hq => ?_⟩
    · rw [show ownsA (.ref a :: vs) (.own d :: rs) = [a] ++ ownsA vs rs from rfl, ← List.append_assoc]
      exact hx
    cases i with
    | zero =>
      have hq : some (some (R.cell st1.length)) = some (some q) := hq
      cases hq
      refine ⟨_, rfl, .inr ⟨_, a, rfl, rfl, ?_⟩⟩
      rw [hn, List.getElem?_append_left (by rw [List.length_append, b.ok.len]; exact Nat.lt_succ_self _), ← b.ok.len, List.getElem?_append_right (Nat.le_refl _), Nat.sub_self]
      rfl
    | succ i => exact hh i q hq
  | true :: ms, _, .dat d :: rs, es, ow, F1, as1, st1, st2, b, ro, e => (no_inv e).elim
/-! ### a call's end -/
theorem end_ext {ow as1 as2 : List Addr} {F1 F2 H2 : Hp} {st1 st2 : Sto} (b : BindR K F H as st ow F1 as1 st1) (x : Ext [] as1 F1 H st1 as2 F2 H2 st2) : Ext ow as F H st as F2 H2 (st2.take st.length) := by
  refine ⟨⟨[], by simp, fun _ z => nomatch z⟩, b.f.trans x.f, x.k, fun c o hc n no => ?_, fun c d hc h => ?_, ?_⟩
  · have n1 : NL as1 st1 c := by
      intro m d' hm ha
      obtain ⟨new, rfl, hn⟩ := b.pre
      by_cases hlt : m < as.length
      · rw [List.getElem?_append_left hlt] at ha
        obtain ⟨d0, h0⟩ := b.l m d' (by rw [← b.hl]; exact hlt) hm
        exact n m d0 h0 ha
      · rw [List.getElem?_append_right (by omega)] at ha
        exact no (hn c (List.mem_of_getElem? ha))
    obtain ⟨h1, h2⟩ := x.h c o hc n1 fun z => nomatch z
    exact ⟨h1, fun z => h2 (b.ff c o hc n no z)⟩
  · rw [List.getElem?_take_of_lt hc] at h
    obtain ⟨d0, h0⟩ := x.l c d (Nat.lt_of_lt_of_le hc b.g) h
    exact b.l c d0 hc h0
  · rw [List.length_take]
    have := b.g
    have := x.g
    omega
theorem endFn_ok {new : List Addr} {v : V} {r r' : R} {n : Nat} (hn : n = as.length) (k : StOk K F H (as ++ new) st) (ro : ROk K F H (as ++ new) v r) (e : endFn n r st = .ok r' st') :
    st' = st.take as.length ∧ ROk K F H as v r' ∧ ∀ a ∈ ownA v r', a ∈ ownA v r ∨ a ∈ new := by
  subst hn
  cases ro with
  | @dat v d h =>
    have e : (Res.ok (R.dat d) (st.take as.length) : Res R) = .ok r' st' := e
    cases e
    exact ⟨rfl, .dat h, fun a ha => .inl ha⟩
  | @own a d f c nm =>
    have e : (Res.ok (R.own d) (st.take as.length) : Res R) = .ok r' st' := e
    cases e
    exact ⟨rfl, .own f c fun z => nm (List.mem_append_left _ z), fun a ha => .inl ha⟩
  | @cell a c h =>
    have e : (if c < as.length then (.ok (.cell c) (st.take as.length) : Res R) else match st[c]? with
      | some ⟨d, true⟩ => .ok (.own d) (st.take as.length)
      | some ⟨d, false⟩ => .ok (.dat d) (st.take as.length)
      | none => .no) = .ok r' st' := e
    by_cases hc : c < as.length
    · rw [if_pos hc] at e
      cases e
      rw [List.getElem?_append_left hc] at h
      exact ⟨rfl, .cell h, fun a ha => by cases ha⟩
    · rw [if_neg hc] at e
      split at e
      · rename_i d q
        cases e
        obtain ⟨f, c1, u⟩ := k.live c a d h q
        refine ⟨rfl, .own f c1 fun z => ?_, fun x hx => .inr ?_⟩
        · obtain ⟨j, hj⟩ := List.getElem?_of_mem z
          have hlt := (List.getElem?_eq_some_iff.mp hj).1
          have := u j (by rw [List.getElem?_append_left hlt]; exact hj)
          omega
        · have : x = a := List.mem_singleton.mp hx
          subst this
          rw [List.getElem?_append_right (by omega)] at h
          exact List.mem_of_getElem? h
      · rename_i d q
        cases e
        exact ⟨rfl, .dat (k.froz c a d h q).1, fun x hx => by cases hx⟩
      · cases e
end
/-! ### a def's own store -/
section
variable {K : PySem.W.Frag} {F1 F2 H H2 : Hp} {as1 as2 : List Addr} {st1 l l' : Sto} {cs : List Nat}
theorem getAll_len : ∀ {cs : List Nat} {l : Sto}, getAll st1 cs = some l → l.length = cs.length
  | [], l, h => by cases h; rfl
  | c :: cs, l, h => by
    unfold getAll at h
    split at h
    · rename_i d l0 q1 q2
      cases h
      exact congrArg Nat.succ (getAll_len q2)
    · cases h
theorem getAll_get : ∀ {cs : List Nat} {l : Sto}, getAll st1 cs = some l → ∀ (k c : Nat), cs[k]? = some c → ∃ d, st1[c]? = some ⟨d, true⟩ ∧ l[k]? = some ⟨d, true⟩
  | [], l, h, k, c, hk => by simp at hk
  | c0 :: cs, l, h, k, c, hk => by
    unfold getAll at h
    split at h
    · rename_i d l0 q1 q2
      cases h
      cases k with
      | zero => cases hk; exact ⟨d, q1, rfl⟩
      | succ k => exact getAll_get q2 k c hk
    · cases h
theorem getAll_live {cs : List Nat} {l : Sto} (h : getAll st1 cs = some l) {k : Nat} {x : Cel} (hk : l[k]? = some x) : ∃ c d, cs[k]? = some c ∧ x = ⟨d, true⟩ ∧ st1[c]? = some ⟨d, true⟩ := by
  have hl := getAll_len h
  have hlt := (List.getElem?_eq_some_iff.mp hk).1
  have hc : cs[k]? = some cs[k] := List.getElem?_eq_getElem (by omega)
  obtain ⟨d, h1, h2⟩ := getAll_get h k _ hc
  rw [hk] at h2
  exact ⟨_, d, hc, Option.some.inj h2, h1⟩
theorem putAll_len : ∀ {cs : List Nat} {l s : Sto}, (putAll cs l s).length = s.length
  | [], _, _ => rfl
  | _ :: _, [], _ => rfl
  | c :: cs, x :: l, s => by
    show (putAll cs l (s.set c x)).length = _
    rw [putAll_len, List.length_set]
theorem putAll_other : ∀ {cs : List Nat} {l s : Sto} {c : Nat}, c ∉ cs → (putAll cs l s)[c]? = s[c]?
  | [], _, _, _, _ => rfl
  | _ :: _, [], _, _, _ => rfl
  | c0 :: cs, x :: l, s, c, h => by
    show (putAll cs l (s.set c0 x))[c]? = _
    rw [putAll_other fun z => h (List.mem_cons_of_mem _ z)]
    exact List.getElem?_set_ne fun z : c0 = c => h (by rw [z]; exact List.mem_cons_self ..)
theorem putAll_self : ∀ {cs : List Nat} {l s : Sto} {k c : Nat}, cs.Nodup → (∀ c ∈ cs, c < s.length) → cs[k]? = some c → k < l.length → (putAll cs l s)[c]? = l[k]?
  | [], _, _, _, _, _, _, h, _ => by simp at h
  | _ :: _, [], _, _, _, _, _, _, h => by simp at h
  | c0 :: cs, x :: l, s, k, c, nd, hb, hk, hl => by
    have nd' := List.nodup_cons.mp nd
    show (putAll cs l (s.set c0 x))[c]? = _
    cases k with
    | zero =>
      cases hk
      rw [putAll_other nd'.1, List.getElem?_set_self (hb _ (List.mem_cons_self ..))]
      rfl
    | succ k =>
      exact putAll_self (k := k) nd'.2 (fun c hc => by rw [List.length_set]; exact hb c (List.mem_cons_of_mem _ hc)) hk (by simpa using hl)
/-- the addresses of the cells that came in -/
def asL (as1 : List Addr) (cs : List Nat) : List Addr := cs.map fun c => as1.getD c 0
theorem asL_get (hl : as1.length = st1.length) (hg : getAll st1 cs = some l) {k c : Nat} (hk : cs[k]? = some c) : (asL as1 cs)[k]? = as1[c]? ∧ c < as1.length := by
  obtain ⟨d, h1, _⟩ := getAll_get hg k c hk
  have hlt := (List.getElem?_eq_some_iff.mp h1).1
  have hlt' : c < as1.length := by omega
  refine ⟨?_, hlt'⟩
  unfold asL
  rw [List.getElem?_map, hk, List.getElem?_eq_getElem hlt']
  show some (as1.getD c 0) = _
  rw [List.getD_eq_getElem?_getD, List.getElem?_eq_getElem hlt']
  rfl
theorem loc_ok (k1 : StOk K F1 H as1 st1) (hg : getAll st1 cs = some l) (nd : cs.Nodup) : StOk K F1 H (asL as1 cs) l := by
  refine ⟨k1.sub, by unfold asL; rw [List.length_map, getAll_len hg], fun k a d h1 h2 => ?_, fun k a d h1 h2 => ?_⟩
  · obtain ⟨c, d', hc, e, hs⟩ := getAll_live hg h2
    cases e
    obtain ⟨q1, q2⟩ := asL_get k1.len hg hc
    rw [q1] at h1
    obtain ⟨f, c1, u⟩ := k1.live c a d h1 hs
    refine ⟨f, c1, fun k' hk' => ?_⟩
    have hlt : k' < cs.length := by
      have := (List.getElem?_eq_some_iff.mp hk').1
      unfold asL at this
      rw [List.length_map] at this
      exact this
    have hc' : cs[k']? = some cs[k'] := List.getElem?_eq_getElem hlt
    rw [(asL_get k1.len hg hc').1] at hk'
    have e := u _ hk'
    have hk : k < cs.length := (List.getElem?_eq_some_iff.mp hc).1
    have e2 : cs[k] = c := (List.getElem?_eq_some_iff.mp hc).2
    have hp := List.pairwise_iff_getElem.mp nd
    rcases Nat.lt_trichotomy k' k with q | q | q
    · exact absurd (e.trans e2.symm) (hp k' k hlt hk q)
    · exact q
    · exact absurd (e2.trans e.symm) (hp k k' hk hlt q)
  · obtain ⟨c, d', hc, e, hs⟩ := getAll_live hg h2
    cases e
theorem back_aft {v : V} {r r' : R} (k1 : StOk K F1 H as1 st1) (hg : getAll st1 cs = some l) (nd : cs.Nodup) (k2 : StOk K F2 H2 as2 l') (x : Ext [] (asL as1 cs) F1 H l as2 F2 H2 l') (ro : ROk K F2 H2 as2 v r) (fr : Fresh H v r) (hb : backR cs l' r = some r') :
    StOk K F2 H2 as1 (putAll cs l' st1) ∧ Ext [] as1 F1 H st1 as1 F2 H2 (putAll cs l' st1) ∧ ROk K F2 H2 as1 v r' ∧ Fresh H v r' := by
  obtain ⟨new, rfl, hn⟩ := x.pre
  have hz := getAll_len hg
  have hlen : ∀ k c, cs[k]? = some c → k < l'.length := fun k c hk => by
    have := (List.getElem?_eq_some_iff.mp hk).1
    have := x.g
    omega
  have hlt : ∀ c ∈ cs, c < st1.length := fun c hc => by
    obtain ⟨k, hk⟩ := List.getElem?_of_mem hc
    obtain ⟨d, h1, _⟩ := getAll_get hg k c hk
    exact (List.getElem?_eq_some_iff.mp h1).1
  have hal : (asL as1 cs).length = cs.length := by unfold asL; rw [List.length_map]
  have inn : ∀ {c : Nat}, c ∈ cs → ∃ k d0, cs[k]? = some c ∧ (putAll cs l' st1)[c]? = l'[k]? ∧ st1[c]? = some ⟨d0, true⟩ ∧ (asL as1 cs ++ new)[k]? = as1[c]? := fun {c} hc => by
    obtain ⟨k, hk⟩ := List.getElem?_of_mem hc
    obtain ⟨d, h1, _⟩ := getAll_get hg k c hk
    refine ⟨k, d, hk, putAll_self nd hlt hk (hlen k c hk), h1, ?_⟩
    rw [List.getElem?_append_left (by rw [hal]; exact (List.getElem?_eq_some_iff.mp hk).1)]
    exact (asL_get k1.len hg hk).1
  have nl : ∀ {b : Addr}, (∀ c d, st1[c]? = some ⟨d, true⟩ → c ∈ cs → as1[c]? ≠ some b) → NL (asL as1 cs) l b := fun {b} hh k d hk ha => by
    obtain ⟨c, d', hc, e, hs⟩ := getAll_live hg hk
    rw [(asL_get k1.len hg hc).1] at ha
    exact hh c d' hs (List.mem_of_getElem? hc) ha
  have ok2 : StOk K F2 H2 as1 (putAll cs l' st1) := by
    refine ⟨k2.sub, by rw [putAll_len]; exact k1.len, fun c a d h1 h2 => ?_, fun c a d h1 h2 => ?_⟩
    · by_cases hc : c ∈ cs
      · obtain ⟨k, d0, hk, e1, e2, e3⟩ := inn hc
        rw [e1] at h2
        rw [h1] at e3
        obtain ⟨f, c1, _⟩ := k2.live k a d e3 h2
        exact ⟨f, c1, (k1.live c a d0 h1 e2).2.2⟩
      · rw [putAll_other hc] at h2
        obtain ⟨f, c1, u⟩ := k1.live c a d h1 h2
        have hs := c1.some
        obtain ⟨o, ho⟩ : ∃ o, H a = some o := by
          cases q : H a with
          | none => exact absurd q hs
          | some o => exact ⟨o, rfl⟩
        obtain ⟨g1, g2⟩ := x.h a o ho (nl fun c' d' _ hc' ha => hc (by rw [← u c' ha]; exact hc')) (fun z => nomatch z)
        exact ⟨g2 f, c1.keep (by rw [g1, ho]) x.f, u⟩
    · by_cases hc : c ∈ cs
      · obtain ⟨k, d0, hk, e1, e2, e3⟩ := inn hc
        rw [e1] at h2
        rw [h1] at e3
        exact k2.froz k a d e3 h2
      · rw [putAll_other hc] at h2
        obtain ⟨g1, g2⟩ := k1.froz c a d h1 h2
        exact ⟨g1.mono x.f, Same.some x.f g2⟩
  refine ⟨ok2, ⟨⟨[], by simp, fun _ z => nomatch z⟩, x.f, x.k, fun b o ho n _ => x.h b o ho (nl fun c d hc _ ha => n c d hc ha) (fun z => nomatch z), fun c d hc h => ?_, by rw [putAll_len]; exact Nat.le_refl _⟩, ?_⟩
  · by_cases hm : c ∈ cs
    · obtain ⟨k, d0, hk, e1, e2, e3⟩ := inn hm
      exact ⟨d0, e2⟩
    · rw [putAll_other hm] at h
      exact ⟨d, h⟩
  · cases ro with
    | dat h => cases hb; exact ⟨.dat h, trivial⟩
    | @own a d f c nm =>
      cases hb
      refine ⟨.own f c fun z => ?_, fr⟩
      exact k1.cellSome z (fr a rfl)
    | @cell a k h =>
      have hb : (match cs[k]? with
        | some c => some (R.cell c)
        | none => match l'[k]? with
          | some ⟨d, true⟩ => some (.own d)
          | some ⟨d, false⟩ => some (.dat d)
          | none => none) = some r' := hb
      cases q : cs[k]? with
      | some c =>
        rw [q] at hb
        cases hb
        rw [List.getElem?_append_left (by rw [hal]; exact (List.getElem?_eq_some_iff.mp q).1), (asL_get k1.len hg q).1] at h
        exact ⟨.cell h, trivial⟩
      | none =>
        rw [q] at hb
        have hge : cs.length ≤ k := List.getElem?_eq_none_iff.mp q
        have h' := h
        rw [List.getElem?_append_right (by rw [hal]; exact hge)] at h
        have hna : H a = none := hn a (List.mem_of_getElem? h)
        have hb : (match l'[k]? with
          | some ⟨d, true⟩ => some (R.own d)
          | some ⟨d, false⟩ => some (.dat d)
          | none => none) = some r' := hb
        cases q2 : l'[k]? with
        | none => rw [q2] at hb; cases hb
        | some y =>
          obtain ⟨d, b⟩ := y
          rw [q2] at hb
          cases b with
          | true =>
            cases hb
            obtain ⟨f, c1, _⟩ := k2.live k a d h' q2
            exact ⟨.own f c1 fun z => k1.cellSome z hna, fun b hb => by cases hb; exact hna⟩
          | false =>
            cases hb
            exact ⟨.dat (k2.froz k a d h' q2).1, trivial⟩
theorem locA_len : ∀ {ms : List Bool} {es : List (Option R)} {k : Nat}, ms.length = es.length → (locA ms es k).length = es.length
  | [], [], _, _ => rfl
  | [], _ :: _, _, h => by cases h
  | _ :: _, [], _, h => by cases h
  | true :: ms, some (.cell c) :: es, k, h => congrArg Nat.succ (locA_len (by simpa using h))
  | true :: ms, some (.dat _) :: es, k, h => congrArg Nat.succ (locA_len (by simpa using h))
  | true :: ms, some (.own _) :: es, k, h => congrArg Nat.succ (locA_len (by simpa using h))
  | true :: ms, none :: es, k, h => congrArg Nat.succ (locA_len (by simpa using h))
  | false :: ms, e :: es, k, h => congrArg Nat.succ (locA_len (by simpa using h))
theorem datO_some {e : Option R} {r : R} (h : datO e = some r) : ∃ d, r = .dat d ∧ e = some (.dat d) := by
  cases e with
  | none => cases h
  | some q => cases q <;> cases h; exact ⟨_, rfl, rfl⟩
theorem locA_get : ∀ {ms : List Bool} {es : List (Option R)} {k i : Nat} {r : R}, (locA ms es k)[i]? = some (some r) → (∃ d, r = .dat d ∧ es[i]? = some (some (.dat d))) ∨ ∃ j c, r = .cell (k + j) ∧ (celA ms es)[j]? = some c ∧ es[i]? = some (some (.cell c))
  | [], es, k, i, r, h => by cases es <;> simp [locA] at h
  | _ :: _, [], k, i, r, h => by simp [locA] at h
  | true :: ms, some (.cell c) :: es, k, i, r, h => by
    have h : (some (R.cell k) :: locA ms es (k + 1))[i]? = some (some r) := h
    cases i with
    | zero => cases h; exact .inr ⟨0, c, rfl, rfl, rfl⟩
    | succ i =>
      rcases locA_get (i := i) h with h | ⟨j, c', rfl, h1, h2⟩
      · exact .inl h
      · exact .inr ⟨j + 1, c', by rw [Nat.add_assoc, Nat.add_comm 1 j], h1, h2⟩
  | true :: ms, some (.dat d) :: es, k, i, r, h => by
    have h : (some (R.dat d) :: locA ms es k)[i]? = some (some r) := h
    cases i with
    | zero => cases h; exact .inl ⟨d, rfl, rfl⟩
    | succ i => exact locA_get (ms := ms) (es := es) (k := k) (i := i) h
  | true :: ms, some (.own d) :: es, k, i, r, h => by
    have h : (none :: locA ms es k)[i]? = some (some r) := h
    cases i with
    | zero => cases h
    | succ i => exact locA_get (ms := ms) (es := es) (k := k) (i := i) h
  | true :: ms, none :: es, k, i, r, h => by
    have h : (none :: locA ms es k)[i]? = some (some r) := h
    cases i with
    | zero => cases h
    | succ i => exact locA_get (ms := ms) (es := es) (k := k) (i := i) h
  | false :: ms, e :: es, k, i, r, h => by
    have h : (datO e :: locA ms es k)[i]? = some (some r) := h
    cases i with
    | zero =>
      obtain ⟨d, rfl, rfl⟩ := datO_some (Option.some.inj h)
      exact .inl ⟨d, rfl, rfl⟩
    | succ i => exact locA_get (ms := ms) (es := es) (k := k) (i := i) h
theorem backM_inv {m : M R} {s s' : Sto} {r' : R} (h : backM cs m s = .ok r' s') : ∃ l r l', getAll s cs = some l ∧ cs.Nodup ∧ m l = .ok r l' ∧ backR cs l' r = some r' ∧ s' = putAll cs l' s := by
  unfold backM at h
  split at h
  · cases h
  · rename_i l q
    split at h
    · cases h
    · rename_i q2
      split at h
      · rename_i r l' q3
        obtain ⟨h1, h2⟩ := optS_inv h
        exact ⟨l, r, l', q, of_decide_eq_true q2, q3, h1, h2⟩
      · cases h
      · cases h
end
/-! ### functions -/
theorem map_get {ds : List Dn} {id : Nat} {x : Str} {d : Dn} (h : ds[id]? = some d) (e : (ds.map (·.x))[id]? = some x) : x = d.x := by
  rw [List.getElem?_map, h] at e
  exact (Option.some.inj e).symm
theorem good_ok {P : Program} {w : World} {K : PySem.W.Frag} {mg : Str → Option Value} {ds : List Dn} {gls : List (Str × D)} (W : Wo K mg ds gls) : ∀ (k id : Nat) (f : Fn), GoodF ds gls k id f →
    ∃ d fa fd, ds[id]? = some d ∧ mg d.x = some (.ref fa) ∧ PySem.W.keepIn K (.ref fa) = true ∧ Binds K fd d.ps [] ∧ ((d.x = "law" → ∀ (s : Shared) (us : List Value), us.length = d.ps.length → BindsTo s fd ⟨us, []⟩ (d.ps.zip us)) ∧ ∀ q ∈ d.kws, ∃ dv du, KBn K fd d.ps q.n q.ks (gP q.perm du) (gP q.perm dv) ∧ ∀ F, DsOk K F dv q.dd) ∧ ∀ base : Heap, FnG P w K mg base k fa fd d.ps (spF K f) := by
  intro k
  induction k with
  | zero =>
    intro id f g
    cases f with
    | mk n ms body => exact g.elim
    | ini c n fs => exact g.elim
    | no =>
      obtain ⟨d, hd⟩ := g
      obtain ⟨fa, fd, dvs, kw0, y, h1, h2, h3, h4⟩ := (W.df d (List.mem_of_getElem? hd)).ex
      have dead : ∀ vs H Q E, ¬ spF K .no vs H Q E := fun vs H Q E h => by
        obtain ⟨as, F, st, rs, r, st', _, _, e, _⟩ := h
        exact (no_inv e).elim
      exact ⟨d, fa, fd, hd, h1, h2.kp, h3, h4, fun base => ⟨fun vs H Q E h => (dead _ _ _ _ h).elim, fun A outer s H args us vs Q E _ _ _ _ _ h => (dead _ _ _ _ h).elim⟩⟩
  | succ k ih =>
    intro id f g
    cases f with
    | no =>
      obtain ⟨d, hd⟩ := g
      obtain ⟨fa, fd, dvs, kw0, y, h1, h2, h3, h4⟩ := (W.df d (List.mem_of_getElem? hd)).ex
      have dead : ∀ vs H Q E, ¬ spF K .no vs H Q E := fun vs H Q E h => by
        obtain ⟨as, F, st, rs, r, st', _, _, e, _⟩ := h
        exact (no_inv e).elim
      exact ⟨d, fa, fd, hd, h1, h2.kp, h3, h4, fun base => ⟨fun vs H Q E h => (dead _ _ _ _ h).elim, fun A outer s H args us vs Q E _ _ _ _ _ h => (dead _ _ _ _ h).elim⟩⟩
    | ini c n fs => exact g.elim
    | mk n ms body =>
      obtain ⟨d, hd, hN, hm, hs, ha, hk⟩ := g
      obtain ⟨fa, fd, dvs, kw0, y, h1, h2, h3, h4⟩ := (W.df d (List.mem_of_getElem? hd)).ex
      refine ⟨d, fa, fd, hd, h1, h2.kp, h3, h4, fun base => ?_⟩
      have S := C8.fnScope_by hs
      refine okG h2 S (fun vs H Q E h => ?_) fun cdv A outer s H vs Q E hr hgd h => ?_
      · obtain ⟨as, F, st, rs, r, st', ok, ro, e, _⟩ := h
        obtain ⟨es, s1, e1, _⟩ := bind_inv (show (bindA ms rs >>= fun as => backM (celA ms as) (evSs body (locA ms as 0 ++ List.replicate (n - as.length) none) >>= fun f => flowR f) >>= fun r => endFn st.length r) st = .ok r st' from e)
        obtain ⟨_, _, _, _, _, _, l2, _⟩ := bindA_aft (BindR.refl ok) ro e1
        rw [← l2, hm]
      · have so : SOk ⟨d.N, d.scope, none, ds.map (·.x)⟩ (kno ds gls k) k (cxOf CX0 P w K mg base d.N y d.scope fa cdv A outer s H E) := by
          refine { N := rfl, nd := S.nd, sc := rfl, calm := rfl, fn := fun _ _ => rfl, room := hr, gd := hgd, free := W.free, gl := fun x v hx => W.gl (x, v) hx, call := fun id f x hf hx => ?_, callK := fun id f x n ks dd perm hf hq hx => ?_, kind := S.kind, nb := rfl, own := passes_of rfl }
          · obtain ⟨d', fa', fd', q1, q2, q3, q4, _, q5⟩ := ih id f hf
            exact ⟨fa', fd', d'.ps, by rw [map_get q1 hx]; exact q2, q3, q4, q5 base⟩
          · obtain ⟨d', fa', fd', q1, q2, q3, q4, ⟨_, q6⟩, q5⟩ := ih id f hf
            obtain ⟨d2, w1, w2⟩ := hq
            rw [q1] at w1
            cases w1
            obtain ⟨dv, du, w3, w4⟩ := q6 _ w2
            exact ⟨fa', fd', d'.ps, dv, du, by rw [map_get q1 hx]; exact q2, q3, w3, w4, q5 base⟩
        refine ⟨_, sSs body d.body so hk ha, ?_⟩
        obtain ⟨as, F, st, rs, r, st', ok, ro, e, af⟩ := h
        obtain ⟨es, s1, e1, z1⟩ := bind_inv (show (bindA ms rs >>= fun as => backM (celA ms as) (evSs body (locA ms as 0 ++ List.replicate (n - as.length) none) >>= fun f => flowR f) >>= fun r => endFn st.length r) st = .ok r st' from e)
        obtain ⟨r1', s2, eb, z3⟩ := bind_inv z1
        obtain ⟨l, r1, l', hg, hnd, em, hb, rfl⟩ := backM_inv eb
        obtain ⟨fl, l2, e2, e3⟩ := bind_inv em
        obtain ⟨F1, as1, b1, f1, ⟨new, hn⟩, l1, lm, hh⟩ := bindA_aft (BindR.refl ok) ro e1
        have en : EnvOk K F1 (asL as1 (celA ms es)) (L2.start d.N vs) (locA ms es 0 ++ List.replicate (n - es.length) none) := by
          have hle : (locA ms es 0).length = es.length := locA_len (by omega)
          refine ⟨?_, fun i q hq => ?_⟩
          · unfold L2.start
            rw [List.length_append, List.length_append, List.length_replicate, List.length_replicate, List.length_map, hle, l1, hN]
          · by_cases hi : i < (locA ms es 0).length
            · rw [List.getElem?_append_left hi] at hq
              have hst : (L2.start d.N vs)[i]? = (vs[i]?).map some := by
                unfold L2.start
                rw [List.getElem?_append_left (by rw [List.length_map, ← l1, ← hle]; exact hi), List.getElem?_map]
              rcases locA_get hq with ⟨d0, rfl, hq'⟩ | ⟨j, c, rfl, hc, hq'⟩
              · obtain ⟨v, hv, ho⟩ := hh i _ hq'
                refine ⟨v, by rw [hst, hv]; rfl, ?_⟩
                rcases ho with ho | ⟨c, a, hz, _⟩
                · exact .inl ho
                · cases hz
              · obtain ⟨v, hv, ho⟩ := hh i _ hq'
                refine ⟨v, by rw [hst, hv]; rfl, ?_⟩
                rcases ho with ⟨d0, hz, _⟩ | ⟨c', a, hz, rfl, ha⟩
                · cases hz
                · cases hz
                  exact .inr ⟨_, a, rfl, rfl, by rw [Nat.zero_add, (asL_get b1.ok.len hg hc).1]; exact ha⟩
            · rw [List.getElem?_append_right (by omega), List.getElem?_replicate] at hq
              split at hq <;> cases hq
        refine ⟨asL as1 (celA ms es), F1, l, _, fl, l2, loc_ok b1.ok hg hnd, en, e2, fun as2 F2 H2 k2 x2 => ?_⟩
        have fin : ∀ (v : V), l2 = l' → ROk K F2 H2 as2 v r1 → Fresh H v r1 → Q v H2 := fun v hl2 q1 q2 => by
          subst hl2
          obtain ⟨k3, x3, q1, q2⟩ := back_aft b1.ok hg hnd k2 x2 q1 q2 hb
          obtain ⟨new2, hn2, hnn⟩ := x3.pre
          obtain ⟨new1, hn1, hw1⟩ := b1.pre
          have has : as1 = as ++ new1 := hn1
          rw [has] at k3 q1
          obtain ⟨rfl, w1, w2⟩ := endFn_ok ok.len.symm k3 q1 z3
          refine af v F2 H2 k3.cut ?_ w1 fun a ha => ?_
          · have := end_ext b1 x3
            rw [← ok.len] at this
            exact this
          · rcases w2 a ha with w | w
            · refine .inl ?_
              cases r1' with
              | own d0 =>
                cases v with
                | ref a0 =>
                  have : a = a0 := List.mem_singleton.mp w
                  subst this
                  exact q2 _ rfl
                | _ => cases w
              | _ => cases v <;> cases w
            · exact .inr (hw1 a w)
        cases fl with
        | nx env' =>
          obtain ⟨rfl, rfl⟩ := pure_inv (show (pure (R.dat .non) : M R) l2 = .ok r1 l' from e3)
          exact fun σ' _ => fin .non rfl (.dat .non) trivial
        | rt r2 =>
          obtain ⟨rfl, rfl⟩ := pure_inv (show (pure r2 : M R) l2 = .ok r1 l' from e3)
          exact fun v q1 q2 => fin v rfl q1 q2
        | bk _ => exact (no_inv e3).elim
        | ct _ => exact (no_inv e3).elim
end DB
set_option maxHeartbeats 4000000
/-! the law's call from the top: nothing guarded is under way there -/
namespace DB
open PySem PySem.Spec L2 PyProof.Rows
section
variable {P : Program} {w : World} {K : PySem.W.Frag} {mg mb : Str → Option Value} {k : Nat} {fa a : Addr} {fd : FuncData} {x : Str} {sp : Sp} {s₁ : Shared} {vs : List Value} {ns : List Int}
/-- over an abstract heap that tracks the script alone, if anything -/
theorem top_H (H : Hp) (hO : Only H) (hA : ∀ b, H b ≠ none → b = a) (hK : H a ≠ none → K.lookup a = none) (hok : HOk P w H s₁.heap) (hS : SqL K H a (ns.map V.int))
    (KX : K.In s₁.heap) (hns : s₁.heap.Ns mainGlobals mg) (hb : s₁.heap.Ns builtinsNs mb) (hbb : ∀ x : Str, x ≠ "__name__" → mb x = bootBuiltins x) (hlim : s₁.heap.NoLimit) (hg : s₁.gens = #[])
    (ha : s₁.heap.get? a = some { cls := .type "list", data := .seq vs.toArray }) (hr : Room k callerA)
    (F : ∀ base : Heap, K.In base → base.Ns mainGlobals mg → FnG P w K mg base k fa fd [x] sp) (hbind : ∀ (s : Shared) (u : Value), BindsTo s fd ⟨[u], []⟩ [(x, u)])
    (hsp : sp [.ref a] H (fun v _ => v = .bl true) fun _ _ _ => False) :
    codeAny (model P w) callerA (.call (.ref fa) ⟨[.ref a], []⟩) (fun r s' => r = .ok (.ret (.bool true)) ∧ OldK s₁.heap s'.heap ∧ s'.os = s₁.os ∧ AllBare s'.gens) s₁ := by
  have free : ∀ {b : Addr} {o : Obj}, s₁.heap.get? b = some o → (∀ vs' n, o.data ≠ .seq vs' n) → H b = none := fun {b o} e h => by
    by_cases hb : H b = none
    · exact hb
    · have := hA b hb
      subst this
      rw [ha] at e
      cases e
      exact absurd rfl (h _ _)
  have keepNs : ∀ {b : Addr} {m : Str → Option Value}, s₁.heap.Ns b m → (hidT s₁.heap H).Ns b m := by
    rintro b m ⟨o, es, ep, e, d, r⟩
    exact ⟨o, es, ep, hidT_get e (free e fun vs' n q => by have := d.symm.trans q; cases this), d, r⟩
  have keepK : K.In (hidT s₁.heap H) := fun b o e => hidT_get (KX b o e) (by
    by_cases hb : H b = none
    · exact hb
    · have := hA b hb
      subst this
      rw [hK hb] at e
      cases e)
  obtain ⟨mc, l1, l2⟩ := hlim
  refine codeAny_mono ((F _ keepK (keepNs hns)).run callerA [] s₁ H ⟨[.ref a], []⟩ [.ref a] [.ref a] _ _ hr rfl
    ⟨rfl, ⟨keepK, keepNs hns, ⟨mb, keepNs hb, hbb⟩, ⟨mc, keepNs l1, l2⟩⟩, fun b o e => of_hidT e, Nat.le_of_eq (hidT_size _ _), trivial, fun b hb => absurd hb (by show ¬ b ∈ ([] : List Addr); simp), hok, .of_eq hg⟩ (hbind s₁ (.ref a)) (.cons rfl .nil) hsp) fun r s' h => ?_
  rcases r with e | fl
  · exact h.elim
  rcases fl with _ | _ | _ | u
  · exact h.elim
  · exact h.elim
  · exact h.elim
  obtain ⟨v, H', os, bare, un, hok', r', q⟩ := h
  cases (show v = .bl true from q)
  cases (show u = Value.bool true from r')
  refine ⟨rfl, OldK.of_keep fun b o e => ?_, os, bare⟩
  rcases hO b with z | ⟨ob, xs, z⟩
  · exact un.keep b o e z (fun z => absurd z (by show ¬ b ∈ ([] : List Addr); simp)) (by simp)
  · have e1 := (hok b _ z).1
    rw [e] at e1
    cases e1
    exact (hok' b _ (un.frzs b _ _ z)).1
/-- the script is tracked, or one of the module's own objects -/
theorem top_G (KX : K.In s₁.heap) (hns : s₁.heap.Ns mainGlobals mg) (hb : s₁.heap.Ns builtinsNs mb) (hbb : ∀ x : Str, x ≠ "__name__" → mb x = bootBuiltins x) (hlim : s₁.heap.NoLimit) (hg : s₁.gens = #[])
    (ha : s₁.heap.get? a = some { cls := .type "list", data := .seq vs.toArray }) (hi : IntsAre vs ns) (hl : ns.length ≤ sizeLine) (hr : Room k callerA)
    (F : ∀ base : Heap, K.In base → base.Ns mainGlobals mg → FnG P w K mg base k fa fd [x] sp) (hbind : ∀ (s : Shared) (u : Value), BindsTo s fd ⟨[u], []⟩ [(x, u)])
    (hsp : ∀ H : Hp, SqL K H a (ns.map V.int) → sp [.ref a] H (fun v _ => v = .bl true) fun _ _ _ => False) :
    codeAny (model P w) callerA (.call (.ref fa) ⟨[.ref a], []⟩) (fun r s' => r = .ok (.ret (.bool true)) ∧ OldK s₁.heap s'.heap ∧ s'.os = s₁.os ∧ AllBare s'.gens) s₁ := by
  have rv := vals_ints hi
  by_cases hk : K.lookup a = none
  · let H : Hp := fun b => if b = a then some (.frz { cls := .type "list", data := .seq vs.toArray } (.lst (ns.map V.int))) else none
    have hH : ∀ b u, H b = some u → b = a ∧ u = .frz { cls := .type "list", data := .seq vs.toArray } (.lst (ns.map V.int)) := fun b u z => by
      by_cases hb : b = a
      · exact ⟨hb, (Option.some.inj ((if_pos hb).symm.trans z)).symm⟩
      · cases (if_neg hb).symm.trans z
    have hS : SqL K H a (ns.map V.int) := .inl (.inr ⟨_, if_pos rfl⟩)
    refine top_H H (fun b => ?_) (fun b z => ?_) (fun _ => hk) (fun b u z => ?_) hS KX hns hb hbb hlim hg ha hr F hbind (hsp H hS)
    · by_cases hb : b = a
      · exact .inr ⟨_, _, if_pos hb⟩
      · exact .inl (if_neg hb)
    · by_cases hb : b = a
      · exact hb
      · exact absurd (if_neg hb) z
    · obtain ⟨rfl, rfl⟩ := hH b u z
      exact ⟨ha, by rw [List.length_map]; exact hl, vs, _, rv, ha⟩
  · obtain ⟨o, hk⟩ := Option.ne_none_iff_exists'.mp hk
    have e := KX a o hk
    rw [ha] at e
    cases e
    have hS : SqL K (fun _ => none) a (ns.map V.int) := .inr ⟨_, vs.toArray, _, hk, rfl, rfl, rfl, by rw [List.size_toArray, hi.length]; exact hl, by simpa using rv⟩
    exact top_H (fun _ => none) (fun _ => .inl rfl) (fun b z => absurd rfl z) (fun z => absurd rfl z) (fun b u z => by cases (show (none : Option HO) = some u from z)) hS KX hns hb hbb hlim hg ha hr F hbind (hsp _ hS)
end
/-- from the promise of the law's def to the law -/
theorem walk_G {l : PySem.W.OpenLaw} {n k : Nat} {q : Program} {loose : List Str} {XP : (Str → Option Value) → Heap → Prop} {YP : World → Heap → Prop} {d : DefRec} {x : Str}
    (hn : l.most = some n) (hn2 : n ≤ sizeLine) (hdf : d.params.defaults = []) (hr : Room k callerA)
    (F : ∀ (w : World) (mg : Str → Option Value) (fa : Addr) (h : Heap), YP w h → h.Ns mainGlobals mg → mg d.name = some (.ref fa) →
      ∃ (K : PySem.W.Frag) (fd : FuncData) (sp : Sp), K.In h ∧ (∀ (s : Shared) (u : Value), BindsTo s fd ⟨[u], []⟩ [(x, u)]) ∧
        (∀ (H : Hp) (a : Addr) (ns : List Int), ns.length ≤ n → SqL K H a (ns.map V.int) → sp [.ref a] H (fun v _ => v = .bl true) fun _ _ _ => False) ∧
        ∀ base : Heap, K.In base → base.Ns mainGlobals mg → FnG l.prog w K mg base k fa fd [x] sp) :
    PySem.W.WalkO q loose XP YP l.row.toRowW d [] (fun f vs => PySem.call f vs) := by
  refine Att.attach_call hn hdf fun w s₀ s₁ mg mb fa o pm cd doc a vs ns G Y ho hd hcd hmg hobj hints hlen hg => ?_
  obtain ⟨K, fd, sp, KX, hb, hsp, hF⟩ := F w mg fa _ Y G.T.g hmg
  exact top_G KX G.T.g G.T.b G.T.builtins G.T.nolimit hg hobj hints (Nat.le_trans hlen hn2) hr hF hb fun H hS => hsp H a ns hlen hS
end DB
set_option maxHeartbeats 4000000
namespace DB
open PySem PySem.Spec L2
section
variable {K : PySem.W.Frag} {x qual : Str} {params : Arguments} {body : List Stmt} {scope : Scope} {kws : List (Str × V)} {f : Addr} {fd : FuncData} {ps ks : List Str} {n : Nat}
theorem Vals.perm {vs : List V} {us : List Value} (h : Vals vs us) : ∀ perm : List Nat, Vals (permL perm vs) (permL perm us)
  | [] => .nil
  | i :: perm => by
    have ih := Vals.perm h perm
    unfold permL at ih ⊢
    rw [List.filterMap_cons, List.filterMap_cons]
    cases q : vs[i]? with
    | none =>
      have : us[i]? = none := by
        rw [List.getElem?_eq_none_iff] at q ⊢
        rw [← h.length]; exact q
      rw [this]
      exact ih
    | some d =>
      obtain ⟨v, hv, dv⟩ := h.get q
      rw [hv]
      exact .cons dv ih
/-- keywords only, no defaults -/
theorem kbn_simple (F : FunD K x qual params body scope [] kws f fd) (n : Nat) (ks : List Str) (perm : List Nat)
    (h : ∀ (kV doc pm : Value) (an : Option Addr) (cdv ct : Value) (us ws : List Value), us.length = n → ws.length = ks.length → bindArgs (PySem.W.fnOf x qual params body scope .none kV doc pm an cdv ct) ⟨us, ks.zip ws⟩ = pure (ps.zip (gP perm [] us ws))) :
    ∃ dv du, KBn K fd ps n ks (gP perm du) (gP perm dv) ∧ ∀ F, DsOk K F dv [] := by
  obtain ⟨oc, od, dV, kV, doc, pm, an, cdv, ct, osl, rfl, lk, hcd, hD, hK⟩ := F.ex
  rcases hD with ⟨_, rfl⟩ | ⟨e, _⟩
  · refine ⟨[], [], ⟨fun s us ws X l1 l2 => .of_eq (h kV doc pm an cdv ct us ws l1 l2), fun r1 r2 => ?_⟩, fun F => .nil⟩
    exact Vals.perm (r1.append (r2.append .nil)) _
  · exact absurd rfl e
end
/-- the law's own def, given the plain law -/
theorem law_sp {K : PySem.W.Frag} {fn : Fn} {n : Nat} (plain : ∀ ns : List Int, ns.length ≤ n → ∃ st', runFn fn [.dat (.scr (ns.map D.int))] [] = .ok (.dat (.bl true)) st') (hn : n ≤ sizeLine) (H : Hp) (a : Addr) (ns : List Int) (hl : ns.length ≤ n) (hS : SqL K H a (ns.map V.int)) :
    spF K fn [.ref a] H (fun v _ => v = .bl true) fun _ _ _ => False := by
  obtain ⟨st', e⟩ := plain ns hl
  have hd : DsOk K H (ns.map V.int) (ns.map D.int) := by
    clear e hl hS
    induction ns with
    | nil => exact .nil
    | cons i ns ih => exact .cons (.int i) ih
  refine ⟨[], H, [], _, _, st', ⟨Same.refl H, rfl, fun c a d h => by simp at h, fun c a d h => by simp at h⟩, .cons (.dat (.scr hS (by rw [List.length_map]; omega) hd)) .nil (fun a ha => by cases ha), e, fun v F' H' k x r _ => ?_⟩
  cases r with
  | dat h =>
    cases h
    rfl
theorem law_of {P : Program} {w : World} {K : PySem.W.Frag} {mg : Str → Option Value} {ds : List Dn} {gls : List (Str × D)} (W : Wo K mg ds gls) {k id : Nat} {f : Fn} {d : Dn} {fa : Addr} (hd : ds[id]? = some d) (hx : d.x = ("law" : Str)) (hps : d.ps = [("script" : Str)]) (hm : mg ("law" : Str) = some (.ref fa)) (g : GoodF ds gls k id f) :
    ∃ fd, (∀ (s : Shared) (u : Value), BindsTo s fd ⟨[u], []⟩ [("script", u)]) ∧ ∀ base, FnG P w K mg base k fa fd ["script"] (spF K f) := by
  obtain ⟨d', fa', fd', h1, h2, _, _, h4, h5⟩ := good_ok (P := P) (w := w) W k id f g
  rw [hd] at h1
  cases h1
  rw [hx] at h2
  have e1 := hm.symm.trans h2
  cases e1
  rw [hps] at h4 h5
  exact ⟨fd', fun s u => h4.1 hx s [u] rfl, h5⟩
end DB
set_option maxHeartbeats 4000000
namespace DB
open PySem
structure Fs where
  vEs : Es → Env → M (List R)
  vE : E → Env → M R
  vDs : Es → Env → M (List D)
  vStar : Es → Env → M (List D)
  vPart : Es → Env → M (Option Int)
  vAnd : Es → Env → M Bool
  vOr : Es → Env → M Bool
  vTAnd : Ts → Env → M Bool
  vTOr : Ts → Env → M Bool
  vT : T → Env → M Bool
  vIt : It → Env → M (List D)
  vTgs : Tgs → List D → Env → M Env
  vTg : Tg → D → Env → M Env
  vSs : Ss → Env → M Flow
  vS : S → Env → M Flow
  runV : Fn → List R → M R
def realF : Fs := ⟨evEs, evE, evDs, evStar, evPart, evAnd, evOr, evTAnd, evTOr, evT, evIt, evTgs, evTg, evSs, evS, runFn⟩
noncomputable def sealed : {x : Fs // x = realF} := Classical.choice ⟨⟨realF, rfl⟩⟩
noncomputable def vEs : Es → Env → M (List R) := sealed.1.vEs
theorem vEs_eq : vEs = evEs := by unfold vEs; rw [sealed.2]; rfl
noncomputable def vE : E → Env → M R := sealed.1.vE
theorem vE_eq : vE = evE := by unfold vE; rw [sealed.2]; rfl
noncomputable def vDs : Es → Env → M (List D) := sealed.1.vDs
theorem vDs_eq : vDs = evDs := by unfold vDs; rw [sealed.2]; rfl
noncomputable def vStar : Es → Env → M (List D) := sealed.1.vStar
theorem vStar_eq : vStar = evStar := by unfold vStar; rw [sealed.2]; rfl
noncomputable def vPart : Es → Env → M (Option Int) := sealed.1.vPart
theorem vPart_eq : vPart = evPart := by unfold vPart; rw [sealed.2]; rfl
noncomputable def vAnd : Es → Env → M Bool := sealed.1.vAnd
theorem vAnd_eq : vAnd = evAnd := by unfold vAnd; rw [sealed.2]; rfl
noncomputable def vOr : Es → Env → M Bool := sealed.1.vOr
theorem vOr_eq : vOr = evOr := by unfold vOr; rw [sealed.2]; rfl
noncomputable def vTAnd : Ts → Env → M Bool := sealed.1.vTAnd
theorem vTAnd_eq : vTAnd = evTAnd := by unfold vTAnd; rw [sealed.2]; rfl
noncomputable def vTOr : Ts → Env → M Bool := sealed.1.vTOr
theorem vTOr_eq : vTOr = evTOr := by unfold vTOr; rw [sealed.2]; rfl
noncomputable def vT : T → Env → M Bool := sealed.1.vT
theorem vT_eq : vT = evT := by unfold vT; rw [sealed.2]; rfl
noncomputable def vIt : It → Env → M (List D) := sealed.1.vIt
theorem vIt_eq : vIt = evIt := by unfold vIt; rw [sealed.2]; rfl
noncomputable def vTgs : Tgs → List D → Env → M Env := sealed.1.vTgs
theorem vTgs_eq : vTgs = evTgs := by unfold vTgs; rw [sealed.2]; rfl
noncomputable def vTg : Tg → D → Env → M Env := sealed.1.vTg
theorem vTg_eq : vTg = evTg := by unfold vTg; rw [sealed.2]; rfl
noncomputable def vSs : Ss → Env → M Flow := sealed.1.vSs
theorem vSs_eq : vSs = evSs := by unfold vSs; rw [sealed.2]; rfl
noncomputable def vS : S → Env → M Flow := sealed.1.vS
theorem vS_eq : vS = evS := by unfold vS; rw [sealed.2]; rfl
noncomputable def runV : Fn → List R → M R := sealed.1.runV
theorem runV_eq : runV = runFn := by unfold runV; rw [sealed.2]; rfl

def thenF (f : Flow) (k : Env → M Flow) : M Flow := match f with
  | .nx e => k e
  | f => pure f
def isNonR : R → Bool
  | .dat .non => true
  | _ => false
def negR : R → M R
  | .dat (.int i) => pure (.dat (.int (-i)))
  | _ => M.no
def notR : R → M R
  | .dat (.bl b) => pure (.dat (.bl (!b)))
  | _ => M.no
def intR : R → M (Option Int)
  | .dat (.int i) => pure (some i)
  | _ => M.no
def blR : R → M Bool
  | .dat (.bl b) => pure b
  | _ => M.no
def isBR (no b : Bool) : R → M R
  | .dat (.bl c) => pure (.dat (.bl ((c == b) != no)))
  | _ => M.no
def fldR (k : Nat) : R → M R
  | .dat (.obj _ fs) => do let d ← M.opt fs[k]?; pure (.dat d)
  | _ => M.no
def tgD (d : D) (k : List D → M Env) : M Env := match d with
  | .tup xs => k xs
  | _ => M.no
noncomputable def vcomp (tg : Tg) (cond : Ts) (elt : E) (env : Env) : D → M (Option D) := fun d => vTg tg d env >>= fun env' => vTAnd cond env' >>= fun b => if b = true then (vE elt env' >>= fun r => use r >>= fun x => pure (some x)) else pure none
noncomputable def vdcomp (tg : Tg) (cond : Ts) (key val : E) (env : Env) : D → M (Option (D × D)) := fun d => vTg tg d env >>= fun env' => vTAnd cond env' >>= fun b => if b = true then (vE key env' >>= fun r => use r >>= fun x => vE val env' >>= fun r' => use r' >>= fun y => M.guard (keyOk x) >>= fun _ => pure (some (x, y))) else pure none
noncomputable def vcomp2 (tg : Tg) (it2 : It) (sl : List Nat) (env : Env) (f : Env → D → M (Option α)) : D → M (List (Option α)) := fun d => vTg tg d env >>= fun env' => vIt it2 env' >>= fun es => mapP (f (wipe env' sl)) es
noncomputable def vloop (n : Nat) (ws : List Nat) (t : Tg) (body : Ss) : D → Env → M Flow := fun d env => vTg t d env >>= fun env' => vSs body env' >>= fun fl => trim n ws fl
noncomputable def vzr (tg : Tg) (elt : E) (env : Env) : D → M D := fun d => vTg tg d env >>= fun env' => vE elt env' >>= fun r => use r
noncomputable def vbody (n : Nat) (ws : List Nat) (body : Ss) : Env → M Flow := fun env => vSs body env >>= fun fl => trim n ws fl
theorem vzr_df (tg elt env) : vzr tg elt env = fun d => (vTg tg d env >>= fun env' => vE elt env' >>= fun r => use r) := rfl
theorem vzr_ap (tg elt env d) (s : Sto) : vzr tg elt env d s = (vTg tg d env >>= fun env' => vE elt env' >>= fun r => use r) s := rfl
theorem vcomp_df (tg cond elt env) : vcomp tg cond elt env = fun d => (vTg tg d env >>= fun env' => vTAnd cond env' >>= fun b => if b = true then (vE elt env' >>= fun r => use r >>= fun x => pure (some x)) else pure none) := rfl
theorem vdcomp_df (tg cond key val env) : vdcomp tg cond key val env = fun d => (vTg tg d env >>= fun env' => vTAnd cond env' >>= fun b => if b = true then (vE key env' >>= fun r => use r >>= fun x => vE val env' >>= fun r' => use r' >>= fun y => M.guard (keyOk x) >>= fun _ => pure (some (x, y))) else pure none) := rfl
theorem vcomp2_df (tg it2 sl env) (f : Env → D → M (Option α)) : vcomp2 tg it2 sl env f = fun d => (vTg tg d env >>= fun env' => vIt it2 env' >>= fun es => mapP (f (wipe env' sl)) es) := rfl
theorem vloop_df (n ws t body) : vloop n ws t body = fun d env => (vTg t d env >>= fun env' => vSs body env' >>= fun fl => trim n ws fl) := rfl
theorem vbody_df (n ws body) : vbody n ws body = fun env => (vSs body env >>= fun fl => trim n ws fl) := rfl
theorem vcomp_eta (tg cond elt) : (vcomp tg cond elt) = fun env d => (vTg tg d env >>= fun env' => vTAnd cond env' >>= fun b => if b = true then (vE elt env' >>= fun r => use r >>= fun x => pure (some x)) else pure none) := rfl
theorem vdcomp_eta (tg cond key val) : (vdcomp tg cond key val) = fun env d => (vTg tg d env >>= fun env' => vTAnd cond env' >>= fun b => if b = true then (vE key env' >>= fun r => use r >>= fun x => vE val env' >>= fun r' => use r' >>= fun y => M.guard (keyOk x) >>= fun _ => pure (some (x, y))) else pure none) := rfl
theorem vcomp_ap (tg cond elt env d) (s : Sto) : vcomp tg cond elt env d s = (vTg tg d env >>= fun env' => vTAnd cond env' >>= fun b => if b = true then (vE elt env' >>= fun r => use r >>= fun x => pure (some x)) else pure none) s := rfl
theorem vdcomp_ap (tg cond key val env d) (s : Sto) : vdcomp tg cond key val env d s = (vTg tg d env >>= fun env' => vTAnd cond env' >>= fun b => if b = true then (vE key env' >>= fun r => use r >>= fun x => vE val env' >>= fun r' => use r' >>= fun y => M.guard (keyOk x) >>= fun _ => pure (some (x, y))) else pure none) s := rfl
theorem vcomp2_ap (tg it2 sl env) (f : Env → D → M (Option α)) (d) (s : Sto) : vcomp2 tg it2 sl env f d s = (vTg tg d env >>= fun env' => vIt it2 env' >>= fun es => mapP (f (wipe env' sl)) es) s := rfl
theorem vloop_ap (n ws t body d env) (s : Sto) : vloop n ws t body d env s = (vTg t d env >>= fun env' => vSs body env' >>= fun fl => trim n ws fl) s := rfl
theorem vbody_ap (n ws body env) (s : Sto) : vbody n ws body env s = (vSs body env >>= fun fl => trim n ws fl) s := rfl
theorem vE_k {d u1 u_s} : vE (.k d) u1 u_s = ( pure (.dat d) : M R) u_s := by
  simp only [vEs_eq, vE_eq, vDs_eq, vStar_eq, vPart_eq, vAnd_eq, vOr_eq, vTAnd_eq, vTOr_eq, vT_eq, vIt_eq, vTgs_eq, vTg_eq, vSs_eq, vS_eq, runV_eq]
  rfl
theorem vE_v {i env u_s} : vE (.v i) env u_s = ( M.opt env[i]?.join : M R) u_s := by
  simp only [vEs_eq, vE_eq, vDs_eq, vStar_eq, vPart_eq, vAnd_eq, vOr_eq, vTAnd_eq, vTOr_eq, vT_eq, vIt_eq, vTgs_eq, vTg_eq, vSs_eq, vS_eq, runV_eq]
  rfl
theorem vE_glob {u1 d u2 u_s} : vE (.glob u1 d) u2 u_s = ( pure (.dat d) : M R) u_s := by
  simp only [vEs_eq, vE_eq, vDs_eq, vStar_eq, vPart_eq, vAnd_eq, vOr_eq, vTAnd_eq, vTOr_eq, vT_eq, vIt_eq, vTgs_eq, vTg_eq, vSs_eq, vS_eq, runV_eq]
  rfl
theorem vE_bin {op a b env u_s} : vE (.bin op a b) env u_s = ( do
    let x ← vE a env
    let y ← vE b env
    let p ← peek x
    let q ← peek y
    binop op p q
   : M R) u_s := by
  simp only [vEs_eq, vE_eq, vDs_eq, vStar_eq, vPart_eq, vAnd_eq, vOr_eq, vTAnd_eq, vTOr_eq, vT_eq, vIt_eq, vTgs_eq, vTg_eq, vSs_eq, vS_eq, runV_eq]
  rfl
theorem vE_neg {a env} {u_s : Sto} : vE (.neg a) env u_s = (vE a env >>= negR) u_s := by
  refine congrFun (?_ : vE (.neg a) env = (vE a env >>= negR)) u_s
  simp only [vzr_df, vcomp_df, vdcomp_df, vcomp_eta, vdcomp_eta, vcomp2_df, vloop_df, vbody_df, vEs_eq, vE_eq, vDs_eq, vStar_eq, vPart_eq, vAnd_eq, vOr_eq, vTAnd_eq, vTOr_eq, vT_eq, vIt_eq, vTgs_eq, vTg_eq, vSs_eq, vS_eq, runV_eq]
  first | rfl | (refine congrArg (M.bind _) (funext fun x => ?_); rcases x with d | d | d; all_goals first | rfl | (cases no <;> rfl) | (cases d; all_goals first | rfl | (rename_i b; cases b <;> rfl) | (cases no <;> rfl) | (cases d <;> cases no <;> rfl)))| (cases d <;> rfl)
theorem vE_cmp {op a b env u_s} : vE (.cmp op a b) env u_s = ( do
    let x ← vE a env
    let y ← vE b env
    let p ← peek x
    let q ← peek y
    let r ← cmpop op p q
    pure (.dat (.bl r))
   : M R) u_s := by
  simp only [vEs_eq, vE_eq, vDs_eq, vStar_eq, vPart_eq, vAnd_eq, vOr_eq, vTAnd_eq, vTOr_eq, vT_eq, vIt_eq, vTgs_eq, vTg_eq, vSs_eq, vS_eq, runV_eq]
  rfl
theorem vE_dctk {ks vs u1 u_s} : vE (.dctk ks vs) u1 u_s = ( do M.guard (dctkB ks vs); pure (.own (.dct ks vs)) : M R) u_s := by
  simp only [vEs_eq, vE_eq, vDs_eq, vStar_eq, vPart_eq, vAnd_eq, vOr_eq, vTAnd_eq, vTOr_eq, vT_eq, vIt_eq, vTgs_eq, vTg_eq, vSs_eq, vS_eq, runV_eq]
  rfl
theorem vE_repEq {neg a b env u_s} : vE (.repEq neg a b) env u_s = ( do
    let x ← vE a env
    let p ← peek x
    M.guard (repOk p)
    let y ← vE b env
    let q ← peek y
    M.guard (D.beq p q)
    pure (.dat (.bl (!neg)))
   : M R) u_s := by
  simp only [vEs_eq, vE_eq, vDs_eq, vStar_eq, vPart_eq, vAnd_eq, vOr_eq, vTAnd_eq, vTOr_eq, vT_eq, vIt_eq, vTgs_eq, vTg_eq, vSs_eq, vS_eq, runV_eq]
  rfl
theorem vE_chain {op op' a b c env u_s} : vE (.chain op op' a b c) env u_s = ( do
    let x ← vE a env
    let y ← vE b env
    let p ← peek x
    let q ← peek y
    let r ← cmpop op p q
    if r then do
      let z ← vE c env
      let q' ← peek y
      let t ← peek z
      let r' ← cmpop op' q' t
      pure (.dat (.bl r'))
    else pure (.dat (.bl false))
   : M R) u_s := by
  simp only [vEs_eq, vE_eq, vDs_eq, vStar_eq, vPart_eq, vAnd_eq, vOr_eq, vTAnd_eq, vTOr_eq, vT_eq, vIt_eq, vTgs_eq, vTg_eq, vSs_eq, vS_eq, runV_eq]
  rfl
theorem vE_isN {no a env} {u_s : Sto} : vE (.isN no a) env u_s = (vE a env >>= fun x => pure (.dat (.bl (isNonR x != no)))) u_s := by
  refine congrFun (?_ : vE (.isN no a) env = (vE a env >>= fun x => pure (.dat (.bl (isNonR x != no))))) u_s
  simp only [vzr_df, vcomp_df, vdcomp_df, vcomp_eta, vdcomp_eta, vcomp2_df, vloop_df, vbody_df, vEs_eq, vE_eq, vDs_eq, vStar_eq, vPart_eq, vAnd_eq, vOr_eq, vTAnd_eq, vTOr_eq, vT_eq, vIt_eq, vTgs_eq, vTg_eq, vSs_eq, vS_eq, runV_eq]
  first | rfl | (refine congrArg (M.bind _) (funext fun x => ?_); rcases x with d | d | d; all_goals first | rfl | (cases no <;> rfl) | (cases d; all_goals first | rfl | (rename_i b; cases b <;> rfl) | (cases no <;> rfl) | (cases d <;> cases no <;> rfl)))| (cases d <;> rfl)
theorem vE_and {es env u_s} : vE (.and es) env u_s = ( do let b ← vAnd es env; pure (.dat (.bl b)) : M R) u_s := by
  simp only [vEs_eq, vE_eq, vDs_eq, vStar_eq, vPart_eq, vAnd_eq, vOr_eq, vTAnd_eq, vTOr_eq, vT_eq, vIt_eq, vTgs_eq, vTg_eq, vSs_eq, vS_eq, runV_eq]
  rfl
theorem vE_or {es env u_s} : vE (.or es) env u_s = ( do let b ← vOr es env; pure (.dat (.bl b)) : M R) u_s := by
  simp only [vEs_eq, vE_eq, vDs_eq, vStar_eq, vPart_eq, vAnd_eq, vOr_eq, vTAnd_eq, vTOr_eq, vT_eq, vIt_eq, vTgs_eq, vTg_eq, vSs_eq, vS_eq, runV_eq]
  rfl
theorem vE_not {a env} {u_s : Sto} : vE (.not a) env u_s = (vE a env >>= notR) u_s := by
  refine congrFun (?_ : vE (.not a) env = (vE a env >>= notR)) u_s
  simp only [vzr_df, vcomp_df, vdcomp_df, vcomp_eta, vdcomp_eta, vcomp2_df, vloop_df, vbody_df, vEs_eq, vE_eq, vDs_eq, vStar_eq, vPart_eq, vAnd_eq, vOr_eq, vTAnd_eq, vTOr_eq, vT_eq, vIt_eq, vTgs_eq, vTg_eq, vSs_eq, vS_eq, runV_eq]
  first | rfl | (refine congrArg (M.bind _) (funext fun x => ?_); rcases x with d | d | d; all_goals first | rfl | (cases no <;> rfl) | (cases d; all_goals first | rfl | (rename_i b; cases b <;> rfl) | (cases no <;> rfl) | (cases d <;> cases no <;> rfl)))| (cases d <;> rfl)
theorem vE_ite {c a b env u_s} : vE (.ite c a b) env u_s = ( do
    if ← vT c env then vE a env else vE b env
   : M R) u_s := by
  simp only [vEs_eq, vE_eq, vDs_eq, vStar_eq, vPart_eq, vAnd_eq, vOr_eq, vTAnd_eq, vTOr_eq, vT_eq, vIt_eq, vTgs_eq, vTg_eq, vSs_eq, vS_eq, runV_eq]
  rfl
theorem vE_tup {es env u_s} : vE (.tup es) env u_s = ( do let ds ← vDs es env; pure (.dat (.tup ds)) : M R) u_s := by
  simp only [vEs_eq, vE_eq, vDs_eq, vStar_eq, vPart_eq, vAnd_eq, vOr_eq, vTAnd_eq, vTOr_eq, vT_eq, vIt_eq, vTgs_eq, vTg_eq, vSs_eq, vS_eq, runV_eq]
  rfl
theorem vE_lst {es env u_s} : vE (.lst es) env u_s = ( do let ds ← vDs es env; pure (.own (.lst ds)) : M R) u_s := by
  simp only [vEs_eq, vE_eq, vDs_eq, vStar_eq, vPart_eq, vAnd_eq, vOr_eq, vTAnd_eq, vTOr_eq, vT_eq, vIt_eq, vTgs_eq, vTg_eq, vSs_eq, vS_eq, runV_eq]
  rfl
theorem vE_ix {a i env u_s} : vE (.ix a i) env u_s = ( do
    let x ← vE a env
    let y ← vE i env
    let p ← peek x
    ixB p y
   : M R) u_s := by
  simp only [vEs_eq, vE_eq, vDs_eq, vStar_eq, vPart_eq, vAnd_eq, vOr_eq, vTAnd_eq, vTOr_eq, vT_eq, vIt_eq, vTgs_eq, vTg_eq, vSs_eq, vS_eq, runV_eq]
  rfl
theorem vE_sl {a lo hi env u_s} : vE (.sl a lo hi) env u_s = ( do
    let x ← vE a env
    let l ← vPart lo env
    let h ← vPart hi env
    let p ← peek x
    slB p l h
   : M R) u_s := by
  simp only [vEs_eq, vE_eq, vDs_eq, vStar_eq, vPart_eq, vAnd_eq, vOr_eq, vTAnd_eq, vTOr_eq, vT_eq, vIt_eq, vTgs_eq, vTg_eq, vSs_eq, vS_eq, runV_eq]
  rfl
theorem vE_isI {t a env u_s} : vE (.isI t a) env u_s = ( do
    let x ← vE a env
    let p ← peek x
    M.guard (tyName p != "object")
    pure (.dat (.bl (isTy t p)))
   : M R) u_s := by
  simp only [vEs_eq, vE_eq, vDs_eq, vStar_eq, vPart_eq, vAnd_eq, vOr_eq, vTAnd_eq, vTOr_eq, vT_eq, vIt_eq, vTgs_eq, vTg_eq, vSs_eq, vS_eq, runV_eq]
  rfl
theorem vE_call {f u1 es env u_s} : vE (.call f u1 es) env u_s = ( do
    let rs ← vEs es env
    runV f rs
   : M R) u_s := by
  simp only [vEs_eq, vE_eq, vDs_eq, vStar_eq, vPart_eq, vAnd_eq, vOr_eq, vTAnd_eq, vTOr_eq, vT_eq, vIt_eq, vTgs_eq, vTg_eq, vSs_eq, vS_eq, runV_eq]
  rfl
theorem vE_callK {f u1 u2 u3 dd perm es kes env u_s} : vE (.callK f u1 u2 u3 dd perm es kes) env u_s = ( do
    let ds ← vDs es env
    let ws ← vDs kes env
    runV f ((permL perm (ds ++ (ws ++ dd))).map R.dat)
   : M R) u_s := by
  simp only [vEs_eq, vE_eq, vDs_eq, vStar_eq, vPart_eq, vAnd_eq, vOr_eq, vTAnd_eq, vTOr_eq, vT_eq, vIt_eq, vTgs_eq, vTg_eq, vSs_eq, vS_eq, runV_eq]
  rfl
theorem vE_bi {b es env u_s} : vE (.bi b es) env u_s = ( do
    let rs ← vEs es env
    let ds ← peeks rs
    bltn b ds
   : M R) u_s := by
  simp only [vEs_eq, vE_eq, vDs_eq, vStar_eq, vPart_eq, vAnd_eq, vOr_eq, vTAnd_eq, vTOr_eq, vT_eq, vIt_eq, vTgs_eq, vTg_eq, vSs_eq, vS_eq, runV_eq]
  rfl
theorem vE_comp {tg it cond elt env} {u_s : Sto} : vE (.comp tg it cond elt) env u_s = (vIt it env >>= fun ds => compM (vcomp tg cond elt (wipe env tg.slots)) ds >>= fun xs => pure (.own (.lst xs))) u_s := by
  refine congrFun (?_ : vE (.comp tg it cond elt) env = (vIt it env >>= fun ds => compM (vcomp tg cond elt (wipe env tg.slots)) ds >>= fun xs => pure (.own (.lst xs)))) u_s
  simp only [vzr_df, vcomp_df, vdcomp_df, vcomp_eta, vdcomp_eta, vcomp2_df, vloop_df, vbody_df, vEs_eq, vE_eq, vDs_eq, vStar_eq, vPart_eq, vAnd_eq, vOr_eq, vTAnd_eq, vTOr_eq, vT_eq, vIt_eq, vTgs_eq, vTg_eq, vSs_eq, vS_eq, runV_eq]
  first | rfl | (refine congrArg (M.bind _) (funext fun x => ?_); rcases x with d | d | d; all_goals first | rfl | (cases no <;> rfl) | (cases d; all_goals first | rfl | (rename_i b; cases b <;> rfl) | (cases no <;> rfl) | (cases d <;> cases no <;> rfl)))| (cases d <;> rfl)
theorem vE_mth {m a es env u_s} : vE (.mth m a es) env u_s = ( do
    let x ← vE a env
    let q0 ← live x
    lstG q0.2
    let ds ← vDs es env
    let q ← live x
    mthB m q.1 q.2 ds
   : M R) u_s := by
  simp only [vEs_eq, vE_eq, vDs_eq, vStar_eq, vPart_eq, vAnd_eq, vOr_eq, vTAnd_eq, vTOr_eq, vT_eq, vIt_eq, vTgs_eq, vTg_eq, vSs_eq, vS_eq, runV_eq]
  rfl
theorem vE_lrng {t es env u_s} : vE (.lrng t es) env u_s = ( do
    let rs ← vEs es env
    let ds ← rngB rs
    pure (rngR t ds)
   : M R) u_s := by
  simp only [vEs_eq, vE_eq, vDs_eq, vStar_eq, vPart_eq, vAnd_eq, vOr_eq, vTAnd_eq, vTOr_eq, vT_eq, vIt_eq, vTgs_eq, vTg_eq, vSs_eq, vS_eq, runV_eq]
  rfl
theorem vE_compp {tg it cond elt env} {u_s : Sto} : vE (.compp tg it cond elt) env u_s = (vIt it env >>= fun ds => mapP (vcomp tg cond elt (wipe env tg.slots)) ds >>= fun os => pure (.own (.lst (os.filterMap id)))) u_s := by
  refine congrFun (?_ : vE (.compp tg it cond elt) env = (vIt it env >>= fun ds => mapP (vcomp tg cond elt (wipe env tg.slots)) ds >>= fun os => pure (.own (.lst (os.filterMap id))))) u_s
  simp only [vzr_df, vcomp_df, vdcomp_df, vcomp_eta, vdcomp_eta, vcomp2_df, vloop_df, vbody_df, vEs_eq, vE_eq, vDs_eq, vStar_eq, vPart_eq, vAnd_eq, vOr_eq, vTAnd_eq, vTOr_eq, vT_eq, vIt_eq, vTgs_eq, vTg_eq, vSs_eq, vS_eq, runV_eq]
  first | rfl | (refine congrArg (M.bind _) (funext fun x => ?_); rcases x with d | d | d; all_goals first | rfl | (cases no <;> rfl) | (cases d; all_goals first | rfl | (rename_i b; cases b <;> rfl) | (cases no <;> rfl) | (cases d <;> cases no <;> rfl)))| (cases d <;> rfl)
theorem vE_comp2 {tg it tg2 it2 cond elt env} {u_s : Sto} : vE (.comp2 tg it tg2 it2 cond elt) env u_s = (vIt it env >>= fun ds => mapP (vcomp2 tg it2 tg2.slots (wipe env (tg.slots ++ tg2.slots)) (vcomp tg2 cond elt)) ds >>= fun oss => flatB (oss.map fun os => os.filterMap id) >>= fun xs => pure (.own (.lst xs))) u_s := by
  refine congrFun (?_ : vE (.comp2 tg it tg2 it2 cond elt) env = (vIt it env >>= fun ds => mapP (vcomp2 tg it2 tg2.slots (wipe env (tg.slots ++ tg2.slots)) (vcomp tg2 cond elt)) ds >>= fun oss => flatB (oss.map fun os => os.filterMap id) >>= fun xs => pure (.own (.lst xs)))) u_s
  simp only [vzr_df, vcomp_df, vdcomp_df, vcomp_eta, vdcomp_eta, vcomp2_df, vloop_df, vbody_df, vEs_eq, vE_eq, vDs_eq, vStar_eq, vPart_eq, vAnd_eq, vOr_eq, vTAnd_eq, vTOr_eq, vT_eq, vIt_eq, vTgs_eq, vTg_eq, vSs_eq, vS_eq, runV_eq]
  first | rfl | (refine congrArg (M.bind _) (funext fun x => ?_); rcases x with d | d | d; all_goals first | rfl | (cases no <;> rfl) | (cases d; all_goals first | rfl | (rename_i b; cases b <;> rfl) | (cases no <;> rfl) | (cases d <;> cases no <;> rfl)))| (cases d <;> rfl)
theorem vE_dcomp {tg it cond key val env} {u_s : Sto} : vE (.dcomp tg it cond key val) env u_s = (vIt it env >>= fun ds => mapP (vdcomp tg cond key val (wipe env tg.slots)) ds >>= fun os => pure (.own (dctOf (os.filterMap id) [] []))) u_s := by
  refine congrFun (?_ : vE (.dcomp tg it cond key val) env = (vIt it env >>= fun ds => mapP (vdcomp tg cond key val (wipe env tg.slots)) ds >>= fun os => pure (.own (dctOf (os.filterMap id) [] [])))) u_s
  simp only [vzr_df, vcomp_df, vdcomp_df, vcomp_eta, vdcomp_eta, vcomp2_df, vloop_df, vbody_df, vEs_eq, vE_eq, vDs_eq, vStar_eq, vPart_eq, vAnd_eq, vOr_eq, vTAnd_eq, vTOr_eq, vT_eq, vIt_eq, vTgs_eq, vTg_eq, vSs_eq, vS_eq, runV_eq]
  first | rfl | (refine congrArg (M.bind _) (funext fun x => ?_); rcases x with d | d | d; all_goals first | rfl | (cases no <;> rfl) | (cases d; all_goals first | rfl | (rename_i b; cases b <;> rfl) | (cases no <;> rfl) | (cases d <;> cases no <;> rfl)))| (cases d <;> rfl)
theorem vE_dcomp2 {tg it tg2 it2 cond key val env} {u_s : Sto} : vE (.dcomp2 tg it tg2 it2 cond key val) env u_s = (vIt it env >>= fun ds => mapP (vcomp2 tg it2 tg2.slots (wipe env (tg.slots ++ tg2.slots)) (vdcomp tg2 cond key val)) ds >>= fun oss => flatB (oss.map fun os => os.filterMap id) >>= fun xs => pure (.own (dctOf xs [] []))) u_s := by
  refine congrFun (?_ : vE (.dcomp2 tg it tg2 it2 cond key val) env = (vIt it env >>= fun ds => mapP (vcomp2 tg it2 tg2.slots (wipe env (tg.slots ++ tg2.slots)) (vdcomp tg2 cond key val)) ds >>= fun oss => flatB (oss.map fun os => os.filterMap id) >>= fun xs => pure (.own (dctOf xs [] [])))) u_s
  simp only [vzr_df, vcomp_df, vdcomp_df, vcomp_eta, vdcomp_eta, vcomp2_df, vloop_df, vbody_df, vEs_eq, vE_eq, vDs_eq, vStar_eq, vPart_eq, vAnd_eq, vOr_eq, vTAnd_eq, vTOr_eq, vT_eq, vIt_eq, vTgs_eq, vTg_eq, vSs_eq, vS_eq, runV_eq]
  first | rfl | (refine congrArg (M.bind _) (funext fun x => ?_); rcases x with d | d | d; all_goals first | rfl | (cases no <;> rfl) | (cases d; all_goals first | rfl | (rename_i b; cases b <;> rfl) | (cases no <;> rfl) | (cases d <;> cases no <;> rfl)))| (cases d <;> rfl)
theorem vE_tups {es env u_s} : vE (.tups es) env u_s = ( do let ds ← vStar es env; M.guard (lenOk ds.length); pure (.dat (.tup ds)) : M R) u_s := by
  simp only [vEs_eq, vE_eq, vDs_eq, vStar_eq, vPart_eq, vAnd_eq, vOr_eq, vTAnd_eq, vTOr_eq, vT_eq, vIt_eq, vTgs_eq, vTg_eq, vSs_eq, vS_eq, runV_eq]
  rfl
theorem vE_lsts {es env u_s} : vE (.lsts es) env u_s = ( do let ds ← vStar es env; M.guard (lenOk ds.length); pure (.own (.lst ds)) : M R) u_s := by
  simp only [vEs_eq, vE_eq, vDs_eq, vStar_eq, vPart_eq, vAnd_eq, vOr_eq, vTAnd_eq, vTOr_eq, vT_eq, vIt_eq, vTgs_eq, vTg_eq, vSs_eq, vS_eq, runV_eq]
  rfl
theorem vE_sls {st a env u_s} : vE (.sls st a) env u_s = ( do
    let x ← vE a env
    let p ← peek x
    stB st p
   : M R) u_s := by
  simp only [vEs_eq, vE_eq, vDs_eq, vStar_eq, vPart_eq, vAnd_eq, vOr_eq, vTAnd_eq, vTOr_eq, vT_eq, vIt_eq, vTgs_eq, vTg_eq, vSs_eq, vS_eq, runV_eq]
  rfl
theorem vE_isIs {ts a env u_s} : vE (.isIs ts a) env u_s = ( do
    let x ← vE a env
    let p ← peek x
    M.guard (tyName p != "object")
    pure (.dat (.bl (ts.any fun t => isTy t p)))
   : M R) u_s := by
  simp only [vEs_eq, vE_eq, vDs_eq, vStar_eq, vPart_eq, vAnd_eq, vOr_eq, vTAnd_eq, vTOr_eq, vT_eq, vIt_eq, vTgs_eq, vTg_eq, vSs_eq, vS_eq, runV_eq]
  rfl
theorem vE_isB {no b a env} {u_s : Sto} : vE (.isB no b a) env u_s = (vE a env >>= isBR no b) u_s := by
  refine congrFun (?_ : vE (.isB no b a) env = (vE a env >>= isBR no b)) u_s
  simp only [vzr_df, vcomp_df, vdcomp_df, vcomp_eta, vdcomp_eta, vcomp2_df, vloop_df, vbody_df, vEs_eq, vE_eq, vDs_eq, vStar_eq, vPart_eq, vAnd_eq, vOr_eq, vTAnd_eq, vTOr_eq, vT_eq, vIt_eq, vTgs_eq, vTg_eq, vSs_eq, vS_eq, runV_eq]
  first | rfl | (refine congrArg (M.bind _) (funext fun x => ?_); rcases x with d | d | d; all_goals first | rfl | (cases no <;> rfl) | (cases d; all_goals first | rfl | (rename_i b; cases b <;> rfl) | (cases no <;> rfl) | (cases d <;> cases no <;> rfl)))| (cases d <;> rfl)
theorem vE_dct {ks vs env u_s} : vE (.dct ks vs) env u_s = ( do
    let as ← vDs ks env
    let bs ← vDs vs env
    M.guard (as.all keyOk)
    pure (.own (dctOf (as.zip bs) [] []))
   : M R) u_s := by
  simp only [vEs_eq, vE_eq, vDs_eq, vStar_eq, vPart_eq, vAnd_eq, vOr_eq, vTAnd_eq, vTOr_eq, vT_eq, vIt_eq, vTgs_eq, vTg_eq, vSs_eq, vS_eq, runV_eq]
  rfl
theorem vE_setw {w a env u_s} : vE (.setw w a) env u_s = ( do
    let x ← vE a env
    let p ← peek x
    setB w p
   : M R) u_s := by
  simp only [vEs_eq, vE_eq, vDs_eq, vStar_eq, vPart_eq, vAnd_eq, vOr_eq, vTAnd_eq, vTOr_eq, vT_eq, vIt_eq, vTgs_eq, vTg_eq, vSs_eq, vS_eq, runV_eq]
  rfl
theorem vE_xorw {w a b env u_s} : vE (.xorw w a b) env u_s = ( do
    let x ← vE a env
    let p ← peek x
    let y ← vE b env
    let q ← peek y
    xorB w p q
   : M R) u_s := by
  simp only [vEs_eq, vE_eq, vDs_eq, vStar_eq, vPart_eq, vAnd_eq, vOr_eq, vTAnd_eq, vTOr_eq, vT_eq, vIt_eq, vTgs_eq, vTg_eq, vSs_eq, vS_eq, runV_eq]
  rfl
theorem vE_rm {m a es env u_s} : vE (.rm m a es) env u_s = ( do
    let x ← vE a env
    let ds ← vDs es env
    let p ← peek x
    rmB m p ds
   : M R) u_s := by
  simp only [vEs_eq, vE_eq, vDs_eq, vStar_eq, vPart_eq, vAnd_eq, vOr_eq, vTAnd_eq, vTOr_eq, vT_eq, vIt_eq, vTgs_eq, vTg_eq, vSs_eq, vS_eq, runV_eq]
  rfl
theorem vE_rep {ne a b env u_s} : vE (.rep ne a b) env u_s = ( do
    let x ← vE a env
    let p ← use x
    let y ← vE b env
    let q ← use y
    M.guard (D.beq p q)
    pure (.dat (.bl (!ne)))
   : M R) u_s := by
  simp only [vEs_eq, vE_eq, vDs_eq, vStar_eq, vPart_eq, vAnd_eq, vOr_eq, vTAnd_eq, vTOr_eq, vT_eq, vIt_eq, vTgs_eq, vTg_eq, vSs_eq, vS_eq, runV_eq]
  rfl
theorem vE_mk {f u1 es env u_s} : vE (.mk f u1 es) env u_s = ( do
    let rs ← vEs es env
    runV f rs
   : M R) u_s := by
  simp only [vEs_eq, vE_eq, vDs_eq, vStar_eq, vPart_eq, vAnd_eq, vOr_eq, vTAnd_eq, vTOr_eq, vT_eq, vIt_eq, vTgs_eq, vTg_eq, vSs_eq, vS_eq, runV_eq]
  rfl
theorem vE_fld {x k a env} {u_s : Sto} : vE (.fld x k a) env u_s = (vE a env >>= fldR k) u_s := by
  refine congrFun (?_ : vE (.fld x k a) env = (vE a env >>= fldR k)) u_s
  simp only [vzr_df, vcomp_df, vdcomp_df, vcomp_eta, vdcomp_eta, vcomp2_df, vloop_df, vbody_df, vEs_eq, vE_eq, vDs_eq, vStar_eq, vPart_eq, vAnd_eq, vOr_eq, vTAnd_eq, vTOr_eq, vT_eq, vIt_eq, vTgs_eq, vTg_eq, vSs_eq, vS_eq, runV_eq]
  first | rfl | (refine congrArg (M.bind _) (funext fun x => ?_); rcases x with d | d | d; all_goals first | rfl | (cases no <;> rfl) | (cases d; all_goals first | rfl | (rename_i b; cases b <;> rfl) | (cases no <;> rfl) | (cases d <;> cases no <;> rfl)))| (cases d <;> rfl)
theorem vE_zip {a b env u_s} : vE (.zip a b) env u_s = ( do
    let x ← vE a env
    let p ← use x
    let y ← vE b env
    let q ← use y
    let as ← itemsOf p
    let bs ← itemsOf q
    pure (.own (.itr (zipD as bs)))
   : M R) u_s := by
  simp only [vEs_eq, vE_eq, vDs_eq, vStar_eq, vPart_eq, vAnd_eq, vOr_eq, vTAnd_eq, vTOr_eq, vT_eq, vIt_eq, vTgs_eq, vTg_eq, vSs_eq, vS_eq, runV_eq]
  rfl
theorem vEs_nil {u1 u_s} : vEs .nil u1 u_s = ( pure [] : M (List R)) u_s := by
  simp only [vEs_eq, vE_eq, vDs_eq, vStar_eq, vPart_eq, vAnd_eq, vOr_eq, vTAnd_eq, vTOr_eq, vT_eq, vIt_eq, vTgs_eq, vTg_eq, vSs_eq, vS_eq, runV_eq]
  rfl
theorem vEs_cons {e es env u_s} : vEs (.cons e es) env u_s = ( do let r ← vE e env; let rs ← vEs es env; pure (r :: rs) : M (List R)) u_s := by
  simp only [vEs_eq, vE_eq, vDs_eq, vStar_eq, vPart_eq, vAnd_eq, vOr_eq, vTAnd_eq, vTOr_eq, vT_eq, vIt_eq, vTgs_eq, vTg_eq, vSs_eq, vS_eq, runV_eq]
  rfl
theorem vDs_nil {u1 u_s} : vDs .nil u1 u_s = ( pure [] : M (List D)) u_s := by
  simp only [vEs_eq, vE_eq, vDs_eq, vStar_eq, vPart_eq, vAnd_eq, vOr_eq, vTAnd_eq, vTOr_eq, vT_eq, vIt_eq, vTgs_eq, vTg_eq, vSs_eq, vS_eq, runV_eq]
  rfl
theorem vDs_cons {e es env u_s} : vDs (.cons e es) env u_s = ( do let r ← vE e env; let d ← use r; let ds ← vDs es env; pure (d :: ds) : M (List D)) u_s := by
  simp only [vEs_eq, vE_eq, vDs_eq, vStar_eq, vPart_eq, vAnd_eq, vOr_eq, vTAnd_eq, vTOr_eq, vT_eq, vIt_eq, vTgs_eq, vTg_eq, vSs_eq, vS_eq, runV_eq]
  rfl
theorem vStar_nil {u1 u_s} : vStar .nil u1 u_s = ( pure [] : M (List D)) u_s := by
  simp only [vEs_eq, vE_eq, vDs_eq, vStar_eq, vPart_eq, vAnd_eq, vOr_eq, vTAnd_eq, vTOr_eq, vT_eq, vIt_eq, vTgs_eq, vTg_eq, vSs_eq, vS_eq, runV_eq]
  rfl
theorem vStar_cons {e es env u_s} : vStar (.cons e es) env u_s = ( do let r ← vE e env; let d ← use r; let ds ← vStar es env; pure (d :: ds) : M (List D)) u_s := by
  simp only [vEs_eq, vE_eq, vDs_eq, vStar_eq, vPart_eq, vAnd_eq, vOr_eq, vTAnd_eq, vTOr_eq, vT_eq, vIt_eq, vTgs_eq, vTg_eq, vSs_eq, vS_eq, runV_eq]
  rfl
theorem vStar_star {e es env u_s} : vStar (.star e es) env u_s = ( do let r ← vE e env; let d ← use r; let xs ← itemsOf d; let ds ← vStar es env; pure (xs ++ ds) : M (List D)) u_s := by
  simp only [vEs_eq, vE_eq, vDs_eq, vStar_eq, vPart_eq, vAnd_eq, vOr_eq, vTAnd_eq, vTOr_eq, vT_eq, vIt_eq, vTgs_eq, vTg_eq, vSs_eq, vS_eq, runV_eq]
  rfl
theorem vPart_nil {u1 u_s} : vPart .nil u1 u_s = ( pure none : M (Option Int)) u_s := by
  simp only [vEs_eq, vE_eq, vDs_eq, vStar_eq, vPart_eq, vAnd_eq, vOr_eq, vTAnd_eq, vTOr_eq, vT_eq, vIt_eq, vTgs_eq, vTg_eq, vSs_eq, vS_eq, runV_eq]
  rfl
theorem vPart_cons {e u1 env} {u_s : Sto} : vPart (.cons e u1) env u_s = (vE e env >>= intR) u_s := by
  refine congrFun (?_ : vPart (.cons e u1) env = (vE e env >>= intR)) u_s
  simp only [vzr_df, vcomp_df, vdcomp_df, vcomp_eta, vdcomp_eta, vcomp2_df, vloop_df, vbody_df, vEs_eq, vE_eq, vDs_eq, vStar_eq, vPart_eq, vAnd_eq, vOr_eq, vTAnd_eq, vTOr_eq, vT_eq, vIt_eq, vTgs_eq, vTg_eq, vSs_eq, vS_eq, runV_eq]
  first | rfl | (refine congrArg (M.bind _) (funext fun x => ?_); rcases x with d | d | d; all_goals first | rfl | (cases no <;> rfl) | (cases d; all_goals first | rfl | (rename_i b; cases b <;> rfl) | (cases no <;> rfl) | (cases d <;> cases no <;> rfl)))| (cases d <;> rfl)
theorem vAnd_nil {u1 u_s} : vAnd .nil u1 u_s = ( pure true : M Bool) u_s := by
  simp only [vEs_eq, vE_eq, vDs_eq, vStar_eq, vPart_eq, vAnd_eq, vOr_eq, vTAnd_eq, vTOr_eq, vT_eq, vIt_eq, vTgs_eq, vTg_eq, vSs_eq, vS_eq, runV_eq]
  rfl
theorem vAnd_cons {e es env} {u_s : Sto} : vAnd (.cons e es) env u_s = (vE e env >>= fun r => blR r >>= fun b => if b = true then vAnd es env else pure false) u_s := by
  refine congrFun (?_ : vAnd (.cons e es) env = (vE e env >>= fun r => blR r >>= fun b => if b = true then vAnd es env else pure false)) u_s
  simp only [vzr_df, vcomp_df, vdcomp_df, vcomp_eta, vdcomp_eta, vcomp2_df, vloop_df, vbody_df, vEs_eq, vE_eq, vDs_eq, vStar_eq, vPart_eq, vAnd_eq, vOr_eq, vTAnd_eq, vTOr_eq, vT_eq, vIt_eq, vTgs_eq, vTg_eq, vSs_eq, vS_eq, runV_eq]
  first | rfl | (refine congrArg (M.bind _) (funext fun x => ?_); rcases x with d | d | d; all_goals first | rfl | (cases no <;> rfl) | (cases d; all_goals first | rfl | (rename_i b; cases b <;> rfl) | (cases no <;> rfl) | (cases d <;> cases no <;> rfl)))| (cases d <;> rfl)
theorem vOr_nil {u1 u_s} : vOr .nil u1 u_s = ( pure false : M Bool) u_s := by
  simp only [vEs_eq, vE_eq, vDs_eq, vStar_eq, vPart_eq, vAnd_eq, vOr_eq, vTAnd_eq, vTOr_eq, vT_eq, vIt_eq, vTgs_eq, vTg_eq, vSs_eq, vS_eq, runV_eq]
  rfl
theorem vOr_cons {e es env} {u_s : Sto} : vOr (.cons e es) env u_s = (vE e env >>= fun r => blR r >>= fun b => if b = true then pure true else vOr es env) u_s := by
  refine congrFun (?_ : vOr (.cons e es) env = (vE e env >>= fun r => blR r >>= fun b => if b = true then pure true else vOr es env)) u_s
  simp only [vzr_df, vcomp_df, vdcomp_df, vcomp_eta, vdcomp_eta, vcomp2_df, vloop_df, vbody_df, vEs_eq, vE_eq, vDs_eq, vStar_eq, vPart_eq, vAnd_eq, vOr_eq, vTAnd_eq, vTOr_eq, vT_eq, vIt_eq, vTgs_eq, vTg_eq, vSs_eq, vS_eq, runV_eq]
  first | rfl | (refine congrArg (M.bind _) (funext fun x => ?_); rcases x with d | d | d; all_goals first | rfl | (cases no <;> rfl) | (cases d; all_goals first | rfl | (rename_i b; cases b <;> rfl) | (cases no <;> rfl) | (cases d <;> cases no <;> rfl)))| (cases d <;> rfl)
theorem vT_val {e env u_s} : vT (.val e) env u_s = ( do let r ← vE e env; let d ← peek r; truth d : M Bool) u_s := by
  simp only [vEs_eq, vE_eq, vDs_eq, vStar_eq, vPart_eq, vAnd_eq, vOr_eq, vTAnd_eq, vTOr_eq, vT_eq, vIt_eq, vTgs_eq, vTg_eq, vSs_eq, vS_eq, runV_eq]
  rfl
theorem vT_and {ts env u_s} : vT (.and ts) env u_s = ( vTAnd ts env : M Bool) u_s := by
  simp only [vEs_eq, vE_eq, vDs_eq, vStar_eq, vPart_eq, vAnd_eq, vOr_eq, vTAnd_eq, vTOr_eq, vT_eq, vIt_eq, vTgs_eq, vTg_eq, vSs_eq, vS_eq, runV_eq]
  rfl
theorem vT_or {ts env u_s} : vT (.or ts) env u_s = ( vTOr ts env : M Bool) u_s := by
  simp only [vEs_eq, vE_eq, vDs_eq, vStar_eq, vPart_eq, vAnd_eq, vOr_eq, vTAnd_eq, vTOr_eq, vT_eq, vIt_eq, vTgs_eq, vTg_eq, vSs_eq, vS_eq, runV_eq]
  rfl
theorem vT_not {t env u_s} : vT (.not t) env u_s = ( do let b ← vT t env; pure (!b) : M Bool) u_s := by
  simp only [vEs_eq, vE_eq, vDs_eq, vStar_eq, vPart_eq, vAnd_eq, vOr_eq, vTAnd_eq, vTOr_eq, vT_eq, vIt_eq, vTgs_eq, vTg_eq, vSs_eq, vS_eq, runV_eq]
  rfl
theorem vT_cmp {op a b env u_s} : vT (.cmp op a b) env u_s = ( do
    let x ← vE a env
    let y ← vE b env
    let p ← peek x
    let q ← peek y
    cmpop op p q
   : M Bool) u_s := by
  simp only [vEs_eq, vE_eq, vDs_eq, vStar_eq, vPart_eq, vAnd_eq, vOr_eq, vTAnd_eq, vTOr_eq, vT_eq, vIt_eq, vTgs_eq, vTg_eq, vSs_eq, vS_eq, runV_eq]
  rfl
theorem vT_chain {op op' a b c env u_s} : vT (.chain op op' a b c) env u_s = ( do
    let x ← vE a env
    let y ← vE b env
    let p ← peek x
    let q ← peek y
    let r ← cmpop op p q
    if r then do
      let z ← vE c env
      let q' ← peek y
      let t ← peek z
      cmpop op' q' t
    else pure false
   : M Bool) u_s := by
  simp only [vEs_eq, vE_eq, vDs_eq, vStar_eq, vPart_eq, vAnd_eq, vOr_eq, vTAnd_eq, vTOr_eq, vT_eq, vIt_eq, vTgs_eq, vTg_eq, vSs_eq, vS_eq, runV_eq]
  rfl
theorem vT_isN {no a env} {u_s : Sto} : vT (.isN no a) env u_s = (vE a env >>= fun x => pure (isNonR x != no)) u_s := by
  refine congrFun (?_ : vT (.isN no a) env = (vE a env >>= fun x => pure (isNonR x != no))) u_s
  simp only [vzr_df, vcomp_df, vdcomp_df, vcomp_eta, vdcomp_eta, vcomp2_df, vloop_df, vbody_df, vEs_eq, vE_eq, vDs_eq, vStar_eq, vPart_eq, vAnd_eq, vOr_eq, vTAnd_eq, vTOr_eq, vT_eq, vIt_eq, vTgs_eq, vTg_eq, vSs_eq, vS_eq, runV_eq]
  first | rfl | (refine congrArg (M.bind _) (funext fun x => ?_); rcases x with d | d | d; all_goals first | rfl | (cases no <;> rfl) | (cases d; all_goals first | rfl | (rename_i b; cases b <;> rfl) | (cases no <;> rfl) | (cases d <;> cases no <;> rfl)))| (cases d <;> rfl)
theorem vTAnd_nil {u1 u_s} : vTAnd .nil u1 u_s = ( pure true : M Bool) u_s := by
  simp only [vEs_eq, vE_eq, vDs_eq, vStar_eq, vPart_eq, vAnd_eq, vOr_eq, vTAnd_eq, vTOr_eq, vT_eq, vIt_eq, vTgs_eq, vTg_eq, vSs_eq, vS_eq, runV_eq]
  rfl
theorem vTAnd_cons {t ts env u_s} : vTAnd (.cons t ts) env u_s = ( do if ← vT t env then vTAnd ts env else pure false : M Bool) u_s := by
  simp only [vEs_eq, vE_eq, vDs_eq, vStar_eq, vPart_eq, vAnd_eq, vOr_eq, vTAnd_eq, vTOr_eq, vT_eq, vIt_eq, vTgs_eq, vTg_eq, vSs_eq, vS_eq, runV_eq]
  rfl
theorem vTOr_nil {u1 u_s} : vTOr .nil u1 u_s = ( pure false : M Bool) u_s := by
  simp only [vEs_eq, vE_eq, vDs_eq, vStar_eq, vPart_eq, vAnd_eq, vOr_eq, vTAnd_eq, vTOr_eq, vT_eq, vIt_eq, vTgs_eq, vTg_eq, vSs_eq, vS_eq, runV_eq]
  rfl
theorem vTOr_cons {t ts env u_s} : vTOr (.cons t ts) env u_s = ( do if ← vT t env then pure true else vTOr ts env : M Bool) u_s := by
  simp only [vEs_eq, vE_eq, vDs_eq, vStar_eq, vPart_eq, vAnd_eq, vOr_eq, vTAnd_eq, vTOr_eq, vT_eq, vIt_eq, vTgs_eq, vTg_eq, vSs_eq, vS_eq, runV_eq]
  rfl
theorem vIt_seq {e env u_s} : vIt (.seq e) env u_s = ( do let r ← vE e env; let d ← use r; itemsOf d : M (List D)) u_s := by
  simp only [vEs_eq, vE_eq, vDs_eq, vStar_eq, vPart_eq, vAnd_eq, vOr_eq, vTAnd_eq, vTOr_eq, vT_eq, vIt_eq, vTgs_eq, vTg_eq, vSs_eq, vS_eq, runV_eq]
  rfl
theorem vIt_rng {es env u_s} : vIt (.rng es) env u_s = ( do let rs ← vEs es env; rngB rs : M (List D)) u_s := by
  simp only [vEs_eq, vE_eq, vDs_eq, vStar_eq, vPart_eq, vAnd_eq, vOr_eq, vTAnd_eq, vTOr_eq, vT_eq, vIt_eq, vTgs_eq, vTg_eq, vSs_eq, vS_eq, runV_eq]
  rfl
theorem vIt_enum {e env u_s} : vIt (.enum e) env u_s = ( do let r ← vE e env; let d ← use r; let ds ← itemsOf d; pure (enumD 0 ds) : M (List D)) u_s := by
  simp only [vEs_eq, vE_eq, vDs_eq, vStar_eq, vPart_eq, vAnd_eq, vOr_eq, vTAnd_eq, vTOr_eq, vT_eq, vIt_eq, vTgs_eq, vTg_eq, vSs_eq, vS_eq, runV_eq]
  rfl
theorem vIt_zip {a b env u_s} : vIt (.zip a b) env u_s = ( do
    let x ← vE a env
    let y ← vE b env
    let p ← use x
    let q ← use y
    M.guard (isTupD p == isTupD q)
    let as ← itemsOf p
    let bs ← itemsOf q
    pure (zipD as bs)
   : M (List D)) u_s := by
  simp only [vEs_eq, vE_eq, vDs_eq, vStar_eq, vPart_eq, vAnd_eq, vOr_eq, vTAnd_eq, vTOr_eq, vT_eq, vIt_eq, vTgs_eq, vTg_eq, vSs_eq, vS_eq, runV_eq]
  rfl
theorem vIt_zip3 {es env u_s} : vIt (.zip3 es) env u_s = ( do let ds ← vDs es env; zip3B ds : M (List D)) u_s := by
  simp only [vEs_eq, vE_eq, vDs_eq, vStar_eq, vPart_eq, vAnd_eq, vOr_eq, vTAnd_eq, vTOr_eq, vT_eq, vIt_eq, vTgs_eq, vTg_eq, vSs_eq, vS_eq, runV_eq]
  rfl
theorem vTg_n {i d env u_s} : vTg (.n i) d env u_s = ( pure (env.set i (some (.dat d))) : M Env) u_s := by
  simp only [vEs_eq, vE_eq, vDs_eq, vStar_eq, vPart_eq, vAnd_eq, vOr_eq, vTAnd_eq, vTOr_eq, vT_eq, vIt_eq, vTgs_eq, vTg_eq, vSs_eq, vS_eq, runV_eq]
  rfl
theorem vTg_t {ts d env} {u_s : Sto} : vTg (.t ts) d env u_s = tgD d (fun xs => vTgs ts xs env) u_s := by
  refine congrFun (?_ : vTg (.t ts) d env = tgD d (fun xs => vTgs ts xs env)) u_s
  simp only [vzr_df, vcomp_df, vdcomp_df, vcomp_eta, vdcomp_eta, vcomp2_df, vloop_df, vbody_df, vEs_eq, vE_eq, vDs_eq, vStar_eq, vPart_eq, vAnd_eq, vOr_eq, vTAnd_eq, vTOr_eq, vT_eq, vIt_eq, vTgs_eq, vTg_eq, vSs_eq, vS_eq, runV_eq]
  first | rfl | (refine congrArg (M.bind _) (funext fun x => ?_); rcases x with d | d | d; all_goals first | rfl | (cases no <;> rfl) | (cases d; all_goals first | rfl | (rename_i b; cases b <;> rfl) | (cases no <;> rfl) | (cases d <;> cases no <;> rfl)))| (cases d <;> rfl)
theorem vTg_ix {a i d env u_s} : vTg (.ix a i) d env u_s = ( do
    let x ← vE a env
    let y ← vE i env
    let q ← live x
    ixSet q.1 q.2 y d env
   : M Env) u_s := by
  simp only [vEs_eq, vE_eq, vDs_eq, vStar_eq, vPart_eq, vAnd_eq, vOr_eq, vTAnd_eq, vTOr_eq, vT_eq, vIt_eq, vTgs_eq, vTg_eq, vSs_eq, vS_eq, runV_eq]
  rfl
theorem vTgs_nil {env u_s} : vTgs .nil [] env u_s = ( pure env : M Env) u_s := by
  simp only [vEs_eq, vE_eq, vDs_eq, vStar_eq, vPart_eq, vAnd_eq, vOr_eq, vTAnd_eq, vTOr_eq, vT_eq, vIt_eq, vTgs_eq, vTg_eq, vSs_eq, vS_eq, runV_eq]
  rfl
theorem vTgs_cons {t ts d ds env u_s} : vTgs (.cons t ts) (d :: ds) env u_s = ( do let env' ← vTg t d env; vTgs ts ds env' : M Env) u_s := by
  simp only [vEs_eq, vE_eq, vDs_eq, vStar_eq, vPart_eq, vAnd_eq, vOr_eq, vTAnd_eq, vTOr_eq, vT_eq, vIt_eq, vTgs_eq, vTg_eq, vSs_eq, vS_eq, runV_eq]
  rfl
theorem vS_asg {m i e env u_s} : vS (.asg m i e) env u_s = ( do
    let r ← vE e env
    let env' ← store1 m i r env
    pure (.nx env')
   : M Flow) u_s := by
  simp only [vEs_eq, vE_eq, vDs_eq, vStar_eq, vPart_eq, vAnd_eq, vOr_eq, vTAnd_eq, vTOr_eq, vT_eq, vIt_eq, vTgs_eq, vTg_eq, vSs_eq, vS_eq, runV_eq]
  rfl
theorem vS_asgT {t e env u_s} : vS (.asgT t e) env u_s = ( do
    let r ← vE e env
    let d ← use r
    let env' ← vTg t d env
    pure (.nx env')
   : M Flow) u_s := by
  simp only [vEs_eq, vE_eq, vDs_eq, vStar_eq, vPart_eq, vAnd_eq, vOr_eq, vTAnd_eq, vTOr_eq, vT_eq, vIt_eq, vTgs_eq, vTg_eq, vSs_eq, vS_eq, runV_eq]
  rfl
theorem vS_par {cs es env u_s} : vS (.par cs es) env u_s = ( do
    let rs ← vEs es env
    let env' ← parM cs rs env
    pure (.nx env')
   : M Flow) u_s := by
  simp only [vEs_eq, vE_eq, vDs_eq, vStar_eq, vPart_eq, vAnd_eq, vOr_eq, vTAnd_eq, vTOr_eq, vT_eq, vIt_eq, vTgs_eq, vTg_eq, vSs_eq, vS_eq, runV_eq]
  rfl
theorem vS_ex {e env u_s} : vS (.ex e) env u_s = ( do let _ ← vE e env; pure (.nx env) : M Flow) u_s := by
  simp only [vEs_eq, vE_eq, vDs_eq, vStar_eq, vPart_eq, vAnd_eq, vOr_eq, vTAnd_eq, vTOr_eq, vT_eq, vIt_eq, vTgs_eq, vTg_eq, vSs_eq, vS_eq, runV_eq]
  rfl
theorem vS_ret {e env u_s} : vS (.ret e) env u_s = ( do let r ← vE e env; pure (.rt r) : M Flow) u_s := by
  simp only [vEs_eq, vE_eq, vDs_eq, vStar_eq, vPart_eq, vAnd_eq, vOr_eq, vTAnd_eq, vTOr_eq, vT_eq, vIt_eq, vTgs_eq, vTg_eq, vSs_eq, vS_eq, runV_eq]
  rfl
theorem vS_retN {u1 u_s} : vS .retN u1 u_s = ( pure (.rt (.dat .non)) : M Flow) u_s := by
  simp only [vEs_eq, vE_eq, vDs_eq, vStar_eq, vPart_eq, vAnd_eq, vOr_eq, vTAnd_eq, vTOr_eq, vT_eq, vIt_eq, vTgs_eq, vTg_eq, vSs_eq, vS_eq, runV_eq]
  rfl
theorem vS_iff {c a b env u_s} : vS (.iff c a b) env u_s = ( do if ← vT c env then vSs a env else vSs b env : M Flow) u_s := by
  simp only [vEs_eq, vE_eq, vDs_eq, vStar_eq, vPart_eq, vAnd_eq, vOr_eq, vTAnd_eq, vTOr_eq, vT_eq, vIt_eq, vTgs_eq, vTg_eq, vSs_eq, vS_eq, runV_eq]
  rfl
theorem vS_for {ws t it body env} {u_s : Sto} : vS (.for ws t it body) env u_s = (vIt it env >>= fun ds => fun s => forM (vloop s.length ws t body) ds (wipe env ws) s) u_s := by
  refine congrFun (?_ : vS (.for ws t it body) env = (vIt it env >>= fun ds => fun s => forM (vloop s.length ws t body) ds (wipe env ws) s)) u_s
  simp only [vzr_df, vcomp_df, vdcomp_df, vcomp_eta, vdcomp_eta, vcomp2_df, vloop_df, vbody_df, vEs_eq, vE_eq, vDs_eq, vStar_eq, vPart_eq, vAnd_eq, vOr_eq, vTAnd_eq, vTOr_eq, vT_eq, vIt_eq, vTgs_eq, vTg_eq, vSs_eq, vS_eq, runV_eq]
  first | rfl | (refine congrArg (M.bind _) (funext fun x => ?_); rcases x with d | d | d; all_goals first | rfl | (cases no <;> rfl) | (cases d; all_goals first | rfl | (rename_i b; cases b <;> rfl) | (cases no <;> rfl) | (cases d <;> cases no <;> rfl)))| (cases d <;> rfl)
theorem vS_whl {ws n c body env} {u_s : Sto} : vS (.whl ws n c body) env u_s = (fun s => whM (vT c) (vbody s.length ws body) n (wipe env ws) s) u_s := by
  refine congrFun (?_ : vS (.whl ws n c body) env = (fun s => whM (vT c) (vbody s.length ws body) n (wipe env ws) s)) u_s
  simp only [vzr_df, vcomp_df, vdcomp_df, vcomp_eta, vdcomp_eta, vcomp2_df, vloop_df, vbody_df, vEs_eq, vE_eq, vDs_eq, vStar_eq, vPart_eq, vAnd_eq, vOr_eq, vTAnd_eq, vTOr_eq, vT_eq, vIt_eq, vTgs_eq, vTg_eq, vSs_eq, vS_eq, runV_eq]
  first | rfl | (refine congrArg (M.bind _) (funext fun x => ?_); rcases x with d | d | d; all_goals first | rfl | (cases no <;> rfl) | (cases d; all_goals first | rfl | (rename_i b; cases b <;> rfl) | (cases no <;> rfl) | (cases d <;> cases no <;> rfl)))| (cases d <;> rfl)
theorem vS_rai {u1 u_s} : vS .rai u1 u_s = ( M.no : M Flow) u_s := by
  simp only [vEs_eq, vE_eq, vDs_eq, vStar_eq, vPart_eq, vAnd_eq, vOr_eq, vTAnd_eq, vTOr_eq, vT_eq, vIt_eq, vTgs_eq, vTg_eq, vSs_eq, vS_eq, runV_eq]
  rfl
theorem vS_pass {env u_s} : vS .pass env u_s = ( pure (.nx env) : M Flow) u_s := by
  simp only [vEs_eq, vE_eq, vDs_eq, vStar_eq, vPart_eq, vAnd_eq, vOr_eq, vTAnd_eq, vTOr_eq, vT_eq, vIt_eq, vTgs_eq, vTg_eq, vSs_eq, vS_eq, runV_eq]
  rfl
theorem vS_brk {env u_s} : vS .brk env u_s = ( pure (.bk env) : M Flow) u_s := by
  simp only [vEs_eq, vE_eq, vDs_eq, vStar_eq, vPart_eq, vAnd_eq, vOr_eq, vTAnd_eq, vTOr_eq, vT_eq, vIt_eq, vTgs_eq, vTg_eq, vSs_eq, vS_eq, runV_eq]
  rfl
theorem vS_cont {env u_s} : vS .cont env u_s = ( pure (.ct env) : M Flow) u_s := by
  simp only [vEs_eq, vE_eq, vDs_eq, vStar_eq, vPart_eq, vAnd_eq, vOr_eq, vTAnd_eq, vTOr_eq, vT_eq, vIt_eq, vTgs_eq, vTg_eq, vSs_eq, vS_eq, runV_eq]
  rfl
theorem vSs_nil {env u_s} : vSs .nil env u_s = ( pure (.nx env) : M Flow) u_s := by
  simp only [vEs_eq, vE_eq, vDs_eq, vStar_eq, vPart_eq, vAnd_eq, vOr_eq, vTAnd_eq, vTOr_eq, vT_eq, vIt_eq, vTgs_eq, vTg_eq, vSs_eq, vS_eq, runV_eq]
  rfl
theorem vSs_cons {s ss env} {u_s : Sto} : vSs (.cons s ss) env u_s = (vS s env >>= fun f => thenF f (vSs ss)) u_s := by
  refine congrFun (?_ : vSs (.cons s ss) env = (vS s env >>= fun f => thenF f (vSs ss))) u_s
  simp only [vzr_df, vcomp_df, vdcomp_df, vcomp_eta, vdcomp_eta, vcomp2_df, vloop_df, vbody_df, vEs_eq, vE_eq, vDs_eq, vStar_eq, vPart_eq, vAnd_eq, vOr_eq, vTAnd_eq, vTOr_eq, vT_eq, vIt_eq, vTgs_eq, vTg_eq, vSs_eq, vS_eq, runV_eq]
  first | rfl | (refine congrArg (M.bind _) (funext fun x => ?_); rcases x with d | d | d; all_goals first | rfl | (cases no <;> rfl) | (cases d; all_goals first | rfl | (rename_i b; cases b <;> rfl) | (cases no <;> rfl) | (cases d <;> cases no <;> rfl)))| (cases d <;> rfl)
theorem vSs_zr {i a b tg elt env} {u_s : Sto} : vSs (.zr i a b tg elt) env u_s = (M.guard (decide (i < env.length)) >>= fun _ => vE a env >>= fun x => vE b env >>= fun y => use x >>= fun p => use y >>= fun q => M.guard (isTupD p == isTupD q) >>= fun _ => itemsOf p >>= fun as => itemsOf q >>= fun bs => mapP (vzr tg elt (wipe (env.set i none) tg.slots)) (zipD as bs) >>= fun os => pure (.rt (.dat (.tup os)))) u_s := by
  refine congrFun (?_ : vSs (.zr i a b tg elt) env = (M.guard (decide (i < env.length)) >>= fun _ => vE a env >>= fun x => vE b env >>= fun y => use x >>= fun p => use y >>= fun q => M.guard (isTupD p == isTupD q) >>= fun _ => itemsOf p >>= fun as => itemsOf q >>= fun bs => mapP (vzr tg elt (wipe (env.set i none) tg.slots)) (zipD as bs) >>= fun os => pure (.rt (.dat (.tup os))))) u_s
  simp only [vzr_df, vcomp_df, vdcomp_df, vcomp_eta, vdcomp_eta, vcomp2_df, vloop_df, vbody_df, vEs_eq, vE_eq, vDs_eq, vStar_eq, vPart_eq, vAnd_eq, vOr_eq, vTAnd_eq, vTOr_eq, vT_eq, vIt_eq, vTgs_eq, vTg_eq, vSs_eq, vS_eq, runV_eq]
  first | rfl | (refine congrArg (M.bind _) (funext fun x => ?_); rcases x with d | d | d; all_goals first | rfl | (cases no <;> rfl) | (cases d; all_goals first | rfl | (rename_i b; cases b <;> rfl) | (cases no <;> rfl) | (cases d <;> cases no <;> rfl)))| (cases d <;> rfl)
theorem runV_mk {n ms body rs u_s} : runV (.mk n ms body) rs u_s = ( fun s => (do
    let as ← bindA ms rs
    let r ← backM (celA ms as) (do
      let f ← vSs body (locA ms as 0 ++ List.replicate (n - as.length) none)
      flowR f)
    endFn s.length r) s
   : M R) u_s := by
  simp only [vEs_eq, vE_eq, vDs_eq, vStar_eq, vPart_eq, vAnd_eq, vOr_eq, vTAnd_eq, vTOr_eq, vT_eq, vIt_eq, vTgs_eq, vTg_eq, vSs_eq, vS_eq, runV_eq]
  rfl
theorem runV_ini {c n fs rs u_s} : runV (.ini c n fs) rs u_s = ( do
    let ds ← uses rs
    let r ← backM [] (do
      let xs ← vDs fs (none :: (ds.map fun d => some (.dat d)) ++ List.replicate (n - 1 - ds.length) none)
      pure (.dat (.obj c xs)))
    pure r
   : M R) u_s := by
  simp only [vEs_eq, vE_eq, vDs_eq, vStar_eq, vPart_eq, vAnd_eq, vOr_eq, vTAnd_eq, vTOr_eq, vT_eq, vIt_eq, vTgs_eq, vTg_eq, vSs_eq, vS_eq, runV_eq]
  rfl
theorem runV_no {u1 u_s} : runV .no u1 u_s = ( M.no : M R) u_s := by
  simp only [vEs_eq, vE_eq, vDs_eq, vStar_eq, vPart_eq, vAnd_eq, vOr_eq, vTAnd_eq, vTOr_eq, vT_eq, vIt_eq, vTgs_eq, vTg_eq, vSs_eq, vS_eq, runV_eq]
  rfl
end DB
set_option maxHeartbeats 4000000
namespace DB
open PySem
/-! ### the monad, applied -/
section
variable {α β : Type}
/-- a mark that keeps what follows from being looked at too early -/
structure Wit {α : Type} (f : α) : Type where
def bnd {α β : Type} (r : Res α) (f : α → Sto → Res β) (_w : Wit f) : Res β := r.bind f
theorem bind_ap (m : M α) (f : α → M β) (s : Sto) : (m >>= f) s = bnd (m s) (fun a s' => f a s') ⟨⟩ := rfl
theorem pure_ap (a : α) (s : Sto) : (pure a : M α) s = .ok a s := rfl
theorem rbind_ok (a : α) (s : Sto) (f : α → Sto → Res β) (w : Wit f) : bnd (Res.ok a s) f w = f a s := rfl
theorem rbind_err (c : Nat) (d : D) (s : Sto) (f : α → Sto → Res β) (w : Wit f) : bnd (Res.err c d s : Res α) f w = .err c d s := rfl
theorem rbind_no (f : α → Sto → Res β) (w : Wit f) : bnd (Res.no : Res α) f w = .no := rfl
theorem rbind_ite (c : Prop) [Decidable c] (x y : Res α) (f : α → Sto → Res β) (w : Wit f) : bnd (if c then x else y) f w = if c then bnd x f w else bnd y f w := by split <;> rfl
theorem opt_some (a : α) (s : Sto) : M.opt (some a) s = .ok a s := rfl
theorem guard_true (s : Sto) : M.guard true s = .ok () s := rfl
theorem guard_and (a b : Bool) (s : Sto) : M.guard (a && b) s = bnd (M.guard a s) (fun _ s => M.guard b s) ⟨⟩ := by cases a <;> rfl
theorem guard_dec {p : Prop} [Decidable p] (h : p) (s : Sto) : M.guard (decide p) s = .ok () s := by rw [decide_eq_true h]; rfl
theorem million : 1000000 < sizeLine := by decide
theorem len_ok {n : Nat} (h : n ≤ 1000000) : lenOk n = true := decide_eq_true (Nat.le_of_lt (Nat.lt_of_le_of_lt h million))
theorem guard_len {n : Nat} (h : n ≤ 1000000) (s : Sto) : M.guard (lenOk n) s = .ok () s := by rw [len_ok h]; rfl
theorem size_ok {n : Nat} (h : n < 1000000) : n < sizeLine := Nat.lt_trans h million
theorem size_le {n : Nat} (h : n ≤ 1000000) : n ≤ sizeLine := Nat.le_of_lt (Nat.lt_of_le_of_lt h million)
theorem guard_mul {i j : Int} (h : (-18446744073709551616 < i ∧ i < 18446744073709551616) ∨ (-18446744073709551616 < j ∧ j < 18446744073709551616)) (s : Sto) : M.guard (mulOk i j) s = .ok () s := by
  have : mulOk i j = true := by
    unfold mulOk
    rw [Bool.or_eq_true, Bool.and_eq_true, Bool.and_eq_true]
    rcases h with h | h
    · exact .inl ⟨decide_eq_true (by omega), decide_eq_true (by omega)⟩
    · exact .inr ⟨decide_eq_true (by omega), decide_eq_true (by omega)⟩
  rw [this]; rfl
theorem use_dat (d : D) (s : Sto) : use (.dat d) s = .ok d s := rfl
theorem use_own (d : D) (s : Sto) : use (.own d) s = .ok d s := rfl
theorem peek_dat (d : D) (s : Sto) : peek (.dat d) s = .ok d s := rfl
theorem peek_own (d : D) (s : Sto) : peek (.own d) s = .ok d s := rfl
def celD (o : Option Cel) (s : Sto) : Res D := match o with
  | some ⟨d, _⟩ => .ok d s
  | none => .no
def celL (c : Nat) (o : Option Cel) (s : Sto) : Res (Nat × D) := match o with
  | some ⟨d, true⟩ => .ok (c, d) s
  | _ => .no
def celU (c : Nat) (o : Option Cel) (s : Sto) : Res D := match o with
  | some ⟨d, true⟩ => .ok d (s.set c ⟨d, false⟩)
  | some ⟨d, false⟩ => .ok d s
  | none => .no
theorem peek_cel (c : Nat) (s : Sto) : peek (.cell c) s = celD s[c]? s := rfl
theorem lstG_lst (xs : List D) (s : Sto) : lstG (.lst xs) s = .ok () s := rfl
theorem live_cel (c : Nat) (s : Sto) : live (.cell c) s = celL c s[c]? s := rfl
theorem use_cel (c : Nat) (s : Sto) : use (.cell c) s = celU c s[c]? s := rfl
theorem celD_some (d : D) (b : Bool) (s : Sto) : celD (some ⟨d, b⟩) s = .ok d s := rfl
theorem celL_some (c : Nat) (d : D) (s : Sto) : celL c (some ⟨d, true⟩) s = .ok (c, d) s := rfl
theorem celU_t (c : Nat) (d : D) (s : Sto) : celU c (some ⟨d, true⟩) s = .ok d (s.set c ⟨d, false⟩) := rfl
theorem celU_f (c : Nat) (d : D) (s : Sto) : celU c (some ⟨d, false⟩) s = .ok d s := rfl
theorem write_ap (c : Nat) (d : D) (s : Sto) : write c d s = .ok () (s.set c ⟨d, true⟩) := rfl
theorem peeks_nil (s : Sto) : peeks [] s = .ok [] s := rfl
theorem peeks_cons (r : R) (rs : List R) (s : Sto) : peeks (r :: rs) s = (peek r >>= fun d => peeks rs >>= fun ds => pure (d :: ds)) s := rfl
theorem uses_nil (s : Sto) : uses [] s = .ok [] s := rfl
theorem uses_cons (r : R) (rs : List R) (s : Sto) : uses (r :: rs) s = (use r >>= fun d => uses rs >>= fun ds => pure (d :: ds)) s := rfl
theorem join_some (r : R) : (some (some r)).join = some r := rfl
theorem ite_ap (c : Prop) [Decidable c] (m m' : M α) (s : Sto) : (if c then m else m') s = if c then m s else m' s := by split <;> rfl
/-! ### one way out of two -/
theorem ite_res (c : Prop) [Decidable c] (x y : α) (s t : Sto) : (if c then Res.ok x s else Res.ok y t) = Res.ok (if c then x else y) (if c then s else t) := by split <;> rfl
theorem ite_dat (c : Prop) [Decidable c] (x y : D) : (if c then R.dat x else R.dat y) = R.dat (if c then x else y) := by split <;> rfl
theorem ite_own (c : Prop) [Decidable c] (x y : D) : (if c then R.own x else R.own y) = R.own (if c then x else y) := by split <;> rfl
theorem ite_int (c : Prop) [Decidable c] (x y : Int) : (if c then D.int x else D.int y) = D.int (if c then x else y) := by split <;> rfl
theorem ite_bl (c : Prop) [Decidable c] (x y : Bool) : (if c then D.bl x else D.bl y) = D.bl (if c then x else y) := by split <;> rfl
theorem ite_tup (c : Prop) [Decidable c] (x y : List D) : (if c then D.tup x else D.tup y) = D.tup (if c then x else y) := by split <;> rfl
theorem ite_lst (c : Prop) [Decidable c] (x y : List D) : (if c then D.lst x else D.lst y) = D.lst (if c then x else y) := by split <;> rfl
theorem ite_some (c : Prop) [Decidable c] (x y : α) : (if c then some x else some y) = some (if c then x else y) := by split <;> rfl
theorem ite_nx (c : Prop) [Decidable c] (x y : Env) : (if c then Flow.nx x else Flow.nx y) = Flow.nx (if c then x else y) := by split <;> rfl
theorem ite_rt (c : Prop) [Decidable c] (x y : R) : (if c then Flow.rt x else Flow.rt y) = Flow.rt (if c then x else y) := by split <;> rfl
theorem ite_cons (c : Prop) [Decidable c] (x y : α) (xs ys : List α) : (if c then x :: xs else y :: ys) = (if c then x else y) :: (if c then xs else ys) := by split <;> rfl
theorem ite_cel (c : Prop) [Decidable c] (x y : D) (b : Bool) : (if c then (⟨x, b⟩ : Cel) else ⟨y, b⟩) = ⟨if c then x else y, b⟩ := by split <;> rfl
theorem ite_same (c : Prop) [Decidable c] (x : α) : (if c then x else x) = x := by split <;> rfl
theorem ite_map (c : Prop) [Decidable c] (f : α → β) (x y : List α) : (if c then x.map f else y.map f) = (if c then x else y).map f := by split <;> rfl
theorem ite_tf (c : Prop) [Decidable c] : (if c then true else false) = decide c := by split <;> simp [*]
theorem ite_ft (c : Prop) [Decidable c] : (if c then false else true) = !decide c := by split <;> simp [*]
theorem ite_bf (c : Prop) [Decidable c] (b : Bool) : (if c then b else false) = (decide c && b) := by split <;> simp [*]
theorem ite_tb (c : Prop) [Decidable c] (b : Bool) : (if c then true else b) = (decide c || b) := by split <;> simp [*]
end
/-! ### flows -/
theorem thenF_nx (e : Env) (k : Env → M Flow) : thenF (.nx e) k = k e := rfl
theorem thenF_rt (r : R) (k : Env → M Flow) : thenF (.rt r) k = pure (.rt r) := rfl
theorem thenF_bk (e : Env) (k : Env → M Flow) : thenF (.bk e) k = pure (.bk e) := rfl
theorem thenF_ct (e : Env) (k : Env → M Flow) : thenF (.ct e) k = pure (.ct e) := rfl
theorem thenF_ite (c : Prop) [Decidable c] (x y : Flow) (k : Env → M Flow) : thenF (if c then x else y) k = if c then thenF x k else thenF y k := by split <;> rfl
theorem flowR_rt (r : R) (s : Sto) : flowR (.rt r) s = .ok r s := rfl
theorem flowR_nx (e : Env) (s : Sto) : flowR (.nx e) s = .ok (.dat .non) s := rfl
theorem flowR_ite (c : Prop) [Decidable c] (x y : Flow) : flowR (if c then x else y) = if c then flowR x else flowR y := by split <;> rfl
theorem isNonR_non : isNonR (.dat .non) = true := rfl
theorem isNonR_int (i : Int) : isNonR (.dat (.int i)) = false := rfl
theorem isNonR_bl (i : Bool) : isNonR (.dat (.bl i)) = false := rfl
theorem isNonR_str (i : Str) : isNonR (.dat (.str i)) = false := rfl
theorem isNonR_tup (i : List D) : isNonR (.dat (.tup i)) = false := rfl
theorem isNonR_lst (i : List D) : isNonR (.dat (.lst i)) = false := rfl
theorem isNonR_dct (i j : List D) : isNonR (.dat (.dct i j)) = false := rfl
theorem isNonR_own (i : D) : isNonR (.own i) = false := rfl
theorem isNonR_cell (i : Nat) : isNonR (.cell i) = false := rfl
theorem isNonR_ite (c : Prop) [Decidable c] (x y : D) : isNonR (.dat (if c then x else y)) = if c then isNonR (.dat x) else isNonR (.dat y) := by split <;> rfl
theorem negR_int (i : Int) (s : Sto) : negR (.dat (.int i)) s = .ok (.dat (.int (-i))) s := rfl
theorem notR_bl (b : Bool) (s : Sto) : notR (.dat (.bl b)) s = .ok (.dat (.bl (!b))) s := rfl
theorem intR_int (i : Int) (s : Sto) : intR (.dat (.int i)) s = .ok (some i) s := rfl
theorem blR_bl (b : Bool) (s : Sto) : blR (.dat (.bl b)) s = .ok b s := rfl
theorem isBR_bl (no b c : Bool) (s : Sto) : isBR no b (.dat (.bl c)) s = .ok (.dat (.bl ((c == b) != no))) s := rfl
theorem fldR_obj (k c : Nat) (fs : List D) : fldR k (.dat (.obj c fs)) = (M.opt fs[k]? >>= fun d => pure (.dat d)) := rfl
theorem tgD_tup (xs : List D) (k : List D → M Env) : tgD (.tup xs) k = k xs := rfl
/-! ### calls -/
theorem bindA_nil (s : Sto) : bindA [] [] s = .ok [] s := rfl
theorem bindA_dat (ms : List Bool) (d : D) (rs : List R) (s : Sto) : bindA (false :: ms) (.dat d :: rs) s = (bindA ms rs >>= fun es => (pure (some (.dat d) :: es) : M (List (Option R)))) s := rfl
theorem bindA_own0 (ms : List Bool) (d : D) (rs : List R) (s : Sto) : bindA (false :: ms) (.own d :: rs) s = (bindA ms rs >>= fun es => (pure (some (.dat d) :: es) : M (List (Option R)))) s := rfl
theorem bindA_cell (ms : List Bool) (c : Nat) (rs : List R) (s : Sto) : bindA (true :: ms) (.cell c :: rs) s = (bindA ms rs >>= fun es => (pure (some (.cell c) :: es) : M (List (Option R)))) s := rfl
theorem bindA_own (ms : List Bool) (d : D) (rs : List R) (s : Sto) : bindA (true :: ms) (.own d :: rs) s = bnd (bindA ms rs (s ++ [⟨d, true⟩])) (fun es s' => .ok (some (.cell s.length) :: es) s') ⟨⟩ := rfl
theorem celA_nil (es : List (Option R)) : celA [] es = [] := by cases es <;> rfl
theorem celA_f (ms : List Bool) (e : Option R) (es : List (Option R)) : celA (false :: ms) (e :: es) = celA ms es := by cases e <;> rfl
theorem celA_t (ms : List Bool) (c : Nat) (es : List (Option R)) : celA (true :: ms) (some (.cell c) :: es) = c :: celA ms es := rfl
theorem locA_nil (es : List (Option R)) (k : Nat) : locA [] es k = [] := by cases es <;> rfl
theorem locA_f (ms : List Bool) (d : D) (es : List (Option R)) (k : Nat) : locA (false :: ms) (some (.dat d) :: es) k = some (.dat d) :: locA ms es k := rfl
theorem locA_t (ms : List Bool) (c : Nat) (es : List (Option R)) (k : Nat) : locA (true :: ms) (some (.cell c) :: es) k = some (.cell k) :: locA ms es (k + 1) := rfl
/-- what a def without cells hands back -/
def finL (r : Res R) (s : Sto) : Res R := match r with
  | .ok r l => optS (backR [] l r) s
  | .err c d _ => .err c d s
  | .no => .no
theorem backM_nil (m : M R) (s : Sto) : backM [] m s = finL (m []) s := by
  show (match m [] with | .ok r l' => optS (backR [] l' r) s | .err c d l' => .err c d s | .no => .no) = _
  unfold finL
  cases m [] <;> rfl
theorem finL_dat (d : D) (l s : Sto) : finL (.ok (.dat d) l) s = .ok (.dat d) s := rfl
theorem finL_own (d : D) (l s : Sto) : finL (.ok (.own d) l) s = .ok (.own d) s := rfl
theorem finL_cell (k : Nat) (l s : Sto) : finL (.ok (.cell k) l) s = optS (match l[k]? with | some ⟨d, true⟩ => some (R.own d) | some ⟨d, false⟩ => some (R.dat d) | none => none) s := rfl
theorem finL_c0 (d : D) (l s : Sto) : finL (.ok (.cell 0) (Cel.mk d true :: l)) s = .ok (.own d) s := rfl
theorem finL_c1 (x : Cel) (d : D) (l s : Sto) : finL (.ok (.cell 1) (x :: Cel.mk d true :: l)) s = .ok (.own d) s := rfl
theorem finL_err (c : Nat) (d : D) (l s : Sto) : finL (.err c d l) s = .err c d s := rfl
theorem finL_ite (c : Prop) [Decidable c] (x y : Res R) (s : Sto) : finL (if c then x else y) s = if c then finL x s else finL y s := by split <;> rfl
theorem finL_congr {r r' : Res R} {s : Sto} (h : r = r') : finL r s = finL r' s := by rw [h]
/-- what a def with one cell hands back -/
def finP (c : Nat) (r : Res R) (s : Sto) : Res R := match r with
  | .ok r l' => optS (backR [c] l' r) (putAll [c] l' s)
  | .err e d l' => .err e d (putAll [c] l' s)
  | .no => .no
theorem backM_one {c : Nat} {d : D} {m : M R} {s : Sto} (h : s[c]? = some ⟨d, true⟩) : backM [c] m s = finP c (m [⟨d, true⟩]) s := by
  have h1 : getAll s [c] = some [⟨d, true⟩] := by
    unfold getAll
    rw [h]; rfl
  unfold backM finP
  rw [h1]
  have h2 : decide ([c] : List Nat).Nodup = true := decide_eq_true (by simp)
  simp only [h2]
  all_goals (cases m [⟨d, true⟩] <;> rfl)
theorem backM_0 (d : D) (m : M R) (s : Sto) : backM [0] m (Cel.mk d true :: s) = finP 0 (m [Cel.mk d true]) (Cel.mk d true :: s) := backM_one rfl
theorem finP_dat (d : D) (x y : Cel) (l s : Sto) : finP 0 (.ok (.dat d) (x :: l)) (y :: s) = .ok (.dat d) (x :: s) := by cases l <;> rfl
theorem finP_own (d : D) (x y : Cel) (l s : Sto) : finP 0 (.ok (.own d) (x :: l)) (y :: s) = .ok (.own d) (x :: s) := by cases l <;> rfl
theorem finP_c1 (d : D) (x y : Cel) (l s : Sto) : finP 0 (.ok (.cell 1) (x :: Cel.mk d true :: l)) (y :: s) = .ok (.own d) (x :: s) := by cases l <;> rfl
theorem finP_ite (k : Nat) (c : Prop) [Decidable c] (x y : Res R) (s : Sto) : finP k (if c then x else y) s = if c then finP k x s else finP k y s := by split <;> rfl
theorem finP_congr {c : Nat} {r r' : Res R} {s : Sto} (h : r = r') : finP c r s = finP c r' s := by rw [h]
theorem endFn_dat (d : D) (s : Sto) : endFn s.length (.dat d) s = .ok (.dat d) s := by
  show Res.ok (R.dat d) (s.take s.length) = _
  rw [List.take_length]
theorem endFn_own (d : D) (s : Sto) : endFn s.length (.own d) s = .ok (.own d) s := by
  show Res.ok (R.own d) (s.take s.length) = _
  rw [List.take_length]
theorem endFn_dat1 (d : D) (x y : Cel) (s : Sto) : endFn (List.length (x :: s)) (.dat d) (y :: s) = .ok (.dat d) (y :: s) := endFn_dat d (y :: s)
theorem endFn_own1 (d : D) (x y : Cel) (s : Sto) : endFn (List.length (x :: s)) (.own d) (y :: s) = .ok (.own d) (y :: s) := endFn_own d (y :: s)
theorem endFn_dat2 (d : D) (x y : Cel) (s : Sto) : endFn (s.length + 1) (.dat d) (y :: s) = .ok (.dat d) (y :: s) := endFn_dat d (y :: s)
theorem endFn_own2 (d : D) (x y : Cel) (s : Sto) : endFn (s.length + 1) (.own d) (y :: s) = .ok (.own d) (y :: s) := endFn_own d (y :: s)
/-! ### loops -/
def tk (b : Bool) (n : Nat) (s : Sto) : Sto := match b with
  | true => s.take n
  | false => s
theorem trim_nx (n : Nat) (ws : List Nat) (e : Env) (s : Sto) : trim n ws (.nx e) s = .ok (.nx (wipe e ws)) (tk (below n (wipe e ws)) n s) := rfl
theorem trim_ct (n : Nat) (ws : List Nat) (e : Env) (s : Sto) : trim n ws (.ct e) s = .ok (.ct (wipe e ws)) (tk (below n (wipe e ws)) n s) := rfl
theorem trim_bk (n : Nat) (ws : List Nat) (e : Env) (s : Sto) : trim n ws (.bk e) s = .ok (.bk (wipe e ws)) (tk (below n (wipe e ws)) n s) := rfl
theorem trim_rt (n : Nat) (ws : List Nat) (r : R) (s : Sto) : trim n ws (.rt r) s = .ok (.rt r) s := rfl
theorem trim_ite (n : Nat) (ws : List Nat) (c : Prop) [Decidable c] (x y : Flow) : trim n ws (if c then x else y) = if c then trim n ws x else trim n ws y := by split <;> rfl
theorem tk_t (n : Nat) (s : Sto) : tk true n s = s.take n := rfl
theorem below_nil (n : Nat) : below n [] = true := rfl
theorem below_none (n : Nat) (e : Env) : below n (none :: e) = below n e := rfl
theorem below_dat (n : Nat) (d : D) (e : Env) : below n (some (.dat d) :: e) = below n e := rfl
theorem below_cell0 (n : Nat) (e : Env) : below (n + 1) (some (.cell 0) :: e) = below (n + 1) e := by
  show (decide (0 < n + 1) && below (n + 1) e) = _
  rw [decide_eq_true (by omega), Bool.true_and]
theorem below_cell1 (n : Nat) (e : Env) : below (n + 2) (some (.cell 1) :: e) = below (n + 2) e := by
  show (decide (1 < n + 2) && below (n + 2) e) = _
  rw [decide_eq_true (by omega), Bool.true_and]
theorem below_cell (n c : Nat) (e : Env) : below n (some (.cell c) :: e) = (decide (c < n) && below n e) := rfl
theorem wipe_nil (e : Env) : wipe e [] = e := rfl
theorem wipe_cons (e : Env) (v : Nat) (vs : List Nat) : wipe e (v :: vs) = (wipe e vs).set v none := rfl
def aftF (k : Env → M Flow) (f : Flow) : M Flow := match f with
  | .nx e => k e
  | .ct e => k e
  | .bk e => pure (.nx e)
  | .rt r => pure (.rt r)
theorem aftF_nx (e : Env) (k : Env → M Flow) : aftF k (.nx e) = k e := rfl
theorem aftF_ct (e : Env) (k : Env → M Flow) : aftF k (.ct e) = k e := rfl
theorem aftF_bk (e : Env) (k : Env → M Flow) : aftF k (.bk e) = pure (.nx e) := rfl
theorem aftF_rt (r : R) (k : Env → M Flow) : aftF k (.rt r) = pure (.rt r) := rfl
theorem forM_nil (f : D → Env → M Flow) (env : Env) (s : Sto) : forM f [] env s = .ok (.nx env) s := rfl
theorem forM_cons (f : D → Env → M Flow) (d : D) (ds : List D) (env : Env) (s : Sto) : forM f (d :: ds) env s = (f d env >>= fun x => aftF (forM f ds) x) s := by
  refine congrFun (?_ : forM f (d :: ds) env = _) s
  show (f d env >>= fun x => match x with | .nx e => forM f ds e | .ct e => forM f ds e | .bk e => pure (.nx e) | .rt r => pure (.rt r)) = _
  congr 1
theorem whM_succ (cd : Env → M Bool) (f : Env → M Flow) (n : Nat) (env : Env) (s : Sto) : whM cd f (n + 1) env s = (cd env >>= fun b => if b = true then (f env >>= fun x => aftF (whM cd f n) x) else pure (.nx env)) s := by
  refine congrFun (?_ : whM cd f (n + 1) env = _) s
  show (cd env >>= fun b => if b then (f env >>= fun x => match x with | .nx e => whM cd f n e | .ct e => whM cd f n e | .bk e => pure (.nx e) | .rt r => pure (.rt r)) else pure (.nx env)) = _
  congr 1
theorem compM_nil (f : D → M (Option D)) (s : Sto) : compM f [] s = .ok [] s := rfl
theorem compM_cons (f : D → M (Option D)) (d : D) (ds : List D) (s : Sto) : compM f (d :: ds) s = (f d >>= fun o => match o with | some x => compM f ds >>= fun xs => (pure (x :: xs) : M (List D)) | none => compM f ds) s := rfl
/-! ### comprehensions -/
section
variable {α β γ : Type}
theorem map_congr' {f g : α → β} {l l' : List α} (h1 : l = l') (h2 : ∀ a, a ∈ l' → f a = g a) : l.map f = l'.map g := by subst h1; exact List.map_congr_left h2
theorem keep_ok (s : Sto) (a : α) : keep s (.ok a s) = some a := by unfold keep; simp only [Sto.beq_rfl]
theorem keep_ite (s : Sto) (c : Prop) [Decidable c] (x y : Res α) : keep s (if c then x else y) = if c then keep s x else keep s y := by split <;> rfl
theorem keep_congr {s : Sto} {r r' : Res α} (h : r = r') : keep s r = keep s r' := by rw [h]
/-- item by item, knowing where it comes from -/
def mapMem : (l : List α) → ((a : α) → a ∈ l → β) → List β
  | [], _ => []
  | a :: l, f => f a (List.mem_cons_self ..) :: mapMem l fun b h => f b (List.mem_cons_of_mem _ h)
theorem mapMem_eq (f : α → β) : ∀ l : List α, mapMem l (fun a _ => f a) = l.map f
  | [] => rfl
  | a :: l => by show f a :: mapMem l (fun a _ => f a) = _; rw [mapMem_eq f l]; rfl
theorem mapP_any (f : α → M β) (l : List α) (s : Sto) : mapP f l s = optS (seqO (mapMem l fun a _ => keep s (f a s))) s := by
  show optS (seqO (l.map fun a => keep s (f a s))) s = _
  rw [mapMem_eq]
theorem mapP_map (f : γ → M β) (g : α → γ) (l : List α) (s : Sto) : mapP f (l.map g) s = optS (seqO (mapMem l fun a _ => keep s (f (g a) s))) s := by
  show optS (seqO ((l.map g).map fun a => keep s (f a s))) s = _
  rw [mapMem_eq (f := fun a => keep s (f (g a) s)), List.map_map]
  rfl
theorem mapP_nil (f : α → M β) (s : Sto) : mapP f [] s = .ok [] s := rfl
theorem seqO_mem (f : α → β) (l : List α) : seqO (mapMem l fun a _ => some (f a)) = some (l.map f) := by
  rw [mapMem_eq]
  induction l with
  | nil => rfl
  | cons a l ih =>
    show (match seqO (l.map fun a => some (f a)) with | none => none | some as => some (f a :: as)) = _
    rw [ih]; rfl
theorem optS_some (a : α) (s : Sto) : optS (some a) s = .ok a s := rfl
theorem fm_some (f : α → β) (l : List α) : (l.map fun a => some (f a)).filterMap id = l.map f := by
  rw [List.filterMap_map]
  exact List.filterMap_eq_map (f := f) ▸ rfl
theorem fm_ite (p : α → Prop) [DecidablePred p] (f : α → β) : ∀ l : List α, (l.map fun a => if p a then some (f a) else none).filterMap id = (l.filter fun a => decide (p a)).map f
  | [] => rfl
  | a :: l => by
    by_cases h : p a <;> simp [h, fm_ite p f l]
theorem fm_ite' (p : α → Prop) [DecidablePred p] (f : α → β) : ∀ l : List α, (l.map fun a => if p a then none else some (f a)).filterMap id = (l.filter fun a => !decide (p a)).map f
  | [] => rfl
  | a :: l => by
    by_cases h : p a <;> simp [h, fm_ite' p f l]
theorem flatB_ap (l : List (List α)) (s : Sto) : flatB l s = bnd (M.guard (lenOk l.flatten.length) s) (fun _ s => .ok l.flatten s) ⟨⟩ := rfl
theorem flatB_mm {δ ε ζ : Type} (g : δ → List ε) (h : δ → ε → ζ) (l : List δ) (s : Sto) : flatB ((l.map fun a => (g a).map fun x => some (h a x)).map fun os => os.filterMap id) s = bnd (M.guard (lenOk (l.flatMap g).length) s) (fun _ s => .ok (l.flatMap fun a => (g a).map (h a)) s) ⟨⟩ := by
  have e : ((l.map fun a => (g a).map fun x => some (h a x)).map fun os => os.filterMap id).flatten = l.flatMap fun a => (g a).map (h a) := by
    rw [List.map_map, List.flatMap_def]
    congr 1
    exact List.map_congr_left fun a _ => fm_some (h a) (g a)
  have e2 : (l.flatMap fun a => (g a).map (h a)).length = (l.flatMap g).length := by
    simp [List.length_flatMap]
  rw [flatB_ap, e, e2]
theorem flatB_mi {δ ε ζ : Type} (g : δ → List ε) (p : δ → ε → Prop) [∀ a, DecidablePred (p a)] (h : δ → ε → ζ) (l : List δ) (s : Sto) : flatB ((l.map fun a => (g a).map fun x => if p a x then some (h a x) else none).map fun os => os.filterMap id) s =
    bnd (M.guard (lenOk (l.flatMap fun a => (g a).filter fun x => decide (p a x)).length) s) (fun _ s => .ok (l.flatMap fun a => ((g a).filter fun x => decide (p a x)).map (h a)) s) ⟨⟩ := by
  have e : ((l.map fun a => (g a).map fun x => if p a x then some (h a x) else none).map fun os => os.filterMap id).flatten = l.flatMap fun a => ((g a).filter fun x => decide (p a x)).map (h a) := by
    rw [List.map_map, List.flatMap_def]
    congr 1
    exact List.map_congr_left fun a _ => fm_ite (p a) (h a) (g a)
  have e2 : (l.flatMap fun a => ((g a).filter fun x => decide (p a x)).map (h a)).length = (l.flatMap fun a => (g a).filter fun x => decide (p a x)).length := by
    simp [List.length_flatMap]
  rw [flatB_ap, e, e2]
theorem flat_map (f : γ → List α) (g : α → β) (l : List γ) : (l.map fun c => (f c).map g).flatten = (l.flatMap f).map g := by
  induction l with
  | nil => rfl
  | cons c l ih => simp [List.flatMap_cons, ih]
end
/-! ### data -/
def isW : D → Bool
  | .int _ => true
  | _ => false
def isObj : D → Bool
  | .obj _ _ => true
  | .fn _ => true
  | .itr _ => true
  | _ => false
def isInt : D → Bool
  | .int _ => true
  | .bl _ => true
  | _ => false
def isBl : D → Bool
  | .bl _ => true
  | _ => false
def isStr : D → Bool
  | .str _ => true
  | _ => false
def isTup : D → Bool
  | .tup _ => true
  | _ => false
def isLst : D → Bool
  | .lst _ => true
  | .scr _ => true
  | _ => false
def isDct : D → Bool
  | .dct _ _ => true
  | _ => false
theorem isW_non : isW .non = false := rfl
theorem isW_bl (b : Bool) : isW (.bl b) = false := rfl
theorem isW_int (i : Int) : isW (.int i) = true := rfl
theorem isW_str (x : Str) : isW (.str x) = false := rfl
theorem isW_tup (l : List D) : isW (.tup l) = false := rfl
theorem isW_lst (l : List D) : isW (.lst l) = false := rfl
theorem isW_scr (l : List D) : isW (.scr l) = false := rfl
theorem isW_dct (l m : List D) : isW (.dct l m) = false := rfl
theorem isObj_non : isObj .non = false := rfl
theorem isObj_bl (b : Bool) : isObj (.bl b) = false := rfl
theorem isObj_int (i : Int) : isObj (.int i) = false := rfl
theorem isObj_str (x : Str) : isObj (.str x) = false := rfl
theorem isObj_tup (l : List D) : isObj (.tup l) = false := rfl
theorem isObj_lst (l : List D) : isObj (.lst l) = false := rfl
theorem isObj_scr (l : List D) : isObj (.scr l) = false := rfl
theorem isObj_dct (l m : List D) : isObj (.dct l m) = false := rfl
theorem isInt_non : isInt .non = false := rfl
theorem isInt_bl (b : Bool) : isInt (.bl b) = true := rfl
theorem isInt_int (i : Int) : isInt (.int i) = true := rfl
theorem isInt_str (x : Str) : isInt (.str x) = false := rfl
theorem isInt_tup (l : List D) : isInt (.tup l) = false := rfl
theorem isInt_lst (l : List D) : isInt (.lst l) = false := rfl
theorem isInt_scr (l : List D) : isInt (.scr l) = false := rfl
theorem isInt_dct (l m : List D) : isInt (.dct l m) = false := rfl
theorem isBl_non : isBl .non = false := rfl
theorem isBl_bl (b : Bool) : isBl (.bl b) = true := rfl
theorem isBl_int (i : Int) : isBl (.int i) = false := rfl
theorem isBl_str (x : Str) : isBl (.str x) = false := rfl
theorem isBl_tup (l : List D) : isBl (.tup l) = false := rfl
theorem isBl_lst (l : List D) : isBl (.lst l) = false := rfl
theorem isBl_scr (l : List D) : isBl (.scr l) = false := rfl
theorem isBl_dct (l m : List D) : isBl (.dct l m) = false := rfl
theorem isStr_non : isStr .non = false := rfl
theorem isStr_bl (b : Bool) : isStr (.bl b) = false := rfl
theorem isStr_int (i : Int) : isStr (.int i) = false := rfl
theorem isStr_str (x : Str) : isStr (.str x) = true := rfl
theorem isStr_tup (l : List D) : isStr (.tup l) = false := rfl
theorem isStr_lst (l : List D) : isStr (.lst l) = false := rfl
theorem isStr_scr (l : List D) : isStr (.scr l) = false := rfl
theorem isStr_dct (l m : List D) : isStr (.dct l m) = false := rfl
theorem isTup_non : isTup .non = false := rfl
theorem isTup_bl (b : Bool) : isTup (.bl b) = false := rfl
theorem isTup_int (i : Int) : isTup (.int i) = false := rfl
theorem isTup_str (x : Str) : isTup (.str x) = false := rfl
theorem isTup_tup (l : List D) : isTup (.tup l) = true := rfl
theorem isTup_lst (l : List D) : isTup (.lst l) = false := rfl
theorem isTup_scr (l : List D) : isTup (.scr l) = false := rfl
theorem isTup_dct (l m : List D) : isTup (.dct l m) = false := rfl
theorem isLst_non : isLst .non = false := rfl
theorem isLst_bl (b : Bool) : isLst (.bl b) = false := rfl
theorem isLst_int (i : Int) : isLst (.int i) = false := rfl
theorem isLst_str (x : Str) : isLst (.str x) = false := rfl
theorem isLst_tup (l : List D) : isLst (.tup l) = false := rfl
theorem isLst_lst (l : List D) : isLst (.lst l) = true := rfl
theorem isLst_scr (l : List D) : isLst (.scr l) = true := rfl
theorem isLst_dct (l m : List D) : isLst (.dct l m) = false := rfl
theorem isDct_non : isDct .non = false := rfl
theorem isDct_bl (b : Bool) : isDct (.bl b) = false := rfl
theorem isDct_int (i : Int) : isDct (.int i) = false := rfl
theorem isDct_str (x : Str) : isDct (.str x) = false := rfl
theorem isDct_tup (l : List D) : isDct (.tup l) = false := rfl
theorem isDct_lst (l : List D) : isDct (.lst l) = false := rfl
theorem isDct_scr (l : List D) : isDct (.scr l) = false := rfl
theorem isDct_dct (l m : List D) : isDct (.dct l m) = true := rfl
theorem ty_obj (d : D) : (tyName d != "object") = !isObj d := by cases d <;> kernel_rfl
theorem ty_int (d : D) : isTy "int" d = isInt d := by cases d <;> kernel_rfl
theorem ty_bool (d : D) : isTy "bool" d = isBl d := by cases d <;> kernel_rfl
theorem ty_str (d : D) : isTy "str" d = isStr d := by cases d <;> kernel_rfl
theorem ty_tuple (d : D) : isTy "tuple" d = isTup d := by cases d <;> kernel_rfl
theorem ty_list (d : D) : isTy "list" d = isLst d := by cases d <;> kernel_rfl
theorem ty_dict (d : D) : isTy "dict" d = isDct d := by cases d <;> kernel_rfl
theorem at_0 (x : D) (xs : List D) : at? (x :: xs) 0 = some x := by
  unfold at? L2.atI L2.ixN
  rw [if_pos (Int.le_refl 0), if_pos (by simp only [List.length_cons]; omega)]
  rfl
theorem at_1 (x y : D) (xs : List D) : at? (x :: y :: xs) 1 = some y := by
  unfold at? L2.atI L2.ixN
  rw [if_pos (by decide), if_pos (by simp only [List.length_cons]; omega)]
  rfl
theorem at_2 (x y z : D) (xs : List D) : at? (x :: y :: z :: xs) 2 = some z := by
  unfold at? L2.atI L2.ixN
  rw [if_pos (by decide), if_pos (by simp only [List.length_cons]; omega)]
  rfl
theorem at_3 (x y z w : D) (xs : List D) : at? (x :: y :: z :: w :: xs) 3 = some w := by
  unfold at? L2.atI L2.ixN
  rw [if_pos (by decide), if_pos (by simp only [List.length_cons]; omega)]
  rfl
/-- an item by its place -/
def nth {α : Type} [Inhabited α] (l : List α) (i : Int) : α := l.getD i.toNat default
theorem at_map {α : Type} [Inhabited α] (f : α → D) {l : List α} {i : Int} (h0 : 0 ≤ i) (h1 : i < l.length) : at? (l.map f) i = some (f (nth l i)) := by
  unfold at? L2.atI L2.ixN
  rw [if_pos h0, if_pos (by rw [List.length_map]; exact h1)]
  show (l.map f)[i.toNat]? = _
  rw [List.getElem?_map, List.getElem?_eq_getElem (by omega)]
  unfold nth
  rw [List.getD_eq_getElem?_getD, List.getElem?_eq_getElem (by omega)]
  rfl
theorem at_last {α : Type} [Inhabited α] (f : α → D) {l : List α} (h : l ≠ []) : at? (l.map f) (-1) = some (f (nth l (l.length - 1))) := by
  have hl : 0 < l.length := List.length_pos_iff.mpr h
  unfold at? L2.atI L2.ixN
  rw [if_neg (by omega), if_pos (by rw [List.length_map]; omega)]
  show (l.map f)[((-1 : Int) + ((l.map f).length : Int)).toNat]? = _
  rw [List.getElem?_map]
  have e : ((-1 : Int) + ((l.map f).length : Int)).toNat = ((l.length : Int) - 1).toNat := by rw [List.length_map]; omega
  rw [e, List.getElem?_eq_getElem (by omega)]
  unfold nth
  rw [List.getD_eq_getElem?_getD, List.getElem?_eq_getElem (by omega)]
  rfl
theorem nth_mem {α : Type} [Inhabited α] {l : List α} {i : Int} (h0 : 0 ≤ i) (h1 : i < l.length) : nth l i ∈ l := by
  unfold nth
  rw [List.getD_eq_getElem?_getD, List.getElem?_eq_getElem (by omega)]
  exact List.getElem_mem _
theorem ix_tup (xs : List D) (j : Int) : ixB (.tup xs) (.dat (.int j)) = (M.opt (at? xs j) >>= fun d => (pure (.dat d) : M R)) := rfl
theorem ix_lst (xs : List D) (j : Int) : ixB (.lst xs) (.dat (.int j)) = (M.opt (at? xs j) >>= fun d => (pure (.dat d) : M R)) := rfl
theorem ix_scr (xs : List D) (j : Int) : ixB (.scr xs) (.dat (.int j)) = (M.opt (at? xs j) >>= fun d => (pure (.dat d) : M R)) := rfl
theorem ix_dct (ks vs : List D) (k : D) : ixB (.dct ks vs) (.dat k) = (M.guard (keyOk k) >>= fun _ => M.opt (dget ks vs k) >>= fun d => (pure (.dat d) : M R)) := by cases k <;> rfl
theorem store1_dat (m : Bool) (i : Nat) (d : D) (env : Env) : store1 m i (.dat d) env = (pure (env.set i (some (.dat d))) : M Env) := rfl
theorem store1_cell (m : Bool) (i : Nat) (c : Nat) (env : Env) : store1 m i (.cell c) env = (pure (env.set i (some (.cell c))) : M Env) := rfl
theorem store1_own0 (i : Nat) (d : D) (env : Env) : store1 false i (.own d) env = (pure (env.set i (some (.dat d))) : M Env) := rfl
theorem store1_own1 (i : Nat) (d : D) (env : Env) (s : Sto) : store1 true i (.own d) env s = .ok (env.set i (some (.cell s.length))) (s ++ [⟨d, true⟩]) := rfl
theorem set3_0 (x y z d : D) : setAt [x, y, z] 0 d = some [d, y, z] := rfl
theorem set3_1 (x y z d : D) : setAt [x, y, z] 1 d = some [x, d, z] := rfl
theorem set3_2 (x y z d : D) : setAt [x, y, z] 2 d = some [x, y, d] := rfl
/-! ### ints and ranges -/
/-- the ints from one up to another one -/
def ir (a b : Int) : List Int := (List.range (b - a).toNat).map fun k : Nat => a + (k : Int)
theorem mem_ir {a b x : Int} : x ∈ ir a b ↔ a ≤ x ∧ x < b := by
  unfold ir
  rw [List.mem_map]
  constructor
  · rintro ⟨k, hk, rfl⟩
    have := List.mem_range.mp hk
    omega
  · intro h
    exact ⟨(x - a).toNat, List.mem_range.mpr (by omega), by omega⟩
theorem len_ir (a b : Int) : (ir a b).length = (b - a).toNat := by unfold ir; rw [List.length_map, List.length_range]
theorem ir_cons {a b : Int} (h : a < b) : ir a b = a :: ir (a + 1) b := by
  unfold ir
  have e : (b - a).toNat = (b - (a + 1)).toNat + 1 := by omega
  rw [e, List.range_succ_eq_map]
  simp only [List.map_cons, List.map_map]
  congr 1
  · simp
  · apply List.map_congr_left
    intro i _
    simp only [Function.comp]
    omega
theorem ir_nil {a b : Int} (h : b ≤ a) : ir a b = [] := by
  unfold ir
  have : (b - a).toNat = 0 := by omega
  rw [this]; rfl
theorem ir_snoc {a b : Int} (h : a ≤ b) : ir a (b + 1) = ir a b ++ [b] := by
  unfold ir
  have e : (b + 1 - a).toNat = (b - a).toNat + 1 := by omega
  rw [e, List.range_succ, List.map_append]
  congr 1
  show [a + (((b - a).toNat : Nat) : Int)] = [b]
  congr 1
  omega
theorem ir_up (a b : Int) : (ir a b).Pairwise (· < ·) := by
  unfold ir
  rw [List.pairwise_map]
  exact List.Pairwise.imp (fun h => by omega) List.pairwise_lt_range
theorem ir_nodup (a b : Int) : (ir a b).Nodup := (ir_up a b).imp fun h => by omega
theorem rngD_ir : ∀ (n : Nat) (a : Int), rngD a n = (ir a (a + n)).map D.int
  | 0, a => by rw [ir_nil (by omega)]; rfl
  | n + 1, a => by
    show D.int a :: rngD (a + 1) n = _
    rw [rngD_ir n (a + 1), ir_cons (show a < a + ((n + 1 : Nat) : Int) by omega)]
    show _ = D.int a :: (ir (a + 1) (a + ((n + 1 : Nat) : Int))).map D.int
    rw [show a + 1 + (n : Int) = a + ((n + 1 : Nat) : Int) by omega]
theorem rngD_2 (a b : Int) : rngD a (b - a).toNat = (ir a b).map D.int := by
  rw [rngD_ir]
  by_cases h : a ≤ b
  · rw [show a + (((b - a).toNat : Nat) : Int) = b by omega]
  · rw [ir_nil (show b ≤ a by omega), ir_nil (by omega)]
theorem rng1 {j : Int} (h : -1000000 ≤ j ∧ j ≤ 1000000) (s : Sto) : rngB [.dat (.int j)] s = .ok ((ir 0 j).map D.int) s := by
  show (M.guard (decide (-(2 ^ 62) ≤ j) && decide (j ≤ 1000000)) >>= fun _ => (pure (rngD 0 j.toNat) : M (List D))) s = _
  rw [decide_eq_true (by omega), decide_eq_true h.2]
  show Res.ok (rngD 0 j.toNat) s = _
  have := rngD_2 0 j
  rw [Int.sub_zero] at this
  rw [this]
theorem rng2 {i j : Int} (h : (-1000000 ≤ i ∧ i ≤ 1000000) ∧ (-1000000 ≤ j ∧ j ≤ 1000000)) (s : Sto) : rngB [.dat (.int i), .dat (.int j)] s = .ok ((ir i j).map D.int) s := by
  show (M.guard (decide (-1000000 ≤ i) && decide (j ≤ 1000000) && decide (i ≤ 1000000) && decide (-1000000 ≤ j)) >>= fun _ => (pure (rngD i (j - i).toNat) : M (List D))) s = _
  rw [decide_eq_true h.1.1, decide_eq_true h.1.2, decide_eq_true h.2.1, decide_eq_true h.2.2]
  show Res.ok (rngD i (j - i).toNat) s = _
  rw [rngD_2]
/-- items with their numbers -/
def enI {α : Type} (l : List α) : List (Int × α) := (ir 0 l.length).zip l
theorem enumD_map {α : Type} (f : α → D) : ∀ (l : List α) (i : Int), enumD i (l.map f) = ((ir i (i + l.length)).zip l).map fun p => .tup [.int p.1, f p.2]
  | [], i => by simp [enumD]
  | a :: l, i => by
    show D.tup [.int i, f a] :: enumD (i + 1) (l.map f) = _
    rw [enumD_map f l (i + 1), ir_cons (show i < i + ((a :: l).length : Int) by simp only [List.length_cons]; omega)]
    show _ = D.tup [.int i, f a] :: ((ir (i + 1) (i + ((a :: l).length : Int))).zip l).map _
    rw [show i + 1 + (l.length : Int) = i + ((a :: l).length : Int) by simp only [List.length_cons]; omega]
theorem enumD_0 {α : Type} (f : α → D) (l : List α) : enumD 0 (l.map f) = (enI l).map fun p => .tup [.int p.1, f p.2] := by
  rw [enumD_map]
  unfold enI
  rw [Int.zero_add]
theorem zipD_map {α β : Type} (f : α → D) (g : β → D) : ∀ (l : List α) (m : List β), zipD (l.map f) (m.map g) = (l.zip m).map fun p => .tup [f p.1, g p.2]
  | [], _ => rfl
  | _ :: _, [] => rfl
  | a :: l, b :: m => by
    show D.tup [f a, g b] :: zipD (l.map f) (m.map g) = _
    rw [zipD_map f g l m]; rfl
theorem zipD3_map {α β γ : Type} (f : α → D) (g : β → D) (h : γ → D) : ∀ (l : List α) (m : List β) (n : List γ), zipD3 (l.map f) (m.map g) (n.map h) = (l.zip (m.zip n)).map fun p => .tup [f p.1, g p.2.1, h p.2.2]
  | [], _, _ => rfl
  | _ :: _, [], _ => rfl
  | _ :: _, _ :: _, [] => rfl
  | a :: l, b :: m, c :: n => by
    show D.tup [f a, g b, h c] :: zipD3 (l.map f) (m.map g) (n.map h) = _
    rw [zipD3_map f g h l m n]; rfl
theorem zip3B_t (as bs cs : List D) (s : Sto) : zip3B [.tup as, .tup bs, .tup cs] s = .ok (zipD3 as bs cs) s := rfl
theorem intsOf_map : ∀ l : List Int, intsOf (l.map D.int) = some l
  | [] => rfl
  | a :: l => by
    show (match intsOf (l.map D.int) with | some is => some (a :: is) | none => none) = _
    rw [intsOf_map l]
theorem intsOf_fun {α : Type} (f : α → Int) (l : List α) : intsOf (l.map fun x => D.int (f x)) = some (l.map f) := by
  have := intsOf_map (l.map f)
  rw [List.map_map] at this
  exact this
theorem intsOf_nil : intsOf [] = some [] := rfl
theorem blsOf_map : ∀ l : List Bool, blsOf (l.map D.bl) = some l
  | [] => rfl
  | a :: l => by
    show (match blsOf (l.map D.bl) with | some is => some (a :: is) | none => none) = _
    rw [blsOf_map l]
theorem blsOf_fun {α : Type} (f : α → Bool) (l : List α) : blsOf (l.map fun x => D.bl (f x)) = some (l.map f) := by
  have := blsOf_map (l.map f)
  rw [List.map_map] at this
  exact this
theorem all_id {α : Type} (f : α → Bool) (l : List α) : (l.map f).all id = l.all f := by rw [List.all_map]; rfl
theorem any_id {α : Type} (f : α → Bool) (l : List α) : (l.map f).any id = l.any f := by rw [List.any_map]; rfl
theorem isEmpty_map {α β : Type} (f : α → β) (l : List α) : (l.map f).isEmpty = l.isEmpty := by cases l <;> rfl
/-! ### == and in -/
mutual
/-- == of data, told by its shape -/
def eqD : D → D → Bool
  | .non, .non => true
  | .bl a, .bl b => a == b
  | .int a, .int b => decide (a = b)
  | .bl a, .int j => (if a then 1 else 0) == j
  | .int i, .bl b => i == (if b then 1 else 0)
  | .str a, .str b => a == b
  | .tup a, .tup b => eqDs a b
  | .lst a, .lst b => eqDs a b
  | _, _ => false
def eqDs : List D → List D → Bool
  | [], [] => true
  | a :: as, b :: bs => eqD a b && eqDs as bs
  | _, _ => false
end
mutual
/-- plain data of no more than so many levels -/
def shp : Nat → D → Bool
  | _, .non => true
  | _, .bl _ => true
  | _, .int _ => true
  | _, .str s => PyData.strOk s
  | n + 1, .tup xs => shps n xs
  | n + 1, .lst xs => shps n xs
  | _, _ => false
def shps : Nat → List D → Bool
  | _, [] => true
  | n, d :: ds => shp n d && shps n ds
end
mutual
theorem shp_ok : ∀ {n : Nat} {d : D}, shp n d = true → ∃ p, d.toP = some p ∧ p.canLay0 = true ∧ p.depth ≤ n
  | n, .non, _ => ⟨_, rfl, by simp [PyData.canLay0], by simp [PyData.depth]⟩
  | n, .bl b, _ => ⟨_, rfl, by simp [PyData.canLay0], by simp [PyData.depth]⟩
  | n, .int b, _ => ⟨_, rfl, by simp [PyData.canLay0], by simp [PyData.depth]⟩
  | n, .str b, h => ⟨_, rfl, by unfold shp at h; simp [PyData.canLay0, h], by simp [PyData.depth]⟩
  | n + 1, .tup xs, h => by
    obtain ⟨ps, h1, h2, h3⟩ := shps_ok (n := n) (show shps n xs = true by unfold shp at h; exact h)
    exact ⟨.tuple ps, by simp only [D.toP, h1], by simp [PyData.canLay0, h2], by simp only [PyData.depth]; omega⟩
  | n + 1, .lst xs, h => by
    obtain ⟨ps, h1, h2, h3⟩ := shps_ok (n := n) (show shps n xs = true by unfold shp at h; exact h)
    exact ⟨.list ps, by simp only [D.toP, h1], by simp [PyData.canLay0, h2], by simp only [PyData.depth]; omega⟩
  | 0, .tup xs, h => by unfold shp at h; cases h
  | 0, .lst xs, h => by unfold shp at h; cases h
  | n, .scr xs, h => by unfold shp at h; cases h
  | n, .dct xs _, h => by unfold shp at h; cases h
  | n, .obj xs _, h => by unfold shp at h; cases h
  | n, .fn xs, h => by unfold shp at h; cases h
  | n, .itr xs, h => by unfold shp at h; cases h
theorem shps_ok : ∀ {n : Nat} {ds : List D}, shps n ds = true → ∃ ps, D.toPs ds = some ps ∧ PyData.canLayAll0 ps = true ∧ PyData.depthAll ps ≤ n
  | n, [], _ => ⟨[], rfl, by simp [PyData.canLayAll0], by simp [PyData.depthAll]⟩
  | n, d :: ds, h => by
    unfold shps at h
    rw [Bool.and_eq_true] at h
    obtain ⟨p, h1, h2, h3⟩ := shp_ok h.1
    obtain ⟨ps, h4, h5, h6⟩ := shps_ok h.2
    exact ⟨p :: ps, by simp only [D.toPs, h1, h4], by simp [PyData.canLayAll0, h2, h5], by simp only [PyData.depthAll]; omega⟩
end
theorem beq_eq_decide' (i j : Int) : (i == j) = decide (i = j) := by rw [Bool.eq_iff_iff]; simp
mutual
theorem eqv_D : ∀ {a b : D} {p q : PyData}, a.toP = some p → b.toP = some q → PyData.eqv p q = eqD a b
  | .non, b, p, q, h1, h2 => by
    simp only [D.toP, Option.some.injEq] at h1; subst h1
    cases b <;> first | (simp only [D.toP, Option.some.injEq] at h2; subst h2; simp [PyData.eqv, eqD, beq_eq_decide']; done) | (simp only [D.toP] at h2; split at h2 <;> first | (cases h2; simp [PyData.eqv, eqD, beq_eq_decide']; done) | cases h2) | (simp only [D.toP] at h2; cases h2)
  | .bl a, b, p, q, h1, h2 => by
    simp only [D.toP, Option.some.injEq] at h1; subst h1
    cases b <;> first | (simp only [D.toP, Option.some.injEq] at h2; subst h2; simp [PyData.eqv, eqD, beq_eq_decide']; done) | (simp only [D.toP] at h2; split at h2 <;> first | (cases h2; simp [PyData.eqv, eqD, beq_eq_decide']; done) | cases h2) | (simp only [D.toP] at h2; cases h2)
  | .int a, b, p, q, h1, h2 => by
    simp only [D.toP, Option.some.injEq] at h1; subst h1
    cases b <;> first | (simp only [D.toP, Option.some.injEq] at h2; subst h2; simp [PyData.eqv, eqD, beq_eq_decide']; done) | (simp only [D.toP] at h2; split at h2 <;> first | (cases h2; simp [PyData.eqv, eqD, beq_eq_decide']; done) | cases h2) | (simp only [D.toP] at h2; cases h2)
  | .str a, b, p, q, h1, h2 => by
    simp only [D.toP, Option.some.injEq] at h1; subst h1
    cases b <;> first | (simp only [D.toP, Option.some.injEq] at h2; subst h2; simp [PyData.eqv, eqD, beq_eq_decide']; done) | (simp only [D.toP] at h2; split at h2 <;> first | (cases h2; simp [PyData.eqv, eqD, beq_eq_decide']; done) | cases h2) | (simp only [D.toP] at h2; cases h2)
  | .tup a, b, p, q, h1, h2 => by
    simp only [D.toP] at h1
    split at h1
    · rename_i ps e
      cases h1
      cases b with
      | tup b =>
        simp only [D.toP] at h2
        split at h2
        · rename_i qs e2
          cases h2
          simp only [PyData.eqv, eqD]
          exact eqv_Ds e e2
        · cases h2
      | _ => first | (simp only [D.toP, Option.some.injEq] at h2; subst h2; simp [PyData.eqv, eqD, beq_eq_decide']; done) | (simp only [D.toP] at h2; split at h2 <;> first | (cases h2; simp [PyData.eqv, eqD, beq_eq_decide']; done) | cases h2) | (simp only [D.toP] at h2; cases h2)
    · cases h1
  | .lst a, b, p, q, h1, h2 => by
    simp only [D.toP] at h1
    split at h1
    · rename_i ps e
      cases h1
      cases b with
      | lst b =>
        simp only [D.toP] at h2
        split at h2
        · rename_i qs e2
          cases h2
          simp only [PyData.eqv, eqD]
          exact eqv_Ds e e2
        · cases h2
      | _ => first | (simp only [D.toP, Option.some.injEq] at h2; subst h2; simp [PyData.eqv, eqD, beq_eq_decide']; done) | (simp only [D.toP] at h2; split at h2 <;> first | (cases h2; simp [PyData.eqv, eqD, beq_eq_decide']; done) | cases h2) | (simp only [D.toP] at h2; cases h2)
    · cases h1
  | .scr _, _, _, _, h1, _ => by simp only [D.toP] at h1; cases h1
  | .dct _ _, _, _, _, h1, _ => by simp only [D.toP] at h1; cases h1
  | .obj _ _, _, _, _, h1, _ => by simp only [D.toP] at h1; cases h1
  | .fn _, _, _, _, h1, _ => by simp only [D.toP] at h1; cases h1
  | .itr _, _, _, _, h1, _ => by simp only [D.toP] at h1; cases h1
theorem eqv_Ds : ∀ {a b : List D} {p q : List PyData}, D.toPs a = some p → D.toPs b = some q → PyData.eqvAll p q = eqDs a b
  | [], [], p, q, h1, h2 => by cases h1; cases h2; simp [PyData.eqvAll, eqDs]
  | [], b :: bs, p, q, h1, h2 => by
    cases h1
    simp only [D.toPs] at h2
    split at h2
    · cases h2; simp [PyData.eqvAll, eqDs]
    · cases h2
  | a :: as, [], p, q, h1, h2 => by
    cases h2
    simp only [D.toPs] at h1
    split at h1
    · cases h1; simp [PyData.eqvAll, eqDs]
    · cases h1
  | a :: as, b :: bs, p, q, h1, h2 => by
    simp only [D.toPs] at h1 h2
    split at h1
    · rename_i p1 ps1 e1 e2
      cases h1
      split at h2
      · rename_i q1 qs1 e3 e4
        cases h2
        simp only [PyData.eqvAll, eqDs]
        rw [eqv_D e1 e3, eqv_Ds e2 e4]
      · cases h2
    · cases h1
end
theorem deq_D {a b : D} (ha : shp 60 a = true) (hb : shp 60 b = true) : deq a b = some (eqD a b) := by
  obtain ⟨p, h1, h2, h3⟩ := shp_ok ha
  obtain ⟨q, h4, h5, h6⟩ := shp_ok hb
  unfold deq
  rw [h1, h4]
  show (if (SeqAt.shaped p && SeqAt.shaped q) = true then some (PyData.eqv p q) else none) = _
  have e1 : SeqAt.shaped p = true := by unfold SeqAt.shaped; rw [h2, decide_eq_true (by omega)]; rfl
  have e2 : SeqAt.shaped q = true := by unfold SeqAt.shaped; rw [h5, decide_eq_true (by omega)]; rfl
  rw [e1, e2, eqv_D h1 h4]
  rfl
theorem shps_all {n : Nat} : ∀ l : List D, shps n l = l.all (shp n)
  | [] => rfl
  | a :: l => by unfold shps; rw [shps_all l]; rfl
theorem din_D {a : D} {l : List D} (ha : shp 59 a = true) (hl : shps 59 l = true) : din a l = some (l.any fun x => eqD x a) := by
  obtain ⟨p, h1, h2, h3⟩ := shp_ok ha
  obtain ⟨q, h4, h5, h6⟩ := shps_ok hl
  unfold din
  rw [h1, h4]
  show (if (SeqAt.shaped p && SeqAt.shaped (.list q)) = true then some (q.any fun x => PyData.eqv x p) else none) = _
  have e1 : SeqAt.shaped p = true := by unfold SeqAt.shaped; rw [h2, decide_eq_true (by omega)]; rfl
  have e2 : SeqAt.shaped (.list q) = true := by unfold SeqAt.shaped; rw [show (PyData.list q).canLay0 = true by simp [PyData.canLay0, h5], decide_eq_true (by simp only [PyData.depth]; omega)]; rfl
  rw [e1, e2]
  show some (q.any fun x => PyData.eqv x p) = _
  congr 1
  clear hl h5 h6 e2
  induction l generalizing q with
  | nil => cases h4; rfl
  | cons b l ih =>
    simp only [D.toPs] at h4
    split at h4
    · rename_i p1 ps1 e3 e4
      cases h4
      simp only [List.any_cons]
      rw [eqv_D e3 h1, ih _ e4]
    · cases h4
/-- a way to tell things by data -/
structure En {α : Type} [DecidableEq α] (f : α → D) : Prop where
  sh : ∀ a, shp 20 (f a) = true
  eq : ∀ a b, eqD (f a) (f b) = decide (a = b)
mutual
theorem shp_mono : ∀ {n m : Nat} {d : D}, n ≤ m → shp n d = true → shp m d = true
  | n, m, .non, _, _ => by unfold shp; rfl
  | n, m, .bl _, _, _ => by unfold shp; rfl
  | n, m, .int _, _, _ => by unfold shp; rfl
  | n, m, .str _, _, h => by unfold shp at h ⊢; exact h
  | n + 1, m, .tup xs, h, e => by
    obtain ⟨k, rfl⟩ : ∃ k, m = k + 1 := ⟨m - 1, by omega⟩
    unfold shp at e ⊢
    exact shps_mono (by omega) e
  | n + 1, m, .lst xs, h, e => by
    obtain ⟨k, rfl⟩ : ∃ k, m = k + 1 := ⟨m - 1, by omega⟩
    unfold shp at e ⊢
    exact shps_mono (by omega) e
  | 0, _, .tup xs, _, h => by unfold shp at h; cases h
  | 0, _, .lst xs, _, h => by unfold shp at h; cases h
  | n, _, .scr xs, _, h => by unfold shp at h; cases h
  | n, _, .dct xs _, _, h => by unfold shp at h; cases h
  | n, _, .obj xs _, _, h => by unfold shp at h; cases h
  | n, _, .fn xs, _, h => by unfold shp at h; cases h
  | n, _, .itr xs, _, h => by unfold shp at h; cases h
theorem shps_mono : ∀ {n m : Nat} {d : List D}, n ≤ m → shps n d = true → shps m d = true
  | n, m, [], _, _ => rfl
  | n, m, d :: ds, h, e => by
    unfold shps at e ⊢
    rw [Bool.and_eq_true] at e ⊢
    exact ⟨shp_mono h e.1, shps_mono h e.2⟩
end
section
variable {α β : Type} [DecidableEq α] [DecidableEq β] {f : α → D} {g : β → D}
theorem eqDs_map (h : ∀ a b, eqD (f a) (f b) = decide (a = b)) : ∀ l m : List α, eqDs (l.map f) (m.map f) = decide (l = m)
  | [], [] => by simp [eqDs]
  | [], _ :: _ => by simp [eqDs]
  | _ :: _, [] => by simp [eqDs]
  | a :: l, b :: m => by
    simp only [List.map_cons, eqDs, h, eqDs_map h l m, List.cons.injEq, Bool.decide_and]
theorem deq_en (h : En f) (a b : α) : deq (f a) (f b) = some (decide (a = b)) := by
  rw [deq_D (shp_mono (by decide) (h.sh a)) (shp_mono (by decide) (h.sh b)), h.eq]
theorem shps_map {α : Type} {f : α → D} {n : Nat} (h : ∀ a, shp n (f a) = true) (l : List α) : shps n (l.map f) = true := by
  rw [shps_all, List.all_map, List.all_eq_true]
  intro x _
  exact h x
theorem din_en (h : En f) (a : α) (l : List α) : din (f a) (l.map f) = some (decide (a ∈ l)) := by
  rw [din_D (shp_mono (by decide) (h.sh a)) (shps_map (fun x => shp_mono (by decide) (h.sh x)) l)]
  congr 1
  induction l with
  | nil => simp
  | cons b l ih =>
    rw [List.map_cons, List.any_cons, ih, h.eq]
    by_cases e : b = a
    · subst e; simp
    · have e' : ¬ a = b := fun z => e z.symm
      simp [e, e']
theorem en_int : En D.int := ⟨fun _ => by unfold shp; rfl, fun _ _ => by simp [eqD]⟩
theorem en_bl : En D.bl := ⟨fun _ => by unfold shp; rfl, fun a b => by cases a <;> cases b <;> simp [eqD]⟩
end
/-- lots: tuples of ints -/
abbrev lotD (l : List Int) : D := .tup (l.map D.int)
theorem en_lot : En lotD := ⟨fun l => by show shp 20 (.tup (l.map D.int)) = true; unfold shp; exact shps_map (fun _ => by unfold shp; rfl) l, fun a b => by show eqD (.tup _) (.tup _) = _; unfold eqD; exact eqDs_map en_int.eq a b⟩
abbrev lotsD (l : List (List Int)) : D := .tup (l.map lotD)
theorem en_lots : En lotsD := ⟨fun l => by show shp 20 (.tup (l.map lotD)) = true; unfold shp; exact shps_map (fun a => by show shp 19 (.tup (a.map D.int)) = true; unfold shp; exact shps_map (fun _ => by unfold shp; rfl) a) l, fun a b => by show eqD (.tup _) (.tup _) = _; unfold eqD; exact eqDs_map en_lot.eq a b⟩
theorem deq_int (i j : Int) : deq (.int i) (.int j) = some (decide (i = j)) := deq_en en_int i j
theorem deq_bl (i j : Bool) : deq (.bl i) (.bl j) = some (decide (i = j)) := deq_en en_bl i j
theorem deq_lot (l m : List Int) : deq (.tup (l.map D.int)) (.tup (m.map D.int)) = some (decide (l = m)) := deq_en en_lot l m
theorem deq_lots (l m : List (List Int)) : deq (.tup (l.map lotD)) (.tup (m.map lotD)) = some (decide (l = m)) := deq_en en_lots l m
theorem deq_lint (l m : List Int) : deq (.lst (l.map D.int)) (.lst (m.map D.int)) = some (decide (l = m)) := by
  rw [deq_D (by unfold shp; exact shps_map (fun _ => by unfold shp; rfl) l) (by unfold shp; exact shps_map (fun _ => by unfold shp; rfl) m)]
  unfold eqD
  rw [eqDs_map en_int.eq]
theorem deq_lbl (l m : List Bool) : deq (.lst (l.map D.bl)) (.lst (m.map D.bl)) = some (decide (l = m)) := by
  rw [deq_D (by unfold shp; exact shps_map (fun _ => by unfold shp; rfl) l) (by unfold shp; exact shps_map (fun _ => by unfold shp; rfl) m)]
  unfold eqD
  rw [eqDs_map en_bl.eq]
theorem deq_lnil (l : List D) (h : shps 59 l = true) : deq (.lst l) (.lst []) = some l.isEmpty := by
  rw [deq_D (by unfold shp; exact h) (by unfold shp shps; rfl)]
  unfold eqD
  cases l <;> simp [eqDs]
theorem deq_tnil (l : List D) (h : shps 59 l = true) : deq (.tup l) (.tup []) = some l.isEmpty := by
  rw [deq_D (by unfold shp; exact h) (by unfold shp shps; rfl)]
  unfold eqD
  cases l <;> simp [eqDs]
theorem din_int (i : Int) (l : List Int) : din (.int i) (l.map D.int) = some (decide (i ∈ l)) := din_en en_int i l
theorem din_bl (i : Bool) (l : List Bool) : din (.bl i) (l.map D.bl) = some (decide (i ∈ l)) := din_en en_bl i l
theorem din_lot (i : List Int) (l : List (List Int)) : din (.tup (i.map D.int)) (l.map lotD) = some (decide (i ∈ l)) := by rw [show din _ _ = _ from din_en en_lot i l]; congr
theorem din_lots (i : List (List Int)) (l : List (List (List Int))) : din (.tup (i.map lotD)) (l.map lotsD) = some (decide (i ∈ l)) := by rw [show din _ _ = _ from din_en en_lots i l]; congr
/-- data that a built-in test may meet -/
def isB (d : D) (lo hi : Int) : Bool := match d with
  | .int i => decide (lo ≤ i) && decide (i ≤ hi)
  | _ => false
def isT (d : D) (lo hi : Int) : Bool := match d with
  | .tup xs => decide (lo ≤ xs.length) && decide ((xs.length : Int) ≤ hi)
  | _ => false
theorem isB_int (i lo hi : Int) : isB (.int i) lo hi = (decide (lo ≤ i) && decide (i ≤ hi)) := rfl
theorem isT_tup (xs : List D) (lo hi : Int) : isT (.tup xs) lo hi = (decide (lo ≤ xs.length) && decide ((xs.length : Int) ≤ hi)) := rfl
theorem endFn_dat0 (d : D) : endFn 0 (.dat d) [] = .ok (.dat d) [] := rfl
theorem endFn_own0 (d : D) : endFn 0 (.own d) [] = .ok (.own d) [] := rfl
/-- a part of a list -/
def cutA {α : Type} (l : List α) (lo hi : Option Int) : List α := (l.drop (HT.sIx l.length 0 lo)).take (HT.sIx l.length l.length hi - HT.sIx l.length 0 lo)
theorem cut_map {α : Type} (f : α → D) (l : List α) (lo hi : Option Int) : cut (l.map f) lo hi = (cutA l lo hi).map f := by
  unfold cut cutA
  rw [List.length_map, List.map_take, List.map_drop]
theorem cutA_to {α : Type} (l : List α) {i : Int} (h : 0 ≤ i) : cutA l none (some i) = l.take i.toNat := by
  obtain ⟨k, rfl⟩ : ∃ k : Nat, i = k := ⟨i.toNat, by omega⟩
  unfold cutA
  rw [HT.sIx_none, HT.sIx_nat, List.drop_zero, Nat.sub_zero, Int.toNat_natCast]
  by_cases hk : k ≤ l.length
  · rw [Nat.min_eq_left hk]
  · rw [Nat.min_eq_right (by omega), List.take_length, List.take_of_length_le (by omega)]
theorem cutA_from {α : Type} (l : List α) {i : Int} (h : 0 ≤ i) : cutA l (some i) none = l.drop i.toNat := by
  obtain ⟨k, rfl⟩ : ∃ k : Nat, i = k := ⟨i.toNat, by omega⟩
  unfold cutA
  rw [HT.sIx_none, HT.sIx_nat, Int.toNat_natCast]
  by_cases hk : k ≤ l.length
  · rw [Nat.min_eq_left hk, List.take_of_length_le (by rw [List.length_drop]; exact Nat.le_refl _)]
  · rw [Nat.min_eq_right (by omega), List.drop_of_length_le (Nat.le_refl _), List.drop_of_length_le (by omega), List.take_nil]
theorem cutA_all {α : Type} (l : List α) : cutA l none none = l := by
  unfold cutA
  rw [HT.sIx_none, HT.sIx_none, List.drop_zero, Nat.sub_zero, List.take_length]
theorem din_lot0 (l : List (List Int)) : din (.tup []) (l.map lotD) = some (decide ([] ∈ l)) := din_lot [] l
theorem din_lot1 (i : Int) (l : List (List Int)) : din (.tup [.int i]) (l.map lotD) = some (decide ([i] ∈ l)) := din_lot [i] l
theorem deq_lot0 (l : List Int) : deq (.tup (l.map D.int)) (.tup []) = some (decide (l = [])) := deq_lot l []
theorem deq_lint0 (l : List Int) : deq (.lst (l.map D.int)) (.lst []) = some (decide (l = [])) := deq_lint l []
theorem shp_non (n : Nat) : shp n .non = true := by unfold shp; rfl
theorem shp_bl (n : Nat) (b : Bool) : shp n (.bl b) = true := by unfold shp; rfl
theorem shp_int (n : Nat) (b : Int) : shp n (.int b) = true := by unfold shp; rfl
theorem shp_tup (n : Nat) (l : List D) : shp (n + 1) (.tup l) = shps n l := by rw [shp]
theorem shp_lst (n : Nat) (l : List D) : shp (n + 1) (.lst l) = shps n l := by rw [shp]
theorem shps_nil (n : Nat) : shps n [] = true := by rw [shps]
theorem shps_cons (n : Nat) (d : D) (l : List D) : shps n (d :: l) = (shp n d && shps n l) := by rw [shps]
theorem shps_ints (n : Nat) (l : List Int) : shps n (l.map D.int) = true := shps_map (fun a => shp_int n a) l
theorem shps_bls (n : Nat) (l : List Bool) : shps n (l.map D.bl) = true := shps_map (fun a => shp_bl n a) l
theorem shps_lots (n : Nat) (l : List (List Int)) : shps (n + 1) (l.map lotD) = true := shps_map (fun a => by rw [shp_tup, shps_ints]) l
theorem shps_fun {α : Type} (n : Nat) (f : α → Int) (l : List α) : shps n (l.map fun x => D.int (f x)) = true := shps_map (fun a => shp_int n _) l
mutual
theorem eqD_self : ∀ {n : Nat} {d : D}, shp n d = true → eqD d d = true
  | n, .non, _ => by simp [eqD]
  | n, .bl b, _ => by simp [eqD]
  | n, .int b, _ => by simp [eqD]
  | n, .str b, _ => by simp [eqD]
  | n + 1, .tup xs, h => by rw [shp_tup] at h; rw [eqD]; exact eqDs_self h
  | n + 1, .lst xs, h => by rw [shp_lst] at h; rw [eqD]; exact eqDs_self h
  | 0, .tup xs, h => by unfold shp at h; cases h
  | 0, .lst xs, h => by unfold shp at h; cases h
  | n, .scr xs, h => by unfold shp at h; cases h
  | n, .dct xs _, h => by unfold shp at h; cases h
  | n, .obj xs _, h => by unfold shp at h; cases h
  | n, .fn xs, h => by unfold shp at h; cases h
  | n, .itr xs, h => by unfold shp at h; cases h
theorem eqDs_self : ∀ {n : Nat} {ds : List D}, shps n ds = true → eqDs ds ds = true
  | n, [], _ => by rw [eqDs]
  | n, d :: ds, h => by
    rw [shps_cons, Bool.and_eq_true] at h
    rw [eqDs, eqD_self h.1, eqDs_self h.2]
    rfl
end
theorem deq_self {d : D} (h : shp 60 d = true) : deq d d = some true := by rw [deq_D h h, eqD_self h]
theorem zipD_self : ∀ xs : List D, zipD xs xs = xs.map fun x => .tup [x, x]
  | [] => rfl
  | x :: xs => by show D.tup [x, x] :: zipD xs xs = _; rw [zipD_self xs]; rfl
theorem all_true {α : Type} (l : List α) : l.all (fun _ => true) = true := by simp
theorem any_false {α : Type} (l : List α) : l.any (fun _ => false) = false := by simp
theorem dec_self {α : Type} (a : α) [Decidable (a = a)] : decide (a = a) = true := decide_eq_true rfl
theorem guard_pow {j : Int} (h : 0 ≤ j ∧ j ≤ 1000) (s : Sto) : M.guard (powOk 10 j) s = .ok () s := by
  have : powOk 10 j = true := by
    unfold powOk
    rw [decide_eq_true h.1, decide_eq_true (show j ≤ 1000000 by omega)]
    decide
  rw [this]; rfl
theorem rngR_t (ds : List D) : rngR true ds = .dat (.tup ds) := rfl
theorem rngR_f (ds : List D) : rngR false ds = .own (.lst ds) := rfl
theorem stepL_rev (xs : List D) : stepL (-1) xs = some xs.reverse := by unfold stepL; rw [if_pos rfl]
theorem rev_map {α β : Type} (f : α → β) (l : List α) : (l.map f).reverse = l.reverse.map f := List.map_reverse.symm
end DB
set_option maxHeartbeats 1000000
/-! small data can be told by repr -/
namespace DB
open PySem PySem.Spec L2 PyProof.Rows
/-- the data's text is told, nested at most n deep, at most w signs long -/
def RG (n w : Nat) (d : D) : Prop := ∃ p, d.toP = some p ∧ p.showable = true ∧ p.hasDict = false ∧ p.depth ≤ n ∧ p.shown.length ≤ w
theorem RG.mono {n w n' w' : Nat} {d : D} (h : RG n w d) (hn : n ≤ n') (hw : w ≤ w') : RG n' w' d := by
  obtain ⟨p, h1, h2, h3, h4, h5⟩ := h
  exact ⟨p, h1, h2, h3, Nat.le_trans h4 hn, Nat.le_trans h5 hw⟩
theorem RG_int {i : Int} (h : i.natAbs < 2 ^ 64) {n : Nat} : RG n 65 (.int i) := by
  have hl : i.natAbs.log2 < 64 := by
    by_cases h0 : i.natAbs = 0
    · rw [h0]; decide
    · exact (Nat.log2_lt h0).mpr h
  refine ⟨.int i, rfl, ?_, ?_, ?_, ?_⟩
  · simp only [PyData.showable, decide_eq_true_eq]; omega
  · simp only [PyData.hasDict]
  · simp only [PyData.depth]; omega
  · simp only [PyData.shown]
    have := int_text_length_le (k := 64) (by decide) hl
    show (Str.ofString (toString i)).length ≤ 65
    rw [PySem.ofString_length]; exact this
theorem RG_bl {b : Bool} {n : Nat} : RG n 5 (.bl b) := by
  refine ⟨.bool b, rfl, rfl, ?_, ?_, ?_⟩
  · simp only [PyData.hasDict]
  · simp only [PyData.depth]; omega
  · simp only [PyData.shown]; cases b <;> decide
theorem RG_non {n : Nat} : RG n 5 .non := by
  refine ⟨.none, rfl, rfl, ?_, ?_, ?_⟩
  · simp only [PyData.hasDict]
  · simp only [PyData.depth]; omega
  · simp only [PyData.shown]; decide
theorem RG_all {n w : Nat} : ∀ {xs : List D}, (∀ d ∈ xs, RG n w d) → ∃ ps, D.toPs xs = some ps ∧ PyData.showableAll ps = true ∧ PyData.hasDictAll ps = false ∧ PyData.depthAll ps ≤ n ∧ piled (PyData.shownAll ps) ≤ xs.length * (w + 2)
  | [], _ => ⟨[], rfl, rfl, rfl, Nat.zero_le _, by simp only [PyData.shownAll]; exact Nat.zero_le _⟩
  | x :: xs, h => by
    obtain ⟨p, h1, h2, h3, h4, h5⟩ := h x (List.mem_cons_self ..)
    obtain ⟨ps, g1, g2, g3, g4, g5⟩ := RG_all (fun d hd => h d (List.mem_cons_of_mem _ hd))
    refine ⟨p :: ps, ?_, ?_, ?_, ?_, ?_⟩
    · simp only [D.toPs, h1, g1]
    · simp only [PyData.showableAll, h2, g2, Bool.and_self]
    · simp only [PyData.hasDictAll, h3, g3, Bool.or_self]
    · simp only [PyData.depthAll]; omega
    · simp only [PyData.shownAll]
      rw [piled_cons]
      have : (x :: xs).length * (w + 2) = (w + 2) + xs.length * (w + 2) := by rw [List.length_cons, Nat.succ_mul]; omega
      omega
theorem tupleText_le (ts : List Str) : (tupleText ts).length ≤ piled ts + 3 := by
  unfold tupleText
  rw [strLen_append, strLen_append]
  have e1 : ((("(" : String) : Str)).length = 1 := rfl
  have e3 : (((if ts.length == 1 then ",)" else ")" : String) : Str)).length ≤ 2 := by split <;> decide
  rw [e1]
  by_cases h : ts = []
  · subst h
    have : (Str.join ", " []).length = 0 := rfl
    omega
  · have := join_length_add ts h
    omega
theorem listText_le : ∀ ts : List Str, (listText ts).length ≤ piled ts + 3
  | [] => by decide
  | t :: r => by
    have h := textFrom_length_pos r 1 (("[" : Str) ++ (if (0 : Nat) > 0 then ", " else "" : String) ++ t) (Nat.succ_pos 0)
    have e : ((("[" : Str) ++ (if (0 : Nat) > 0 then ", " else "" : String) ++ t)).length = 1 + t.length := by
      rw [strLen_append, strLen_append]; rfl
    have hX : (listText (t :: r)).length = (textFrom 0 "[" (t :: r)).length + 1 := by
      show (textFrom 0 "[" (t :: r) ++ "]").length = _
      rw [strLen_append]; rfl
    have hY : (textFrom 0 "[" (t :: r)).length = (textFrom 1 (("[" : Str) ++ (if (0 : Nat) > 0 then ", " else "" : String) ++ t) r).length := rfl
    rw [hX, hY, h, e, piled_cons]; omega
theorem RG_tup {n w w' : Nat} {xs : List D} (h : ∀ d ∈ xs, RG n w d) (hw : xs.length * (w + 2) + 3 ≤ w') : RG (n + 1) w' (.tup xs) := by
  obtain ⟨ps, g1, g2, g3, g4, g5⟩ := RG_all h
  refine ⟨.tuple ps, by simp only [D.toP, g1], ?_, ?_, ?_, ?_⟩
  · simp only [PyData.showable, g2]
  · simp only [PyData.hasDict, g3]
  · simp only [PyData.depth]; omega
  · simp only [PyData.shown]
    exact Nat.le_trans (tupleText_le _) (by omega)
theorem RG_lst {n w w' : Nat} {xs : List D} (h : ∀ d ∈ xs, RG n w d) (hw : xs.length * (w + 2) + 3 ≤ w') : RG (n + 1) w' (.lst xs) := by
  obtain ⟨ps, g1, g2, g3, g4, g5⟩ := RG_all h
  refine ⟨.list ps, by simp only [D.toP, g1], ?_, ?_, ?_, ?_⟩
  · simp only [PyData.showable, g2]
  · simp only [PyData.hasDict, g3]
  · simp only [PyData.depth]; omega
  · simp only [PyData.shown]
    exact Nat.le_trans (listText_le _) (by omega)
theorem RG.shownOk {d : D} (h : RG 60 sizeLine d) : ∃ p, d.toP = some p ∧ shownOk p = true := by
  obtain ⟨p, h1, h2, h3, h4, h5⟩ := h
  refine ⟨p, h1, ?_⟩
  simp only [DB.shownOk, h2, h3, Bool.not_false, Bool.true_and, Bool.and_eq_true, decide_eq_true_eq]
  exact ⟨h4, h5⟩
theorem repOk_tup {xs : List D} (h : RG 60 sizeLine (.tup xs)) : repOk (.tup xs) = true := by
  obtain ⟨p, h1, h2⟩ := h.shownOk
  unfold repOk
  rw [h1]
  exact h2
theorem repOk_lst {xs : List D} (h : RG 60 sizeLine (.lst xs)) : repOk (.lst xs) = true := by
  obtain ⟨p, h1, h2⟩ := h.shownOk
  unfold repOk
  rw [h1]
  exact h2
end DB
set_option maxHeartbeats 4000000
namespace DB
open PySem
/-! ### what holds behind a run -/
def wp {α : Type} (r : Res α) (Q : α → Sto → Prop) (_w : Wit Q) : Prop := match r with
  | .ok a s => Q a s
  | _ => False
section
variable {α β : Type}
theorem wp_ok (a : α) (s : Sto) (Q : α → Sto → Prop) (w : Wit Q) : wp (.ok a s) Q w = Q a s := rfl
theorem wp_bnd (r : Res α) (f : α → Sto → Res β) (w : Wit f) (Q : β → Sto → Prop) (w' : Wit Q) : wp (bnd r f w) Q w' = wp r (fun a s => wp (f a s) Q ⟨⟩) ⟨⟩ := by cases r <;> rfl
theorem wp_ite (c : Prop) [Decidable c] (x y : Res α) (Q : α → Sto → Prop) (w : Wit Q) : wp (if c then x else y) Q w = if c then wp x Q ⟨⟩ else wp y Q ⟨⟩ := by split <;> rfl
theorem wp_finP (k : Nat) (r : Res R) (s : Sto) (Q : R → Sto → Prop) (w : Wit Q) (h : wp r (fun a l => wp (finP k (.ok a l) s) Q ⟨⟩) ⟨⟩) : wp (finP k r s) Q w := by
  cases r with
  | ok a l => exact h
  | err _ _ _ => exact h.elim
  | no => exact h.elim
theorem wp_finL (r : Res R) (s : Sto) (Q : R → Sto → Prop) (w : Wit Q) (h : wp r (fun a l => wp (finL (.ok a l) s) Q ⟨⟩) ⟨⟩) : wp (finL r s) Q w := by
  cases r with
  | ok a l => exact h
  | err _ _ _ => exact h.elim
  | no => exact h.elim
theorem wp_mono {r : Res α} {Q Q' : α → Sto → Prop} {w : Wit Q} {w' : Wit Q'} (h : wp r Q w) (i : ∀ a s, Q a s → Q' a s) : wp r Q' w' := by
  cases r with
  | ok a s => exact i _ _ h
  | err _ _ _ => exact h.elim
  | no => exact h.elim
theorem wp_ex {r : Res α} {Q : α → Sto → Prop} {w : Wit Q} (h : wp r Q w) : ∃ a s, r = .ok a s ∧ Q a s := by
  cases r with
  | ok a s => exact ⟨a, s, rfl, h⟩
  | err _ _ _ => exact h.elim
  | no => exact h.elim
end
/-! ### pools -/
structure PP where
  l : List D
  ok : ∃ a b c : Int, l = [.int a, .int b, .int c] ∧ 0 ≤ a
def pc (p : PP) : Cel := ⟨.lst p.l, true⟩
theorem backM_pc (p : PP) (m : M R) (s : Sto) : backM [0] m (pc p :: s) = finP 0 (m [pc p]) (pc p :: s) := backM_0 _ _ _
/-- a def that draws: its body alone is to be looked at -/
theorem wp_run {n : Nat} {ms : List Bool} {body : Ss} {as : List D} {p : PP} {L : Sto} {Q : R → Sto → Prop} {w : Wit Q} (hm : ms = true :: as.map fun _ => false)
    (h : wp (vSs body (some (.cell 0) :: (as.map fun d => some (.dat d)) ++ List.replicate (n - (as.length + 1)) none) [pc p]) (fun fl l => ∃ d p' l', fl = .rt (.dat d) ∧ l = pc p' :: l' ∧ Q (.dat d) (pc p' :: L)) ⟨⟩) :
    wp (runV (.mk n ms body) (.cell 0 :: as.map .dat) (pc p :: L)) Q w := by
  subst hm
  have hb : ∀ (as : List D) (s : Sto), bindA (as.map fun _ => false) (as.map .dat) s = .ok (as.map fun d => some (.dat d)) s := by
    intro as
    induction as with
    | nil => intro s; rfl
    | cons d as ih =>
      intro s
      rw [List.map_cons, List.map_cons, bindA_dat, bind_ap, ih]
      rfl
  have hl : ∀ (as : List D) (k : Nat), locA (as.map fun _ => false) (as.map fun d => some (.dat d)) k = as.map fun d => some (R.dat d) := by
    intro as
    induction as with
    | nil => intro k; rfl
    | cons d as ih => intro k; show some (R.dat d) :: _ = _; rw [ih]; rfl
  have hc : ∀ (as : List D), celA (as.map fun _ => false) (as.map fun d => some (R.dat d)) = [] := by
    intro as
    induction as with
    | nil => rfl
    | cons d as ih => exact ih
  obtain ⟨fl, l, e, d, p', l', rfl, rfl, hq⟩ := wp_ex h
  rw [runV_mk]
  show wp (((bindA (true :: as.map fun _ => false) (.cell 0 :: as.map .dat)) >>= fun es => backM (celA (true :: as.map fun _ => false) es) (vSs body (locA (true :: as.map fun _ => false) es 0 ++ List.replicate (n - es.length) none) >>= fun f => flowR f) >>= fun r => endFn (List.length (pc p :: L)) r) (pc p :: L)) Q w
  rw [bind_ap, bindA_cell, bind_ap, hb]
  show wp ((backM (celA (true :: as.map fun _ => false) (some (.cell 0) :: as.map fun d => some (.dat d))) (vSs body (locA (true :: as.map fun _ => false) (some (.cell 0) :: as.map fun d => some (.dat d)) 0 ++ List.replicate (n - (some (R.cell 0) :: as.map fun d => some (R.dat d)).length) none) >>= fun f => flowR f) >>= fun r => endFn (List.length (pc p :: L)) r) (pc p :: L)) Q w
  rw [celA_t, hc, locA_t, hl, bind_ap, backM_pc, bind_ap]
  rw [show (some (R.cell 0) :: as.map fun d => some (R.dat d)).length = as.length + 1 by simp]
  rw [e]
  show wp (endFn (List.length (pc p :: L)) (.dat d) (pc p' :: L)) Q w
  rw [endFn_dat1]
  exact hq
/-- a loop that draws -/
theorem forM_pool {α : Type} {f : D → Env → M Flow} {enc : α → D} {xs : List α} {E : Env} {L : Sto} {Q : Flow → Sto → Prop} {w : Wit Q} (p : PP)
    (h : ∀ x ∈ xs, ∀ p, wp (f (enc x) E (pc p :: L)) (fun fl s => (fl = .nx E ∨ fl = .ct E) ∧ ∃ p', s = pc p' :: L) ⟨⟩) (hq : ∀ p, Q (.nx E) (pc p :: L)) : wp (forM f (xs.map enc) E (pc p :: L)) Q w := by
  induction xs generalizing p with
  | nil => exact hq p
  | cons x xs ih =>
    rw [List.map_cons, forM_cons, bind_ap, wp_bnd]
    refine wp_mono (h x (List.mem_cons_self ..) p) fun fl s hh => ?_
    obtain ⟨hf, p', rfl⟩ := hh
    rcases hf with rfl | rfl
    · exact ih p' (fun y hy => h y (List.mem_cons_of_mem _ hy))
    · exact ih p' (fun y hy => h y (List.mem_cons_of_mem _ hy))
/-- a loop that draws and carries a state -/
theorem forM_pst {α σ : Type} {f : D → Env → M Flow} {enc : α → D} {xs : List α} {E : σ → Env} {S : σ → Sto} {I : Nat → σ → Prop} {Q : Flow → Sto → Prop} {w : Wit Q} (p : PP) (t : σ) (h0 : I 0 t)
    (h : ∀ i x t p, xs[i]? = some x → I i t → wp (f (enc x) (E t) (pc p :: S t)) (fun fl s => ∃ t' p', (fl = .nx (E t') ∨ fl = .ct (E t')) ∧ s = pc p' :: S t' ∧ I (i + 1) t') ⟨⟩)
    (hq : ∀ t p, I xs.length t → Q (.nx (E t)) (pc p :: S t)) : wp (forM f (xs.map enc) (E t) (pc p :: S t)) Q w := by
  have key : ∀ (n : Nat) (t : σ) (p : PP), n ≤ xs.length → I n t → wp (forM f ((xs.drop n).map enc) (E t) (pc p :: S t)) Q w := by
    intro n t p hn hi
    induction hk : xs.length - n generalizing n t p with
    | zero =>
      rw [List.drop_eq_nil_of_le (by omega)]
      have : n = xs.length := by omega
      subst this
      exact hq t p hi
    | succ k ih =>
      have hlt : n < xs.length := by omega
      rw [List.drop_eq_getElem_cons hlt, List.map_cons, forM_cons, bind_ap, wp_bnd]
      refine wp_mono (h n _ t p (List.getElem?_eq_getElem hlt) hi) fun fl s hh => ?_
      obtain ⟨t', p', hf, rfl, hi'⟩ := hh
      rcases hf with rfl | rfl
      · exact ih (n + 1) t' p' (by omega) hi' (by omega)
      · exact ih (n + 1) t' p' (by omega) hi' (by omega)
  have := key 0 t p (Nat.zero_le _) h0
  rw [List.drop_zero] at this
  exact this
/-- a comprehension that draws -/
theorem compM_pool {α β : Type} {f : D → M (Option D)} {enc : α → D} {dec : β → D} {xs : List α} {L : Sto} {P : β → Prop} {Q : List D → Sto → Prop} {w : Wit Q} (p : PP)
    (h : ∀ x ∈ xs, ∀ p, wp (f (enc x) (pc p :: L)) (fun o s => (∃ p', s = pc p' :: L) ∧ ∃ y, o = some (dec y) ∧ P y) ⟨⟩) (hq : ∀ (ys : List β) (p : PP), ys.length = xs.length → (∀ y ∈ ys, P y) → Q (ys.map dec) (pc p :: L)) : wp (compM f (xs.map enc) (pc p :: L)) Q w := by
  have key : ∀ (xs : List α) (p : PP), (∀ x ∈ xs, ∀ p, wp (f (enc x) (pc p :: L)) (fun o s => (∃ p', s = pc p' :: L) ∧ ∃ y, o = some (dec y) ∧ P y) ⟨⟩) →
      ∃ (ys : List β) (p' : PP), compM f (xs.map enc) (pc p :: L) = .ok (ys.map dec) (pc p' :: L) ∧ ys.length = xs.length ∧ ∀ y ∈ ys, P y := by
    intro xs
    induction xs with
    | nil => intro p _; exact ⟨[], p, rfl, rfl, by simp⟩
    | cons x xs ih =>
      intro p h
      obtain ⟨o, s, e, ⟨p', rfl⟩, y, rfl, hy⟩ := wp_ex (h x (List.mem_cons_self ..) p)
      obtain ⟨ys, p2, e2, hl, hys⟩ := ih p' fun z hz => h z (List.mem_cons_of_mem _ hz)
      refine ⟨y :: ys, p2, ?_, by simp [hl], fun z hz => ?_⟩
      · rw [List.map_cons, compM_cons, bind_ap, e]
        show bnd (compM f (xs.map enc) (pc p' :: L)) (fun ys s => .ok (dec y :: ys) s) ⟨⟩ = _
        rw [e2]
        rfl
      · rcases List.mem_cons.mp hz with rfl | hz
        · exact hy
        · exact hys z hz
  obtain ⟨ys, p', e, hl, hys⟩ := key xs p h
  rw [e]
  exact hq ys p' hl hys
/-- .. and leaves some out -/
theorem compM_poolF {α : Type} {f : D → M (Option D)} {enc : α → D} {xs : List α} {L : Sto} {Q : List D → Sto → Prop} {w : Wit Q} (p : PP)
    (h : ∀ x ∈ xs, ∀ p, wp (f (enc x) (pc p :: L)) (fun o s => (∃ p', s = pc p' :: L) ∧ (o = some (enc x) ∨ o = none)) ⟨⟩) (hq : ∀ (ys : List α) (p : PP), List.Sublist ys xs → Q (ys.map enc) (pc p :: L)) : wp (compM f (xs.map enc) (pc p :: L)) Q w := by
  have key : ∀ (xs : List α) (p : PP), (∀ x ∈ xs, ∀ p, wp (f (enc x) (pc p :: L)) (fun o s => (∃ p', s = pc p' :: L) ∧ (o = some (enc x) ∨ o = none)) ⟨⟩) →
      ∃ (ys : List α) (p' : PP), compM f (xs.map enc) (pc p :: L) = .ok (ys.map enc) (pc p' :: L) ∧ List.Sublist ys xs := by
    intro xs
    induction xs with
    | nil => intro p _; exact ⟨[], p, rfl, .slnil⟩
    | cons x xs ih =>
      intro p h
      obtain ⟨o, s, e, ⟨p', rfl⟩, ho⟩ := wp_ex (h x (List.mem_cons_self ..) p)
      obtain ⟨ys, p2, e2, hl⟩ := ih p' fun z hz => h z (List.mem_cons_of_mem _ hz)
      rcases ho with rfl | rfl
      · refine ⟨x :: ys, p2, ?_, hl.cons_cons x⟩
        rw [List.map_cons, compM_cons, bind_ap, e]
        show bnd (compM f (xs.map enc) (pc p' :: L)) (fun ys s => .ok (enc x :: ys) s) ⟨⟩ = _
        rw [e2]
        rfl
      · refine ⟨ys, p2, ?_, hl.cons x⟩
        rw [List.map_cons, compM_cons, bind_ap, e]
        exact e2
  obtain ⟨ys, p', e, hl⟩ := key xs p h
  rw [e]
  exact hq ys p' hl
/-- a loop without a store, that carries a state -/
theorem forM_fold {α σ : Type} {f : D → Env → M Flow} {enc : α → D} {E : σ → Env} {S : σ → Sto} {step : σ → α → σ} : ∀ {xs : List α} {t : σ} (_ : ∀ t, ∀ x ∈ xs, f (enc x) (E t) (S t) = .ok (.nx (E (step t x))) (S (step t x))),
    forM f (xs.map enc) (E t) (S t) = .ok (.nx (E (xs.foldl step t))) (S (xs.foldl step t))
  | [], t, _ => rfl
  | x :: xs, t, h => by
    rw [List.map_cons, forM_cons, bind_ap, h t x (List.mem_cons_self ..)]
    show forM f (xs.map enc) (E (step t x)) (S (step t x)) = _
    exact forM_fold fun t y hy => h t y (List.mem_cons_of_mem _ hy)
/-- .. with what holds on the way -/
theorem forM_inv {α σ : Type} {f : D → Env → M Flow} {enc : α → D} {E : σ → Env} {S : σ → Sto} {I : List α → σ → Prop} (t : σ) : ∀ (xs pre : List α) (_ : I pre t) (_ : ∀ pre x t post, pre ++ x :: post = pre ++ x :: post → I pre t → x ∈ xs → ∃ t', f (enc x) (E t) (S t) = .ok (.nx (E t')) (S t') ∧ I (pre ++ [x]) t'),
    ∃ t', forM f (xs.map enc) (E t) (S t) = .ok (.nx (E t')) (S t') ∧ I (pre ++ xs) t'
  | [], pre, hi, _ => ⟨t, rfl, by rw [List.append_nil]; exact hi⟩
  | x :: xs, pre, hi, h => by
    obtain ⟨t1, e1, hi1⟩ := h pre x t xs rfl hi (List.mem_cons_self ..)
    obtain ⟨t2, e2, hi2⟩ := forM_inv t1 xs (pre ++ [x]) hi1 fun pre y t post e hi hy => h pre y t post e hi (List.mem_cons_of_mem _ hy)
    refine ⟨t2, ?_, by rw [List.append_assoc] at hi2; exact hi2⟩
    rw [List.map_cons, forM_cons, bind_ap, e1]
    exact e2
def PoolL (l : List D) : Prop := ∃ a b c : Int, l = [.int a, .int b, .int c] ∧ 0 ≤ a
/-- a law's own part, with its pool -/
theorem run_own {n : Nat} {body : Ss} {d : D} {l : List D} (hl : PoolL l) (h : ∀ p : PP, wp (vSs body (some (.cell 0) :: List.replicate (n - 1) none) [pc p]) (fun fl _ => fl = .rt (.dat d)) ⟨⟩) (s : Sto) : runV (.mk n [true] body) [.own (.lst l)] s = .ok (.dat d) s := by
  obtain ⟨fl, s', e, rfl⟩ := wp_ex (h ⟨l, hl⟩)
  rw [runV_mk]
  show (((bindA [true] [.own (.lst l)]) >>= fun es => backM (celA [true] es) (vSs body (locA [true] es 0 ++ List.replicate (n - es.length) none) >>= fun f => flowR f) >>= fun r => endFn s.length r) s) = _
  rw [bind_ap, bindA_own]
  show ((backM [s.length] (vSs body (some (.cell 0) :: List.replicate (n - 1) none) >>= fun f => flowR f) >>= fun r => endFn s.length r) (s ++ [Cel.mk (.lst l) true])) = _
  rw [bind_ap, backM_one (d := .lst l) (by rw [List.getElem?_append_right (Nat.le_refl _), Nat.sub_self]; rfl), bind_ap]
  rw [show ([Cel.mk (.lst l) true] : Sto) = [pc ⟨l, hl⟩] from rfl, e]
  show bnd (finP s.length (.ok (.dat d) s') (s ++ [Cel.mk (.lst l) true])) (fun r s' => endFn s.length r s') ⟨⟩ = _
  have h2 : finP s.length (.ok (.dat d) s') (s ++ [Cel.mk (.lst l) true]) = .ok (.dat d) (putAll [s.length] s' (s ++ [Cel.mk (.lst l) true])) := rfl
  rw [h2]
  show Res.ok (R.dat d) ((putAll [s.length] s' (s ++ [Cel.mk (.lst l) true])).take s.length) = _
  congr 1
  cases s' with
  | nil => show (s ++ [Cel.mk (.lst l) true]).take s.length = s; rw [List.take_left]
  | cons x s' => show ((s ++ [Cel.mk (.lst l) true]).set s.length x).take s.length = s; rw [List.set_append_right _ _ (Nat.le_refl _), List.take_left]
theorem at_scr {ns : List Int} {i : Int} (h0 : 0 ≤ i) (h1 : i < ns.length) : at? (ns.map D.int) i = some (.int (nth ns i)) := at_map D.int h0 h1
/-- a loop over a store that stays -/
theorem forM_env {α σ : Type} {f : D → Env → M Flow} {enc : α → D} (E : σ → Env) {S : Sto} {xs : List α} {Q : Flow → Sto → Prop} {w : Wit Q} (t : σ)
    (h : ∀ x ∈ xs, ∀ t, wp (f (enc x) (E t) S) (fun fl s => ∃ t', fl = .nx (E t') ∧ s = S) ⟨⟩) (hq : ∀ t, Q (.nx (E t)) S) : wp (forM f (xs.map enc) (E t) S) Q w := by
  induction xs generalizing t with
  | nil => exact hq t
  | cons x xs ih =>
    rw [List.map_cons, forM_cons, bind_ap, wp_bnd]
    refine wp_mono (h x (List.mem_cons_self ..) t) fun fl s hh => ?_
    obtain ⟨t', rfl, rfl⟩ := hh
    exact ih t' fun y hy => h y (List.mem_cons_of_mem _ hy)
theorem run_dat0 {n : Nat} {ms : List Bool} {body : Ss} {as : List D} {P : R → Prop} (hm : ms = as.map fun _ => false)
    (h : wp (vSs body ((as.map fun d => some (.dat d)) ++ List.replicate (n - as.length) none) []) (fun fl _ => (∃ d, fl = .rt (.dat d) ∧ P (.dat d)) ∨ ∃ d, fl = .rt (.own d) ∧ P (.own d)) ⟨⟩) :
    ∃ r, P r ∧ ∀ s, runV (.mk n ms body) (as.map .dat) s = .ok r s := by
  subst hm
  have hb : ∀ (as : List D) (s : Sto), bindA (as.map fun _ => false) (as.map .dat) s = .ok (as.map fun d => some (.dat d)) s := by
    intro as
    induction as with
    | nil => intro s; rfl
    | cons d as ih =>
      intro s
      rw [List.map_cons, List.map_cons, bindA_dat, bind_ap, ih]
      rfl
  have hl : ∀ (as : List D) (k : Nat), locA (as.map fun _ => false) (as.map fun d => some (.dat d)) k = as.map fun d => some (R.dat d) := by
    intro as
    induction as with
    | nil => intro k; rfl
    | cons d as ih => intro k; show some (R.dat d) :: _ = _; rw [ih]; rfl
  have hc : ∀ (as : List D), celA (as.map fun _ => false) (as.map fun d => some (R.dat d)) = [] := by
    intro as
    induction as with
    | nil => rfl
    | cons d as ih => exact ih
  obtain ⟨fl, l, e, hp⟩ := wp_ex h
  have run : ∀ s, runV (.mk n (as.map fun _ => false) body) (as.map .dat) s = bnd (finL (bnd (.ok fl l) (fun f s => flowR f s) ⟨⟩) s) (fun r s' => endFn s.length r s') ⟨⟩ := by
    intro s
    rw [runV_mk]
    show ((bindA (as.map fun _ => false) (as.map .dat) >>= fun es => backM (celA (as.map fun _ => false) es) (vSs body (locA (as.map fun _ => false) es 0 ++ List.replicate (n - es.length) none) >>= fun f => flowR f) >>= fun r => endFn s.length r) s) = _
    rw [bind_ap, hb]
    show ((backM (celA (as.map fun _ => false) (as.map fun d => some (.dat d))) (vSs body (locA (as.map fun _ => false) (as.map fun d => some (.dat d)) 0 ++ List.replicate (n - (as.map fun d => some (R.dat d)).length) none) >>= fun f => flowR f) >>= fun r => endFn s.length r) s) = _
    rw [hc, hl, bind_ap, backM_nil, bind_ap, List.length_map, e]
  rcases hp with ⟨d, rfl, hp⟩ | ⟨d, rfl, hp⟩
  · exact ⟨_, hp, fun s => by rw [run]; exact endFn_dat d s⟩
  · exact ⟨_, hp, fun s => by rw [run]; exact endFn_own d s⟩
theorem forM_env2 {α κ σ : Type} {f : D → Env → M Flow} {enc : α → D} (E : κ → σ → Env) {S : Sto} {xs : List α} {Q : Flow → Sto → Prop} {w : Wit Q} (c : κ) (t : σ)
    (h : ∀ x ∈ xs, ∀ t, wp (f (enc x) (E c t) S) (fun fl s => ∃ t', fl = .nx (E c t') ∧ s = S) ⟨⟩) (hq : ∀ t, Q (.nx (E c t)) S) : wp (forM f (xs.map enc) (E c t) S) Q w := forM_env (E c) t h hq
end DB
set_option maxHeartbeats 4000000
namespace DB
open PySem
theorem abs4000 {a : Int} (h : 0 ≤ a) (h2 : a < 10 ^ 60) : a.natAbs < 2 ^ 4000 := by
  have : a.natAbs < 10 ^ 60 := by omega
  exact Nat.lt_of_lt_of_le this (by
    calc 10 ^ 60 ≤ 16 ^ 60 := Nat.pow_le_pow_left (by decide) 60
      _ = 2 ^ 240 := by rw [show (16 : Nat) = 2 ^ 4 from rfl, ← Nat.pow_mul]
      _ ≤ 2 ^ 4000 := Nat.pow_le_pow_right (by decide) (by decide))
/-! ### lots and tables -/
structure Lot (b : Int) (l : List Int) : Prop where
  up : l.Pairwise (· < ·)
  rng : ∀ x ∈ l, 0 ≤ x ∧ x < b
structure Tb (mb mg : Int) (b : Int) (ls : List (List Int)) : Prop where
  lo : 1 ≤ b
  hi : b ≤ mb
  two : 2 ≤ ls.length
  most : (ls.length : Int) ≤ mg
  nd : ls.Nodup
  lot : ∀ l ∈ ls, Lot b l
abbrev tabD (b : Int) (ls : List (List Int)) : D := .tup [.int b, .tup (ls.map lotD)]
abbrev dspD (b : Int) (ls : List (List Int)) (p : Int) : D := .tup [.tup [.int b, .tup (ls.map lotD)], .int p]
theorem Lot.sub {b : Int} {l m : List Int} (h : Lot b l) (s : m.Sublist l) : Lot b m := ⟨h.up.sublist s, fun x hx => h.rng x (s.subset hx)⟩
theorem Lot.ir (b : Int) : Lot b (ir 0 b) := ⟨ir_up 0 b, fun x hx => mem_ir.mp hx⟩
theorem Lot.filter {b : Int} {l : List Int} (h : Lot b l) (p : Int → Bool) : Lot b (l.filter p) := h.sub List.filter_sublist
theorem up_len : ∀ {l : List Int} {a b : Int}, a ≤ b → l.Pairwise (· < ·) → (∀ x ∈ l, a ≤ x ∧ x < b) → (l.length : Int) ≤ b - a
  | [], a, b, h, _, _ => by simp only [List.length_nil]; omega
  | x :: l, a, b, h, hp, hr => by
    have h1 := hr x (List.mem_cons_self ..)
    have hp' := List.pairwise_cons.mp hp
    have := up_len (l := l) (a := x + 1) (b := b) (by omega) hp'.2 fun y hy => by
      have h2 := hr y (List.mem_cons_of_mem _ hy)
      have h3 := hp'.1 y hy
      omega
    simp only [List.length_cons]
    omega
theorem Lot.len {b : Int} {l : List Int} (hb : 0 ≤ b) (h : Lot b l) : (l.length : Int) ≤ b := by
  have := up_len hb h.up h.rng
  omega
theorem zip_drop1 {α : Type} (P : α → α → Prop) [∀ a b, Decidable (P a b)] : ∀ l : List α, (l.zip (l.drop 1)).all (fun p => decide (P p.1 p.2)) = true ↔ ∀ i a b, l[i]? = some a → l[i + 1]? = some b → P a b
  | [] => by simp
  | [a] => by simp
  | a :: b :: l => by
    have ih := zip_drop1 P (b :: l)
    have e : ((a :: b :: l).zip ((a :: b :: l).drop 1)).all (fun p => decide (P p.1 p.2)) = (decide (P a b) && ((b :: l).zip ((b :: l).drop 1)).all (fun p => decide (P p.1 p.2))) := rfl
    rw [e, Bool.and_eq_true, ih, decide_eq_true_eq]
    constructor
    · intro ⟨h1, h2⟩ i x y hx hy
      cases i with
      | zero => simp at hx hy; subst hx; subst hy; exact h1
      | succ i => exact h2 i x y (by simpa using hx) (by simpa using hy)
    · intro h
      exact ⟨h 0 a b rfl rfl, fun i x y hx hy => h (i + 1) x y (by simpa using hx) (by simpa using hy)⟩
/-- rising: each less than the next one -/
def rise (l : List Int) : Bool := (l.zip (l.drop 1)).all fun p => decide (p.1 < p.2)
theorem rise_iff : ∀ {l : List Int}, rise l = true ↔ l.Pairwise (· < ·)
  | [] => by simp [rise]
  | [a] => by simp [rise]
  | a :: b :: l => by
    have ih := rise_iff (l := b :: l)
    have e : rise (a :: b :: l) = (decide (a < b) && rise (b :: l)) := rfl
    rw [e, Bool.and_eq_true, ih, decide_eq_true_eq]
    rw [show (a :: b :: l).Pairwise (· < ·) ↔ (∀ x ∈ b :: l, a < x) ∧ (b :: l).Pairwise (· < ·) from List.pairwise_cons]
    constructor
    · intro ⟨h1, h2⟩
      refine ⟨fun x hx => ?_, h2⟩
      rcases List.mem_cons.mp hx with rfl | hx
      · exact h1
      · have := (List.pairwise_cons.mp h2).1 x hx
        omega
    · intro ⟨h1, h2⟩
      exact ⟨h1 b (List.mem_cons_self ..), h2⟩
/-- what the program looks at in a lot -/
def lotB (b : Int) (l : List Int) : Bool := decide ((l.length : Int) ≤ b) && (l.all (fun x => decide (0 ≤ x) && decide (x ≤ b - 1)) && rise l)
theorem lotB_iff {b : Int} {l : List Int} (hb : 0 ≤ b) : lotB b l = true ↔ Lot b l := by
  unfold lotB
  rw [Bool.and_eq_true, Bool.and_eq_true, rise_iff, List.all_eq_true, decide_eq_true_eq]
  constructor
  · intro ⟨_, h2, h3⟩
    refine ⟨h3, fun x hx => ?_⟩
    have := h2 x hx
    simp only [Bool.and_eq_true, decide_eq_true_eq] at this
    omega
  · intro h
    refine ⟨h.len hb, fun x hx => ?_, h.up⟩
    have := h.rng x hx
    simp only [Bool.and_eq_true, decide_eq_true_eq]
    omega
/-- no two are equal -/
theorem enI_cut {α : Type} [DecidableEq α] (l : List α) : (enI l).all (fun x => !decide (x.2 ∈ cutA l none (some x.1))) = true ↔ l.Nodup := by
  have key : ∀ (l pre : List α), ((ir (pre.length : Int) ((pre.length : Int) + (l.length : Int))).zip l).all (fun x => !decide (x.2 ∈ cutA (pre ++ l) none (some x.1))) = true ↔ (l.Nodup ∧ ∀ a ∈ l, a ∉ pre) := by
    intro l
    induction l with
    | nil => intro pre; simp
    | cons a l ih =>
      intro pre
      have h1 := ih (pre ++ [a])
      rw [List.append_assoc, List.length_append] at h1
      rw [ir_cons (by simp only [List.length_cons]; omega), List.zip_cons_cons, List.all_cons, Bool.and_eq_true]
      have e1 : ((pre.length + [a].length : Nat) : Int) = (pre.length : Int) + 1 := by simp
      rw [e1] at h1
      have e2 : (pre.length : Int) + 1 + (l.length : Int) = (pre.length : Int) + ((a :: l).length : Int) := by simp only [List.length_cons]; omega
      rw [e2] at h1
      have e3 : pre ++ ([a] ++ l) = pre ++ a :: l := rfl
      rw [e3] at h1
      rw [h1, List.nodup_cons]
      have e4 : cutA (pre ++ a :: l) none (some (pre.length : Int)) = pre := by
        rw [cutA_to _ (by omega), Int.toNat_natCast, List.take_left]
      simp only [e4, Bool.not_eq_true', decide_eq_false_iff_not, List.mem_append, List.mem_singleton, List.mem_cons]
      constructor
      · intro ⟨h2, h3, h4⟩
        exact ⟨⟨fun h => h4 a h (.inr (by simp)), h3⟩, fun b hb => by
          rcases hb with rfl | hb
          · exact h2
          · exact fun z => h4 b hb (.inl z)⟩
      · intro ⟨⟨h2, h3⟩, h4⟩
        exact ⟨h4 a (.inl rfl), h3, fun b hb z => by
          rcases z with z | z
          · exact h4 b (.inr hb) z
          · exact h2 (by simpa using (show b = a by simpa using z) ▸ hb)⟩
  have := key l []
  simpa [enI] using this
/-! ### powers -/
def powI (n p : Int) : Int := n ^ p.toNat
theorem powI_pos {n p : Int} (h : 0 < n) : 0 < powI n p := Int.pow_pos h
theorem foldl_pow (n : Int) : ∀ (l : List Int) (x : Int), l.foldl (fun t _ => t * n) x = x * n ^ l.length
  | [], x => by simp
  | a :: l, x => by
    rw [List.foldl_cons, foldl_pow n l, List.length_cons, Int.pow_succ, Int.mul_assoc, Int.mul_comm n]
theorem perm_map {α β : Type} {f : α → β} {l : List β} {m : List α} (h : l.Perm (m.map f)) : ∃ m' : List α, l = m'.map f ∧ m'.Perm m := by
  generalize hk : m.map f = k at h
  induction h generalizing m with
  | nil =>
    cases m with
    | nil => exact ⟨[], rfl, .nil⟩
    | cons _ _ => cases hk
  | cons x h ih =>
    cases m with
    | nil => cases hk
    | cons a m =>
      cases hk
      obtain ⟨m', rfl, hp⟩ := ih rfl
      exact ⟨a :: m', rfl, hp.cons a⟩
  | swap x y l =>
    match m, hk with
    | a :: b :: m, hk =>
      cases hk
      exact ⟨b :: a :: m, rfl, .swap a b m⟩
  | trans h1 h2 ih1 ih2 =>
    obtain ⟨m1, e1, p1⟩ := ih2 hk
    obtain ⟨m2, e2, p2⟩ := ih1 e1.symm
    exact ⟨m2, e2, p2.trans p1⟩
theorem erase_perm {α : Type} : ∀ {l : List α} {k : Nat} {a : α}, l[k]? = some a → (a :: l.eraseIdx k).Perm l
  | [], k, a, h => by simp at h
  | b :: l, 0, a, h => by simp at h; subst h; exact List.Perm.refl _
  | b :: l, k + 1, a, h => by
    have h : l[k]? = some a := by simpa using h
    exact (List.Perm.swap b a _).trans ((erase_perm h).cons b)
theorem ixN_nat {n : Nat} {f : Int} (h0 : 0 ≤ f) (h1 : f < n) : L2.ixN n f = some f.toNat := by
  unfold L2.ixN
  rw [if_pos h0, if_pos h1]
theorem eraseIdx_map {α β : Type} (f : α → β) : ∀ (l : List α) (k : Nat), (l.map f).eraseIdx k = (l.eraseIdx k).map f
  | [], k => by simp
  | a :: l, 0 => rfl
  | a :: l, k + 1 => by
    show f a :: (l.map f).eraseIdx k = f a :: (l.eraseIdx k).map f
    rw [eraseIdx_map f l k]
/-- a lot more, if there are too few -/
def addL (ls : List (List Int)) (l : List Int) : List (List Int) := if ¬ l ∈ ls ∧ (ls.length : Int) < 2 then ls ++ [l] else ls
theorem addL_ok {b : Int} {ls : List (List Int)} {l : List Int} (hn : ls.Nodup) (hl : ∀ m ∈ ls, Lot b m) (h1 : Lot b l) : (addL ls l).Nodup ∧ ∀ m ∈ addL ls l, Lot b m := by
  unfold addL
  split
  · rename_i hm
    refine ⟨List.nodup_append.mpr ⟨hn, by simp, fun a ha c hc e => hm.1 (by rw [List.mem_singleton.mp hc] at e; exact e ▸ ha)⟩, fun m hx => ?_⟩
    rcases List.mem_append.mp hx with hx | hx
    · exact hl m hx
    · rw [List.mem_singleton.mp hx]; exact h1
  · exact ⟨hn, hl⟩
theorem addL_two (ls : List (List Int)) : 2 ≤ (addL (addL ls [0]) []).length ∧ (addL (addL ls [0]) []).length ≤ max ls.length 2 := by
  match ls with
  | [] => decide
  | [a] =>
    by_cases h : a = [0]
    · subst h; decide
    · have h' : ¬ [0] ∈ [a] := by simpa using fun z : [0] = a => h z.symm
      have e : addL [a] [0] = [a, [0]] := by unfold addL; rw [if_pos ⟨h', by simp⟩]; rfl
      rw [e]
      unfold addL
      rw [if_neg (fun z => by have := z.2; simp at this)]
      simp
  | a :: b :: ls =>
    have e : ∀ l, addL (a :: b :: ls) l = a :: b :: ls := fun l => by
      unfold addL
      rw [if_neg (fun z => by have := z.2; simp at this; omega)]
    rw [e, e]
    simp
/-- a lot more, if it is new -/
def addN (ls : List (List Int)) (l : List Int) : List (List Int) := if ¬ l ∈ ls then ls ++ [l] else ls
theorem addN_ok {b : Int} {ls : List (List Int)} {l : List Int} (hn : ls.Nodup) (hl : ∀ m ∈ ls, Lot b m) (h1 : Lot b l) : (addN ls l).Nodup ∧ (∀ m ∈ addN ls l, Lot b m) ∧ (addN ls l).length ≤ ls.length + 1 := by
  unfold addN
  split
  · rename_i hm
    refine ⟨List.nodup_append.mpr ⟨hn, by simp, fun a ha c hc e => hm (by rw [List.mem_singleton.mp hc] at e; exact e ▸ ha)⟩, fun m hx => ?_, by simp⟩
    rcases List.mem_append.mp hx with hx | hx
    · exact hl m hx
    · rw [List.mem_singleton.mp hx]; exact h1
  · exact ⟨hn, hl, by omega⟩
theorem enI_cutL (ls : List (List Int)) : (enI ls).all (fun x => !decide (x.2 ∈ cutA ls none (some x.1))) = true ↔ ls.Nodup := by
  rw [← enI_cut]
  constructor <;> intro h <;> simpa using h
/-! ### remainders -/
theorem mod_zero {s R : Int} (h0 : 0 ≤ s) (h1 : s < R) : (s + 0) % R = s := by rw [Int.add_zero, Int.emod_eq_of_lt h0 h1]
theorem mod_round (s t R : Int) : (s + (t + R)) % R = (s + t) % R := by rw [← Int.add_assoc, Int.add_emod_right]
theorem mod_more (x m R : Int) : (x % R + m) % R = (x + m) % R := Int.emod_add_emod x R m
theorem mod_next {x R : Int} (h : 0 < R) : (x + 1) % R = if x % R < R - 1 then x % R + 1 else 0 := by
  rw [← mod_more]
  have h1 := Int.emod_nonneg x (show R ≠ 0 by omega)
  have h2 := Int.emod_lt_of_pos x h
  split
  · rw [Int.emod_eq_of_lt (by omega) (by omega)]
  · rw [show x % R + 1 = R by omega, Int.emod_self]
theorem ir_append {a b c : Int} (h1 : a ≤ b) (h2 : b ≤ c) : ir a b ++ ir b c = ir a c := by
  obtain ⟨n, rfl⟩ : ∃ n : Nat, c = b + n := ⟨(c - b).toNat, by omega⟩
  clear h2
  induction n with
  | zero => rw [ir_nil (show b + ((0 : Nat) : Int) ≤ b by omega), List.append_nil]; simp
  | succ n ih =>
    have e : b + ((n + 1 : Nat) : Int) = b + (n : Int) + 1 := by omega
    rw [e, ir_snoc (show b ≤ b + (n : Int) by omega), ir_snoc (show a ≤ b + (n : Int) by omega), ← List.append_assoc, ih]
theorem ir_shift (a b k : Int) : (ir a b).map (fun x => k + x) = ir (k + a) (k + b) := by
  unfold ir
  rw [List.map_map, show k + b - (k + a) = b - a by omega]
  apply List.map_congr_left
  intro i _
  simp only [Function.comp]
  omega
theorem sorted_uniq : ∀ {l m : List Int}, l.Perm m → l.Pairwise (· ≤ ·) → m.Pairwise (· ≤ ·) → l = m
  | [], m, h, _, _ => by rw [List.nil_perm.mp h]
  | a :: l, [], h, _, _ => by cases h.length_eq
  | a :: l, b :: m, h, h1, h2 => by
    have p1 := List.pairwise_cons.mp h1
    have p2 := List.pairwise_cons.mp h2
    have e : a = b := by
      have ha : a ∈ b :: m := h.mem_iff.mp (List.mem_cons_self ..)
      have hb : b ∈ a :: l := h.mem_iff.mpr (List.mem_cons_self ..)
      rcases List.mem_cons.mp ha with rfl | ha
      · rfl
      · rcases List.mem_cons.mp hb with rfl | hb
        · rfl
        · have := p1.1 b hb
          have := p2.1 a ha
          omega
    subst e
    rw [sorted_uniq h.cons_inv p1.2 p2.2]
theorem insI_perm' (x : Int) : ∀ l : List Int, (insI x l).Perm (x :: l)
  | [] => List.Perm.refl _
  | y :: ys => by
    unfold insI
    split
    · exact List.Perm.refl _
    · exact ((insI_perm' x ys).cons y).trans (List.Perm.swap x y ys)
theorem isort_perm' : ∀ l : List Int, (isort l).Perm l
  | [] => List.Perm.refl _
  | x :: xs => (insI_perm' x _).trans ((isort_perm' xs).cons x)
theorem insI_sorted' (x : Int) : ∀ {l : List Int}, l.Pairwise (· ≤ ·) → (insI x l).Pairwise (· ≤ ·)
  | [], _ => by simp [insI]
  | y :: ys, h => by
    have hp := List.pairwise_cons.mp h
    unfold insI
    split
    · rename_i hxy
      exact List.pairwise_cons.mpr ⟨fun z hz => by
        rcases List.mem_cons.mp hz with rfl | hz
        · exact hxy
        · have := hp.1 z hz; omega, h⟩
    · rename_i hxy
      refine List.pairwise_cons.mpr ⟨fun z hz => ?_, insI_sorted' x hp.2⟩
      rcases List.mem_cons.mp ((insI_perm' x ys).mem_iff.mp hz) with rfl | hz
      · omega
      · exact hp.1 z hz
theorem isort_sorted' : ∀ l : List Int, (isort l).Pairwise (· ≤ ·)
  | [] => .nil
  | x :: xs => insI_sorted' x (isort_sorted' xs)
/-- what is sorted is told by what is in it -/
theorem isort_eq {l m : List Int} (h : l.Perm m) (hm : m.Pairwise (· ≤ ·)) : isort l = m := sorted_uniq ((isort_perm' l).trans h) (isort_sorted' l) hm
theorem up_le {l : List Int} (h : l.Pairwise (· < ·)) : l.Pairwise (· ≤ ·) := h.imp fun h => by omega
theorem rot_sorted {R c : Int} (h : 0 < R) : isort ((ir 0 R).map fun x => (c + x) % R) = ir 0 R := by
  refine isort_eq ?_ (up_le (ir_up 0 R))
  have h1 := Int.emod_nonneg c (show R ≠ 0 by omega)
  have h2 := Int.emod_lt_of_pos c h
  have e : (ir 0 R).map (fun x => (c + x) % R) = ir (c % R) R ++ ir 0 (c % R) := by
    rw [← ir_append (show (0 : Int) ≤ R - c % R by omega) (show R - c % R ≤ R by omega), List.map_append]
    congr 1
    · rw [show ir (c % R) R = (ir 0 (R - c % R)).map (fun x => c % R + x) by rw [ir_shift]; congr 1 <;> omega]
      apply List.map_congr_left
      intro x hx
      have := mem_ir.mp hx
      rw [← mod_more, Int.emod_eq_of_lt (by omega) (by omega)]
    · rw [show ir 0 (c % R) = (ir (R - c % R) R).map (fun x => (c % R - R) + x) by rw [ir_shift]; congr 1 <;> omega]
      apply List.map_congr_left
      intro x hx
      have := mem_ir.mp hx
      rw [← mod_more, show c % R + x = (c % R - R + x) + R by omega, Int.add_emod_right, Int.emod_eq_of_lt (by omega) (by omega)]
  rw [e]
  have := List.perm_append_comm (l₁ := ir (c % R) R) (l₂ := ir 0 (c % R))
  rw [ir_append (by omega) (by omega)] at this
  exact this
end DB
set_option maxHeartbeats 1000000
namespace DB
open PySem
theorem intsOf_app (l m : List Int) : intsOf (l.map D.int ++ m.map D.int) = some (l ++ m) := by rw [← List.map_append, intsOf_map]
/-- a loop over 0 .. n - 1 whose state behind k turns is known -/
theorem forM_ir {σ : Type} {f : D → Env → M Flow} {E : σ → Env} {S : σ → Sto} (g : Nat → σ) (n : Nat) (h : ∀ i : Nat, i < n → f (.int i) (E (g i)) (S (g i)) = .ok (.nx (E (g (i + 1)))) (S (g (i + 1)))) :
    forM f ((ir 0 n).map D.int) (E (g 0)) (S (g 0)) = .ok (.nx (E (g n))) (S (g n)) := by
  have key : ∀ (m k : Nat), k + m = n → forM f ((ir k n).map D.int) (E (g k)) (S (g k)) = .ok (.nx (E (g n))) (S (g n)) := by
    intro m
    induction m with
    | zero =>
      intro k hk
      have e : k = n := by omega
      subst e
      rw [ir_nil (by omega)]
      rfl
    | succ m ih =>
      intro k hk
      rw [ir_cons (by omega), List.map_cons, forM_cons, bind_ap, h k (by omega)]
      have := ih (k + 1) (by omega)
      rw [show ((k + 1 : Nat) : Int) = (k : Int) + 1 from by omega] at this
      exact this
  have := key n 0 (by omega)
  simpa using this
/-! ### lots of bars: without, with all, unlike -/
def woL (l m : List Int) : List Int := l.filter fun x => !decide (x ∈ m)
def waL (l m : List Int) : List Int := isort (l ++ woL m l)
def unL (l m : List Int) : List Int := waL (woL l m) (woL m l)
def dsL (l m : List Int) : Int := ((unL l m).length : Int)
theorem woL_len (l m : List Int) : (woL l m).length ≤ l.length := List.length_filter_le _ _
theorem mem_isort {l : List Int} {x : Int} : x ∈ isort l ↔ x ∈ l := (isort_perm' l).mem_iff
theorem mem_woL {l m : List Int} {x : Int} : x ∈ woL l m ↔ x ∈ l ∧ x ∉ m := by
  unfold woL
  rw [List.mem_filter]
  simp
theorem mem_waL {l m : List Int} {x : Int} : x ∈ waL l m ↔ x ∈ l ∨ x ∈ m := by
  unfold waL
  rw [mem_isort, List.mem_append, mem_woL]
  by_cases h : x ∈ l <;> simp [h]
theorem mem_unL {l m : List Int} {x : Int} : x ∈ unL l m ↔ (x ∈ l ∧ x ∉ m) ∨ (x ∈ m ∧ x ∉ l) := by
  unfold unL
  rw [mem_waL, mem_woL, mem_woL]
theorem Lot.nd {b : Int} {l : List Int} (h : Lot b l) : l.Nodup := h.up.imp fun h => by omega
theorem woL_lot {b : Int} {l m : List Int} (h : Lot b l) : Lot b (woL l m) := h.filter _
theorem up_of {l : List Int} (h : l.Pairwise (· ≤ ·)) (d : l.Nodup) : l.Pairwise (· < ·) := by
  induction l with
  | nil => exact .nil
  | cons x l ih =>
    obtain ⟨h1, h2⟩ := List.pairwise_cons.mp h
    obtain ⟨d1, d2⟩ := List.nodup_cons.mp d
    refine List.pairwise_cons.mpr ⟨fun y hy => ?_, ih h2 d2⟩
    have := h1 y hy
    have : x ≠ y := fun e => d1 (e ▸ hy)
    omega
theorem isort_lot {b : Int} {l : List Int} (d : l.Nodup) (h : ∀ x ∈ l, 0 ≤ x ∧ x < b) : Lot b (isort l) :=
  ⟨up_of (isort_sorted' l) ((isort_perm' l).nodup_iff.mpr d), fun x hx => h x (mem_isort.mp hx)⟩
theorem waL_nd {l m : List Int} (h1 : l.Nodup) (h2 : m.Nodup) : (l ++ woL m l).Nodup := by
  rw [List.nodup_append]
  refine ⟨h1, h2.filter _, fun a ha c hc e => ?_⟩
  subst e
  exact (mem_woL.mp hc).2 ha
theorem waL_lot {b : Int} {l m : List Int} (h1 : Lot b l) (h2 : Lot b m) : Lot b (waL l m) := by
  refine isort_lot (waL_nd h1.nd h2.nd) fun x hx => ?_
  rcases List.mem_append.mp hx with hx | hx
  · exact h1.rng x hx
  · exact h2.rng x (mem_woL.mp hx).1
theorem unL_lot {b : Int} {l m : List Int} (h1 : Lot b l) (h2 : Lot b m) : Lot b (unL l m) := waL_lot (woL_lot h1) (woL_lot h2)
/-- lots are equal where they have the same bars -/
theorem lot_ext {b c : Int} {l m : List Int} (h1 : Lot b l) (h2 : Lot c m) (h : ∀ x, x ∈ l ↔ x ∈ m) : l = m := by
  refine sorted_uniq ?_ (up_le h1.up) (up_le h2.up)
  exact (List.perm_ext_iff_of_nodup h1.nd h2.nd).mpr h
theorem lot_filter {b : Int} {l : List Int} (h : Lot b l) : l = (ir 0 b).filter fun x => decide (x ∈ l) := by
  refine lot_ext h ((Lot.ir b).filter _) fun x => ?_
  rw [List.mem_filter, mem_ir]
  constructor
  · intro hx
    exact ⟨h.rng x hx, by simp [hx]⟩
  · rintro ⟨_, hx⟩
    simpa using hx
/-- the bars that just one of both has -/
theorem unL_filter {b : Int} {l m : List Int} (h1 : Lot b l) (h2 : Lot b m) : unL l m = (ir 0 b).filter fun x => !decide (decide (x ∈ l) = decide (x ∈ m)) := by
  refine lot_ext (unL_lot h1 h2) ((Lot.ir b).filter _) fun x => ?_
  rw [List.mem_filter, mem_ir, mem_unL]
  constructor
  · rintro (⟨a, c⟩ | ⟨a, c⟩)
    · exact ⟨h1.rng x a, by simp [a, c]⟩
    · exact ⟨h2.rng x a, by simp [a, c]⟩
  · rintro ⟨_, hx⟩
    by_cases a : x ∈ l <;> by_cases c : x ∈ m <;> simp [a, c] at hx ⊢
theorem dsL_nonneg (l m : List Int) : 0 ≤ dsL l m := by unfold dsL; omega
theorem dsL_comm {b : Int} {l m : List Int} (h1 : Lot b l) (h2 : Lot b m) : dsL l m = dsL m l := by
  unfold dsL
  rw [unL_filter h1 h2, unL_filter h2 h1]
  congr 2
  refine List.filter_congr fun x _ => ?_
  by_cases a : x ∈ l <;> by_cases c : x ∈ m <;> simp [a, c]
theorem dsL_zero {b : Int} {l m : List Int} (h1 : Lot b l) (h2 : Lot b m) : dsL l m = 0 ↔ l = m := by
  constructor
  · intro h
    have hn : unL l m = [] := List.eq_nil_of_length_eq_zero (by unfold dsL at h; omega)
    refine lot_ext h1 h2 fun x => ?_
    have hx : ¬ x ∈ unL l m := by rw [hn]; simp
    rw [mem_unL] at hx
    by_cases a : x ∈ l <;> by_cases c : x ∈ m <;> simp [a, c] at hx ⊢
  · rintro rfl
    have hn : unL l l = [] := by
      apply List.eq_nil_iff_forall_not_mem.mpr
      intro x hx
      rw [mem_unL] at hx
      rcases hx with ⟨a, c⟩ | ⟨a, c⟩ <;> exact c a
    unfold dsL
    rw [hn]
    rfl
theorem dsL_le {b : Int} {l m : List Int} (hb : 0 ≤ b) (h1 : Lot b l) (h2 : Lot b m) : dsL l m ≤ b := (unL_lot h1 h2).len hb
/-! ### the least, the greatest -/
def minN (l : List Int) : Int := (minI l).getD 0
def maxN (l : List Int) : Int := (maxI l).getD 0
theorem minI_some : ∀ {l : List Int}, l ≠ [] → minI l = some (minN l)
  | [], h => absurd rfl h
  | x :: l, _ => by
    unfold minN
    cases h : minI (x :: l) with
    | some m => rfl
    | none =>
      unfold minI at h
      split at h <;> cases h
theorem maxI_some : ∀ {l : List Int}, l ≠ [] → maxI l = some (maxN l)
  | [], h => absurd rfl h
  | x :: l, _ => by
    unfold maxN
    cases h : maxI (x :: l) with
    | some m => rfl
    | none =>
      unfold maxI at h
      split at h <;> cases h
theorem minI_spec : ∀ {l : List Int} {m : Int}, minI l = some m → m ∈ l ∧ ∀ x ∈ l, m ≤ x
  | [], _, h => by cases h
  | x :: l, m, h => by
    unfold minI at h
    split at h
    · rename_i q
      cases h
      cases l with
      | nil => simp
      | cons y l => rw [minI_some (by simp)] at q; cases q
    · rename_i k q
      obtain ⟨a, c⟩ := minI_spec q
      cases h
      by_cases hx : x ≤ k
      · rw [if_pos hx]
        exact ⟨List.mem_cons_self, fun z hz => (List.mem_cons.mp hz).elim (fun e => by omega) fun e => by have := c z e; omega⟩
      · rw [if_neg hx]
        exact ⟨List.mem_cons_of_mem _ a, fun z hz => (List.mem_cons.mp hz).elim (fun e => by omega) fun e => c z e⟩
theorem maxI_spec : ∀ {l : List Int} {m : Int}, maxI l = some m → m ∈ l ∧ ∀ x ∈ l, x ≤ m
  | [], _, h => by cases h
  | x :: l, m, h => by
    unfold maxI at h
    split at h
    · rename_i q
      cases h
      cases l with
      | nil => simp
      | cons y l => rw [maxI_some (by simp)] at q; cases q
    · rename_i k q
      obtain ⟨a, c⟩ := maxI_spec q
      cases h
      by_cases hx : k ≤ x
      · rw [if_pos hx]
        exact ⟨List.mem_cons_self, fun z hz => (List.mem_cons.mp hz).elim (fun e => by omega) fun e => by have := c z e; omega⟩
      · rw [if_neg hx]
        exact ⟨List.mem_cons_of_mem _ a, fun z hz => (List.mem_cons.mp hz).elim (fun e => by omega) fun e => c z e⟩
theorem minN_spec {l : List Int} (h : l ≠ []) : minN l ∈ l ∧ ∀ x ∈ l, minN l ≤ x := minI_spec (minI_some h)
theorem maxN_spec {l : List Int} (h : l ≠ []) : maxN l ∈ l ∧ ∀ x ∈ l, x ≤ maxN l := maxI_spec (maxI_some h)
theorem minN_eq {l : List Int} {m : Int} (h : m ∈ l) (h2 : ∀ x ∈ l, m ≤ x) : minN l = m := by
  have a := minN_spec (List.ne_nil_of_mem h)
  have := a.2 m h
  have := h2 _ a.1
  omega
theorem maxN_eq {l : List Int} {m : Int} (h : m ∈ l) (h2 : ∀ x ∈ l, x ≤ m) : maxN l = m := by
  have a := maxN_spec (List.ne_nil_of_mem h)
  have := a.2 m h
  have := h2 _ a.1
  omega
/-! ### all lots -/
def lotsN : Nat → List (List Int)
  | 0 => [[]]
  | n + 1 => lotsN n ++ (lotsN n).map fun l => l ++ [(n : Int)]
theorem lotsN_len : ∀ n, (lotsN n).length = 2 ^ n
  | 0 => rfl
  | n + 1 => by
    show (lotsN n ++ (lotsN n).map fun l => l ++ [(n : Int)]).length = _
    rw [List.length_append, List.length_map, lotsN_len n, Nat.pow_succ]
    omega
theorem lot_app {n : Nat} {l : List Int} (h : Lot n l) : Lot ((n + 1 : Nat) : Int) (l ++ [(n : Int)]) := by
  refine ⟨List.pairwise_append.mpr ⟨h.up, List.pairwise_singleton _ _, fun a ha c hc => ?_⟩, fun x hx => ?_⟩
  · rw [List.mem_singleton.mp hc]
    exact (h.rng a ha).2
  · rcases List.mem_append.mp hx with hx | hx
    · have := h.rng x hx
      omega
    · rw [List.mem_singleton.mp hx]
      omega
theorem lot_drop {n : Nat} {l : List Int} (h : Lot ((n + 1 : Nat) : Int) l) : Lot n l ∨ ∃ m, Lot n m ∧ l = m ++ [(n : Int)] := by
  by_cases hn : (n : Int) ∈ l
  · refine .inr ⟨l.filter fun x => decide (x < n), ⟨(h.filter _).up, fun x hx => ?_⟩, ?_⟩
    · obtain ⟨a, c⟩ := List.mem_filter.mp hx
      exact ⟨(h.rng x a).1, of_decide_eq_true c⟩
    · have h2 : Lot n (l.filter fun x => decide (x < n)) := ⟨(h.filter _).up, fun x hx => by
        obtain ⟨a, c⟩ := List.mem_filter.mp hx
        exact ⟨(h.rng x a).1, of_decide_eq_true c⟩⟩
      refine lot_ext h (lot_app h2) fun x => ?_
      rw [List.mem_append, List.mem_filter, List.mem_singleton]
      constructor
      · intro hx
        have := h.rng x hx
        by_cases e : x = n
        · exact .inr e
        · exact .inl ⟨hx, decide_eq_true (by omega)⟩
      · rintro (⟨a, _⟩ | e)
        · exact a
        · rw [e]; exact hn
  · refine .inl ⟨h.up, fun x hx => ?_⟩
    have := h.rng x hx
    have : x ≠ n := fun e => hn (e ▸ hx)
    omega
theorem mem_lotsN : ∀ {n : Nat} {l : List Int}, l ∈ lotsN n ↔ Lot n l
  | 0, l => by
    show l ∈ [[]] ↔ _
    rw [List.mem_singleton]
    constructor
    · rintro rfl
      exact ⟨.nil, by simp⟩
    · intro h
      cases l with
      | nil => rfl
      | cons x l =>
        have := h.rng x List.mem_cons_self
        omega
  | n + 1, l => by
    show l ∈ lotsN n ++ (lotsN n).map (fun l => l ++ [(n : Int)]) ↔ _
    rw [List.mem_append, List.mem_map, mem_lotsN]
    constructor
    · rintro (h | ⟨m, h, rfl⟩)
      · exact ⟨h.up, fun x hx => by have := h.rng x hx; omega⟩
      · exact lot_app (mem_lotsN.mp h)
    · intro h
      rcases lot_drop h with h2 | ⟨m, h2, e⟩
      · exact .inl h2
      · exact .inr ⟨m, mem_lotsN.mpr h2, e.symm⟩
theorem lotsN_nd : ∀ n, (lotsN n).Nodup
  | 0 => by show ([[]] : List (List Int)).Nodup; simp
  | n + 1 => by
    show (lotsN n ++ (lotsN n).map fun l => l ++ [(n : Int)]).Nodup
    rw [List.nodup_append]
    refine ⟨lotsN_nd n, ?_, fun a ha c hc e => ?_⟩
    · exact List.Pairwise.map _ (fun a c h e => h (List.append_cancel_right e)) (lotsN_nd n)
    · subst e
      obtain ⟨m, _, rfl⟩ := List.mem_map.mp hc
      have := (mem_lotsN.mp ha).rng n (by simp)
      omega
/-- as many lots as there are: all of them -/
theorem all_lots_len {n : Nat} {ls : List (List Int)} (hd : ls.Nodup) (hl : ∀ l ∈ ls, Lot n l) (h : ∀ l, Lot n l → l ∈ ls) : ls.length = 2 ^ n := by
  rw [← lotsN_len n]
  exact ((List.perm_ext_iff_of_nodup hd (lotsN_nd n)).mpr fun l => ⟨fun x => mem_lotsN.mpr (hl l x), fun x => h l (mem_lotsN.mp x)⟩).length_eq
end DB
set_option maxHeartbeats 1000000
namespace DB
open PySem
/-! ### values of any kind -/
mutual
/-- no object in it, and nothing too long -/
def pln : D → Bool
  | .obj _ _ => false
  | .fn _ => false
  | .itr _ => false
  | .scr _ => false
  | .str s => PyData.strOk s
  | .tup xs => decide (xs.length ≤ 100000) && plns xs
  | .lst xs => decide (xs.length ≤ 100000) && plns xs
  | _ => true
def plns : List D → Bool
  | [] => true
  | d :: ds => pln d && plns ds
end
theorem pln_non : pln .non = true := by rw [pln] <;> simp
theorem pln_bl (b : Bool) : pln (.bl b) = true := by rw [pln] <;> simp
theorem pln_int (i : Int) : pln (.int i) = true := by rw [pln] <;> simp
theorem pln_str (x : Str) : pln (.str x) = PyData.strOk x := by rw [pln]
theorem pln_tup (l : List D) : pln (.tup l) = (decide (l.length ≤ 100000) && plns l) := by rw [pln]
theorem pln_lst (l : List D) : pln (.lst l) = (decide (l.length ≤ 100000) && plns l) := by rw [pln]
theorem pln_dct (l m : List D) : pln (.dct l m) = true := by rw [pln] <;> simp
theorem plns_nil : plns [] = true := by rw [plns]
theorem plns_cons (d : D) (l : List D) : plns (d :: l) = (pln d && plns l) := by rw [plns]
theorem plns_all : ∀ l : List D, plns l = l.all pln
  | [] => by rw [plns_nil]; rfl
  | d :: l => by rw [plns_cons, plns_all l]; rfl
theorem plns_app (l m : List D) : plns (l ++ m) = (plns l && plns m) := by rw [plns_all, plns_all, plns_all, List.all_append]
theorem plns_map {α : Type} {f : α → D} {l : List α} (h : ∀ a ∈ l, pln (f a) = true) : plns (l.map f) = true := by
  rw [plns_all, List.all_map, List.all_eq_true]
  intro x hx
  exact h x hx
theorem plns_ints (l : List Int) : plns (l.map D.int) = true := plns_map fun i _ => pln_int i
theorem plns_rev (l : List Int) : plns (l.map D.int).reverse = true := by rw [← List.map_reverse, plns_ints]
theorem pln_lot {l : List Int} (h : l.length ≤ 100000) : pln (lotD l) = true := by rw [pln_tup, plns_ints, List.length_map, decide_eq_true h]; rfl
theorem plns_lots {l : List (List Int)} (h : ∀ x ∈ l, x.length ≤ 100000) : plns (l.map lotD) = true := plns_map fun x hx => pln_lot (h x hx)
theorem pln_lots {l : List (List Int)} (h0 : l.length ≤ 100000) (h : ∀ x ∈ l, x.length ≤ 100000) : pln (lotsD l) = true := by rw [pln_tup, plns_lots h, List.length_map, decide_eq_true h0]; rfl
theorem pln_tupD {xs : List D} (h : pln (.tup xs) = true) : xs.length ≤ 100000 ∧ plns xs = true := by
  rw [pln_tup, Bool.and_eq_true, decide_eq_true_eq] at h
  exact h
theorem pln_lstD {xs : List D} (h : pln (.lst xs) = true) : xs.length ≤ 100000 ∧ plns xs = true := by
  rw [pln_lst, Bool.and_eq_true, decide_eq_true_eq] at h
  exact h
theorem pln_pair {x y : D} : pln (.tup [x, y]) = (pln x && pln y) := by rw [pln_tup, plns_cons, plns_cons, plns_nil]; simp
theorem pln_pair2 {x y : D} (hx : pln x = true) (hy : pln y = true) : pln (.tup [x, y]) = true := by rw [pln_pair, hx, hy]; rfl
mutual
/-- plain data of no more than so many levels, without dicts -/
def pl : Nat → D → Bool
  | _, .non => true
  | _, .bl _ => true
  | _, .int _ => true
  | _, .str s => PyData.strOk s
  | n + 1, .tup xs => decide (xs.length ≤ 100000) && pls n xs
  | n + 1, .lst xs => decide (xs.length ≤ 100000) && pls n xs
  | _, _ => false
def pls : Nat → List D → Bool
  | _, [] => true
  | n, d :: ds => pl n d && pls n ds
end
theorem pl_non (n : Nat) : pl n .non = true := by rw [pl] <;> simp
theorem pl_bl (n : Nat) (b : Bool) : pl n (.bl b) = true := by rw [pl] <;> simp
theorem pl_int (n : Nat) (i : Int) : pl n (.int i) = true := by rw [pl] <;> simp
theorem pl_str (n : Nat) (x : Str) : pl n (.str x) = PyData.strOk x := by rw [pl]
theorem pl_tup (n : Nat) (l : List D) : pl (n + 1) (.tup l) = (decide (l.length ≤ 100000) && pls n l) := by rw [pl]
theorem pl_lst (n : Nat) (l : List D) : pl (n + 1) (.lst l) = (decide (l.length ≤ 100000) && pls n l) := by rw [pl]
theorem pls_nil (n : Nat) : pls n [] = true := by rw [pls]
theorem pls_cons (n : Nat) (d : D) (l : List D) : pls n (d :: l) = (pl n d && pls n l) := by rw [pls]
theorem pls_all (n : Nat) : ∀ l : List D, pls n l = l.all (pl n)
  | [] => by rw [pls_nil]; rfl
  | d :: l => by rw [pls_cons, pls_all n l]; rfl
theorem pls_map {n : Nat} {α : Type} {f : α → D} {l : List α} (h : ∀ a ∈ l, pl n (f a) = true) : pls n (l.map f) = true := by
  rw [pls_all, List.all_map, List.all_eq_true]
  intro x hx
  exact h x hx
theorem pls_ints (n : Nat) (l : List Int) : pls n (l.map D.int) = true := pls_map fun i _ => pl_int n i
theorem pl_lot {n : Nat} {l : List Int} (h : l.length ≤ 100000) : pl (n + 1) (lotD l) = true := by rw [pl_tup, pls_ints, List.length_map, decide_eq_true h]; rfl
theorem pls_lots {n : Nat} {l : List (List Int)} (h : ∀ x ∈ l, x.length ≤ 100000) : pls (n + 1) (l.map lotD) = true := pls_map fun x hx => pl_lot (h x hx)
theorem pls_mem {n : Nat} {l : List D} (h : pls n l = true) : ∀ d ∈ l, pl n d = true := by
  rw [pls_all, List.all_eq_true] at h
  exact h
instance : Inhabited D := ⟨.non⟩
theorem at_nth {xs : List D} {k : Int} (h0 : 0 ≤ k) (h1 : k < xs.length) : at? xs k = some (nth xs k) := by
  have := at_map (fun d : D => d) (l := xs) h0 h1
  rw [List.map_id'] at this
  exact this
theorem beqs_len : ∀ {xs ys : List D}, xs.length ≠ ys.length → D.beqs xs ys = false
  | [], [], h => absurd rfl h
  | [], _ :: _, _ => rfl
  | _ :: _, [], _ => rfl
  | x :: xs, y :: ys, h => by
    show (D.beq x y && D.beqs xs ys) = false
    rw [beqs_len (xs := xs) (ys := ys) (by simpa using h), Bool.and_false]
theorem beqs_ix : ∀ {xs ys : List D}, xs.length = ys.length → ((ir 0 ys.length).all fun k => D.beq (nth xs k) (nth ys k)) = D.beqs xs ys := by
  intro xs ys h
  rw [Bool.eq_iff_iff, List.all_eq_true]
  constructor
  · intro hk
    have : xs = ys := by
      apply List.ext_getElem h
      intro i h1 h2
      have := hk i (mem_ir.mpr (by omega))
      have := D.beq_eq this
      simp only [nth, Int.toNat_natCast, List.getD_eq_getElem?_getD, List.getElem?_eq_getElem h1, List.getElem?_eq_getElem h2, Option.getD_some] at this
      exact this
    rw [this, D.beqs_rfl]
  · intro e k _
    rw [D.beqs_eq e, D.beq_rfl]
theorem beq_dec {a b : D} [Decidable (a = b)] : D.beq a b = decide (a = b) := by
  rw [Bool.eq_iff_iff, decide_eq_true_eq]
  exact ⟨D.beq_eq, fun e => by rw [e, D.beq_rfl]⟩
theorem beq_lot (l m : List Int) : D.beq (lotD l) (lotD m) = decide (l = m) := by
  rw [Bool.eq_iff_iff, decide_eq_true_eq]
  constructor
  · intro h
    have := D.beq_eq h
    have e : (l.map D.int) = m.map D.int := by injection this
    exact (List.map_inj_right fun a b h => by injection h).mp e
  · intro e; rw [e, D.beq_rfl]
theorem deq_str {x y : Str} (hx : PyData.strOk x = true) (hy : PyData.strOk y = true) : deq (.str x) (.str y) = some (D.beq (.str x) (.str y)) := by
  rw [deq_D (by unfold shp; exact hx) (by unfold shp; exact hy)]
  congr 1
theorem beq_int (i j : Int) : D.beq (.int i) (.int j) = decide (i = j) := rfl
theorem beq_bl (i j : Bool) : D.beq (.bl i) (.bl j) = decide (i = j) := by cases i <;> cases j <;> rfl
theorem pln_obj {d : D} (h : pln d = true) : isObj d = false := by
  cases d with
  | obj _ _ => rw [pln] at h; cases h
  | fn _ => rw [pln] at h; cases h
  | itr _ => rw [pln] at h; cases h
  | _ => rfl
theorem pln_mem {l : List D} (h : plns l = true) : ∀ d ∈ l, pln d = true := by
  rw [plns_all, List.all_eq_true] at h
  exact h
theorem intsOf_inv : ∀ {xs : List D} {l : List Int}, intsOf xs = some l → xs = l.map D.int
  | [], l, h => by unfold intsOf at h; cases h; rfl
  | d :: xs, l, h => by
    cases d with
    | int i =>
      unfold intsOf at h
      cases hx : intsOf xs with
      | none => rw [hx] at h; cases h
      | some m =>
        rw [hx] at h
        cases h
        rw [intsOf_inv hx]
        rfl
    | _ => unfold intsOf at h; cases h
/-- all are whole numbers within bounds: they are ints -/
theorem ints_of_all {lo hi : Int} : ∀ {xs : List D}, xs.all (fun x => isB x lo hi) = true → ∃ l : List Int, xs = l.map D.int
  | [], _ => ⟨[], rfl⟩
  | d :: xs, h => by
    rw [List.all_cons, Bool.and_eq_true] at h
    obtain ⟨l, e⟩ := ints_of_all h.2
    cases d with
    | int i => exact ⟨i :: l, by rw [e]; rfl⟩
    | _ => exact absurd h.1 (by simp [isB])
/-- a value is a lot of so many bars -/
def lotG (b : Int) (d : D) : Bool := match d with
  | .tup xs => match intsOf xs with
    | some l => lotB b l
    | none => false
  | _ => false
theorem lotG_lot (b : Int) (l : List Int) : lotG b (lotD l) = lotB b l := by
  show (match intsOf (l.map D.int) with | some l => lotB b l | none => false) = _
  rw [intsOf_map]
theorem lotG_tup (b : Int) (xs : List D) (h : ∃ x ∈ xs, isB x 0 (b - 1) = false) : lotG b (.tup xs) = false := by
  show (match intsOf xs with | some l => lotB b l | none => false) = _
  cases e : intsOf xs with
  | none => rfl
  | some l =>
    have e2 := intsOf_inv e
    subst e2
    obtain ⟨x, hx, hb⟩ := h
    obtain ⟨i, hi, rfl⟩ := List.mem_map.mp hx
    show lotB b l = false
    unfold lotB
    have : l.all (fun x => decide (0 ≤ x) && decide (x ≤ b - 1)) = false := by
      rw [List.all_eq_false]
      exact ⟨i, hi, by rw [isB_int] at hb; simpa using hb⟩
    rw [this]
    simp
theorem lotG_len (b : Int) (xs : List D) (h : ¬ (xs.length : Int) ≤ b) : lotG b (.tup xs) = false := by
  show (match intsOf xs with | some l => lotB b l | none => false) = _
  cases e : intsOf xs with
  | none => rfl
  | some l =>
    have e2 := intsOf_inv e
    subst e2
    rw [List.length_map] at h
    show lotB b l = false
    unfold lotB
    simp [h]
theorem lotG_iff {b : Int} (hb : 0 ≤ b) {d : D} : lotG b d = true ↔ ∃ l, d = lotD l ∧ Lot b l := by
  constructor
  · intro h
    cases d with
    | tup xs =>
      cases e : intsOf xs with
      | none =>
        have : (match intsOf xs with | some l => lotB b l | none => false) = true := h
        rw [e] at this
        cases this
      | some l =>
        have e2 := intsOf_inv e
        subst e2
        exact ⟨l, rfl, (lotB_iff hb).mp (by rw [← lotG_lot]; exact h)⟩
    | _ => cases h
  · rintro ⟨l, rfl, hl⟩
    rw [lotG_lot, (lotB_iff hb).mpr hl]
def lotsOf : List D → Option (List (List Int))
  | [] => some []
  | .tup xs :: ds => match intsOf xs, lotsOf ds with
    | some l, some ls => some (l :: ls)
    | _, _ => none
  | _ :: _ => none
theorem lotsOf_map : ∀ ls : List (List Int), lotsOf (ls.map lotD) = some ls
  | [] => rfl
  | l :: ls => by
    show (match intsOf (l.map D.int), lotsOf (ls.map lotD) with | some l, some ls => some (l :: ls) | _, _ => none) = _
    rw [intsOf_map, lotsOf_map ls]
theorem lots_of_all {b : Int} : ∀ {xs : List D}, xs.all (lotG b) = true → ∃ ls : List (List Int), xs = ls.map lotD
  | [], _ => ⟨[], rfl⟩
  | d :: xs, h => by
    rw [List.all_cons, Bool.and_eq_true] at h
    obtain ⟨ls, e⟩ := lots_of_all h.2
    cases d with
    | tup ys =>
      cases e2 : intsOf ys with
      | none =>
        have : (match intsOf ys with | some l => lotB b l | none => false) = true := h.1
        rw [e2] at this
        cases this
      | some l => exact ⟨l :: ls, by rw [e, intsOf_inv e2]; rfl⟩
    | _ => exact absurd h.1 (by simp [lotG])
/-- a value is a table -/
def tabB (b : Int) (ls : List (List Int)) : Bool := (decide (1 ≤ b) && decide (b ≤ 12)) && ((decide (2 ≤ (ls.length : Int)) && decide ((ls.length : Int) ≤ 16)) && (ls.all (lotB b) && decide ls.Nodup))
def tabG (d : D) : Bool := match d with
  | .tup [.int b, .tup gs] => match lotsOf gs with
    | some ls => tabB b ls
    | none => false
  | _ => false
theorem tabB_iff {b : Int} {ls : List (List Int)} : tabB b ls = true ↔ Tb 12 16 b ls := by
  unfold tabB
  simp only [Bool.and_eq_true, decide_eq_true_eq, List.all_eq_true]
  constructor
  · rintro ⟨⟨h1, h2⟩, ⟨h3, h4⟩, h5, h6⟩
    exact ⟨h1, h2, by omega, h4, h6, fun l hl => (lotB_iff (by omega)).mp (h5 l hl)⟩
  · intro h
    have := h.lo
    have := h.two
    exact ⟨⟨h.lo, h.hi⟩, ⟨by omega, h.most⟩, fun l hl => (lotB_iff (by omega)).mpr (h.lot l hl), h.nd⟩
theorem tabG_tab (b : Int) (ls : List (List Int)) : tabG (tabD b ls) = tabB b ls := by
  show (match lotsOf (ls.map lotD) with | some ls => tabB b ls | none => false) = _
  rw [lotsOf_map]
theorem lotsOf_inv : ∀ {gs : List D} {ls : List (List Int)}, lotsOf gs = some ls → gs = ls.map lotD
  | [], ls, h => by unfold lotsOf at h; cases h; rfl
  | d :: gs, ls, h => by
    cases d with
    | tup xs =>
      unfold lotsOf at h
      cases h1 : intsOf xs with
      | none => rw [h1] at h; cases h
      | some l =>
        cases h2 : lotsOf gs with
        | none => rw [h1, h2] at h; cases h
        | some m =>
          rw [h1, h2] at h
          cases h
          rw [lotsOf_inv h2, intsOf_inv h1]
          rfl
    | _ => unfold lotsOf at h; cases h
theorem tabG_inv {d : D} (h : tabG d = true) : ∃ b ls, d = tabD b ls ∧ Tb 12 16 b ls := by
  unfold tabG at h
  split at h
  · rename_i b gs
    split at h
    · rename_i ls e
      rw [lotsOf_inv e]
      exact ⟨b, ls, rfl, tabB_iff.mp h⟩
    · cases h
  · cases h
theorem tabG_iff {d : D} : tabG d = true ↔ ∃ b ls, d = tabD b ls ∧ Tb 12 16 b ls :=
  ⟨tabG_inv, fun ⟨b, ls, e, h⟩ => by rw [e, tabG_tab, tabB_iff.mpr h]⟩
/-! faults of a place -/
def disj (l m : List Int) : Bool := !(l.any fun x => decide (x ∈ m))
theorem disj_iff {l m : List Int} : disj l m = true ↔ ∀ x ∈ l, x ∉ m := by
  unfold disj
  simp
def pfG (b : Int) (d : D) : Bool := match d with
  | .tup [.tup xs, .tup ys] => match intsOf xs, intsOf ys with
    | some l, some m => lotB b l && (lotB b m && disj l m)
    | _, _ => false
  | _ => false
abbrev pfD (f : List Int × List Int) : D := .tup [lotD f.1, lotD f.2]
structure Pf (b : Int) (f : List Int × List Int) : Prop where
  dk : Lot b f.1
  lt : Lot b f.2
  dj : ∀ x ∈ f.1, x ∉ f.2
theorem pfG_pf (b : Int) (f : List Int × List Int) : pfG b (pfD f) = (lotB b f.1 && (lotB b f.2 && disj f.1 f.2)) := by
  show (match intsOf (f.1.map D.int), intsOf (f.2.map D.int) with | some l, some m => lotB b l && (lotB b m && disj l m) | _, _ => false) = _
  rw [intsOf_map, intsOf_map]
theorem pfB_iff {b : Int} (hb : 0 ≤ b) {f : List Int × List Int} : (lotB b f.1 && (lotB b f.2 && disj f.1 f.2)) = true ↔ Pf b f := by
  rw [Bool.and_eq_true, Bool.and_eq_true, lotB_iff hb, lotB_iff hb, disj_iff]
  exact ⟨fun ⟨a, b, c⟩ => ⟨a, b, c⟩, fun h => ⟨h.dk, h.lt, h.dj⟩⟩
theorem pfG_iff {b : Int} (hb : 0 ≤ b) {d : D} : pfG b d = true ↔ ∃ f, d = pfD f ∧ Pf b f := by
  constructor
  · intro h
    unfold pfG at h
    split at h
    · rename_i xs ys
      split at h
      · rename_i l m e1 e2
        rw [intsOf_inv e1, intsOf_inv e2]
        exact ⟨(l, m), rfl, (pfB_iff (f := (l, m)) hb).mp h⟩
      · cases h
    · cases h
  · rintro ⟨f, rfl, h⟩
    rw [pfG_pf, (pfB_iff hb).mpr h]
/-- a pair of two lots, or not -/
theorem pfG_lots {b : Int} {x y : D} : pfG b (.tup [x, y]) = (lotG b x && (lotG b y && match x, y with | .tup xs, .tup ys => (match intsOf xs, intsOf ys with | some l, some m => disj l m | _, _ => false) | _, _ => false)) := by
  cases x <;> cases y <;> try (simp [pfG, lotG]; done)
  rename_i xs ys
  show (match intsOf xs, intsOf ys with | some l, some m => lotB b l && (lotB b m && disj l m) | _, _ => false) = ((match intsOf xs with | some l => lotB b l | none => false) && ((match intsOf ys with | some l => lotB b l | none => false) && (match intsOf xs, intsOf ys with | some l, some m => disj l m | _, _ => false)))
  cases intsOf xs <;> cases intsOf ys <;> simp
theorem pfG_len {b : Int} {xs : List D} (h : xs.length ≠ 2) : pfG b (.tup xs) = false := by
  unfold pfG
  split
  · rename_i q
    cases q
    exact absurd rfl h
  · rfl
theorem lotG_ex {b : Int} {x : D} (h : lotG b x = true) : ∃ l, x = lotD l := by
  unfold lotG at h
  split at h
  · split at h
    · rename_i q; exact ⟨_, by rw [intsOf_inv q]⟩
    · cases h
  · cases h
/-! comparing what may be no number -/
def ival : D → Int
  | .int i => i
  | _ => 0
theorem ival_int (i : Int) : ival (.int i) = i := rfl
theorem ocm_le1 (i : Int) (x : D) (s : Sto) : cmpop .le (.int i) x s = if isW x = true then .ok (decide (i ≤ ival x)) s else .no := by cases x <;> rfl
theorem ocm_lt1 (i : Int) (x : D) (s : Sto) : cmpop .lt (.int i) x s = if isW x = true then .ok (decide (i < ival x)) s else .no := by cases x <;> rfl
theorem ocm_ge1 (i : Int) (x : D) (s : Sto) : cmpop .ge (.int i) x s = if isW x = true then .ok (decide (ival x ≤ i)) s else .no := by cases x <;> rfl
theorem ocm_gt1 (i : Int) (x : D) (s : Sto) : cmpop .gt (.int i) x s = if isW x = true then .ok (decide (ival x < i)) s else .no := by cases x <;> rfl
theorem ocm_le2 (i : Int) (x : D) (s : Sto) : cmpop .le x (.int i) s = if isW x = true then .ok (decide (ival x ≤ i)) s else .no := by cases x <;> rfl
theorem ocm_lt2 (i : Int) (x : D) (s : Sto) : cmpop .lt x (.int i) s = if isW x = true then .ok (decide (ival x < i)) s else .no := by cases x <;> rfl
theorem ocm_ge2 (i : Int) (x : D) (s : Sto) : cmpop .ge x (.int i) s = if isW x = true then .ok (decide (i ≤ ival x)) s else .no := by cases x <;> rfl
theorem ocm_gt2 (i : Int) (x : D) (s : Sto) : cmpop .gt x (.int i) s = if isW x = true then .ok (decide (i < ival x)) s else .no := by cases x <;> rfl
theorem ite_nest {α : Sort _} (c : Prop) [Decidable c] (x y z : α) : (if c then (if c then x else y) else z) = if c then x else z := by split <;> rfl
theorem ite_nest' {α : Sort _} (c : Prop) [Decidable c] (x y z : α) : (if c then x else (if c then y else z)) = if c then x else z := by split <;> rfl
theorem ite_nest2 {α : Sort _} (c p : Prop) [Decidable c] [Decidable p] (x y z w : α) : (if c then (if p then (if c then x else y) else z) else w) = if c then (if p then x else z) else w := by
  by_cases hc : c <;> simp [hc]
theorem isB_iff (x : D) (lo hi : Int) : isB x lo hi = (isW x && (decide (lo ≤ ival x) && decide (ival x ≤ hi))) := by cases x <;> rfl
/-- rising, told by places -/
theorem rise_ix (l : List Int) : ((ir 1 l.length).all fun k => decide (nth l (k - 1) < nth l k)) = rise l := by
  rw [Bool.eq_iff_iff]
  unfold rise
  rw [zip_drop1, List.all_eq_true]
  constructor
  · intro h i a b ha hb
    have hi : i + 1 < l.length := by
      rcases Nat.lt_or_ge (i + 1) l.length with h | h
      · exact h
      · rw [List.getElem?_eq_none h] at hb; cases hb
    have := h ((i : Int) + 1) (mem_ir.mpr (by omega))
    rw [decide_eq_true_eq] at this
    have e1 : nth l ((i : Int) + 1 - 1) = a := by
      unfold nth
      rw [List.getD_eq_getElem?_getD, show ((i : Int) + 1 - 1).toNat = i by omega, ha]
      rfl
    have e2 : nth l ((i : Int) + 1) = b := by
      unfold nth
      rw [List.getD_eq_getElem?_getD, show ((i : Int) + 1).toNat = i + 1 by omega, hb]
      rfl
    rw [e1, e2] at this
    exact this
  · intro h k hk
    have hk := mem_ir.mp hk
    obtain ⟨i, rfl⟩ : ∃ i : Nat, k = (i : Int) + 1 := ⟨(k - 1).toNat, by omega⟩
    rw [decide_eq_true_eq]
    refine h i _ _ ?_ ?_
    · unfold nth
      rw [List.getD_eq_getElem?_getD, show ((i : Int) + 1 - 1).toNat = i by omega, List.getElem?_eq_getElem (by omega)]
      rfl
    · unfold nth
      rw [List.getD_eq_getElem?_getD, show ((i : Int) + 1).toNat = i + 1 by omega, List.getElem?_eq_getElem (by omega)]
      rfl
/-- in range and rising: a lot -/
theorem lotB_noL {b : Int} (hb : 0 ≤ b) (l : List Int) : lotB b l = (l.all (fun x => decide (0 ≤ x) && decide (x < b)) && rise l) := by
  rw [Bool.eq_iff_iff, lotB_iff hb, Bool.and_eq_true, rise_iff, List.all_eq_true]
  constructor
  · intro h
    exact ⟨fun x hx => by have := h.rng x hx; simp [this], h.up⟩
  · rintro ⟨h1, h2⟩
    exact ⟨h2, fun x hx => by have := h1 x hx; simpa using this⟩
theorem step_rev (l : List Int) : stepL (-1) (l.map D.int) = some (l.reverse.map D.int) := by
  unfold stepL
  rw [if_pos rfl, List.map_reverse]
theorem blsOf_nil : blsOf [] = some [] := rfl
/-! sets -/
theorem setB_t (xs : List D) (s : Sto) : setB .sort (.tup xs) s = bnd (M.opt (intsOf xs) s) (fun is s => bnd (M.guard (decide (is.length < 4000)) s) (fun _ s => .ok (.own (.lst ((isort (dedI is)).map D.int))) s) ⟨⟩) ⟨⟩ := rfl
theorem setB_l (xs : List D) (s : Sto) : setB .sort (.lst xs) s = bnd (M.opt (intsOf xs) s) (fun is s => bnd (M.guard (decide (is.length < 4000)) s) (fun _ s => .ok (.own (.lst ((isort (dedI is)).map D.int))) s) ⟨⟩) ⟨⟩ := rfl
theorem intsOf_snoc (l : List Int) (x : Int) : intsOf (l.map D.int ++ [.int x]) = some (l ++ [x]) := intsOf_app l [x]
theorem mem_dedI : ∀ {l : List Int} {x : Int}, x ∈ dedI l ↔ x ∈ l
  | [], x => by unfold dedI; rfl
  | y :: l, x => by
    unfold dedI
    rw [List.mem_cons, List.mem_filter, mem_dedI (l := l), List.mem_cons]
    constructor
    · rintro (h | ⟨h, _⟩)
      · exact .inl h
      · exact .inr h
    · rintro (h | h)
      · exact .inl h
      · by_cases e : x = y
        · exact .inl e
        · exact .inr ⟨h, by simpa using e⟩
theorem dedI_nd : ∀ l : List Int, (dedI l).Nodup
  | [] => by unfold dedI; exact .nil
  | y :: l => by
    unfold dedI
    rw [List.nodup_cons]
    exact ⟨fun h => by have := (List.mem_filter.mp h).2; simp at this, (dedI_nd l).filter _⟩
theorem dedI_le2 : ∀ l : List Int, (dedI l).length ≤ l.length
  | [] => by unfold dedI; exact Nat.le_refl _
  | y :: l => by
    unfold dedI
    have := dedI_le2 l
    have := List.length_filter_le (fun j => j != y) (dedI l)
    rw [List.length_cons, List.length_cons]
    omega
theorem dedI_lot {b : Int} {l : List Int} (h : ∀ x ∈ l, 0 ≤ x ∧ x < b) : Lot b (isort (dedI l)) := isort_lot (dedI_nd l) fun x hx => h x (mem_dedI.mp hx)
theorem mem_setI {l : List Int} {x : Int} : x ∈ isort (dedI l) ↔ x ∈ l := by rw [mem_isort, mem_dedI]
/-- a def that draws and hands back what is new -/
theorem wp_runO {n : Nat} {ms : List Bool} {body : Ss} {as : List D} {p : PP} {L : Sto} {Q : R → Sto → Prop} {w : Wit Q} (hm : ms = true :: as.map fun _ => false)
    (h : wp (vSs body (some (.cell 0) :: (as.map fun d => some (.dat d)) ++ List.replicate (n - (as.length + 1)) none) [pc p]) (fun fl l => ∃ d p' l', fl = .rt (.own d) ∧ l = pc p' :: l' ∧ Q (.own d) (pc p' :: L)) ⟨⟩) :
    wp (runV (.mk n ms body) (.cell 0 :: as.map .dat) (pc p :: L)) Q w := by
  subst hm
  have hb : ∀ (as : List D) (s : Sto), bindA (as.map fun _ => false) (as.map .dat) s = .ok (as.map fun d => some (.dat d)) s := by
    intro as
    induction as with
    | nil => intro s; rfl
    | cons d as ih =>
      intro s
      rw [List.map_cons, List.map_cons, bindA_dat, bind_ap, ih]
      rfl
  have hl : ∀ (as : List D) (k : Nat), locA (as.map fun _ => false) (as.map fun d => some (.dat d)) k = as.map fun d => some (R.dat d) := by
    intro as
    induction as with
    | nil => intro k; rfl
    | cons d as ih => intro k; show some (R.dat d) :: _ = _; rw [ih]; rfl
  have hc : ∀ (as : List D), celA (as.map fun _ => false) (as.map fun d => some (R.dat d)) = [] := by
    intro as
    induction as with
    | nil => rfl
    | cons d as ih => exact ih
  obtain ⟨fl, l, e, d, p', l', rfl, rfl, hq⟩ := wp_ex h
  rw [runV_mk]
  show wp (((bindA (true :: as.map fun _ => false) (.cell 0 :: as.map .dat)) >>= fun es => backM (celA (true :: as.map fun _ => false) es) (vSs body (locA (true :: as.map fun _ => false) es 0 ++ List.replicate (n - es.length) none) >>= fun f => flowR f) >>= fun r => endFn (List.length (pc p :: L)) r) (pc p :: L)) Q w
  rw [bind_ap, bindA_cell, bind_ap, hb]
  show wp ((backM (celA (true :: as.map fun _ => false) (some (.cell 0) :: as.map fun d => some (.dat d))) (vSs body (locA (true :: as.map fun _ => false) (some (.cell 0) :: as.map fun d => some (.dat d)) 0 ++ List.replicate (n - (some (R.cell 0) :: as.map fun d => some (R.dat d)).length) none) >>= fun f => flowR f) >>= fun r => endFn (List.length (pc p :: L)) r) (pc p :: L)) Q w
  rw [celA_t, hc, locA_t, hl, bind_ap, backM_pc, bind_ap]
  rw [show (some (R.cell 0) :: as.map fun d => some (R.dat d)).length = as.length + 1 by simp]
  rw [e]
  show wp (endFn (List.length (pc p :: L)) (.own d) (pc p' :: L)) Q w
  rw [endFn_own1]
  exact hq
theorem run2_oo (n : Nat) (B : Ss) (a b : D) (s : Sto) : runV (.mk n [false, false] B) [.own a, .own b] s = runV (.mk n [false, false] B) [.dat a, .dat b] s := by
  rw [runV_mk, runV_mk]
  rfl
theorem run2_od (n : Nat) (B : Ss) (a b : D) (s : Sto) : runV (.mk n [false, false] B) [.own a, .dat b] s = runV (.mk n [false, false] B) [.dat a, .dat b] s := by
  rw [runV_mk, runV_mk]
  rfl
theorem run2_do (n : Nat) (B : Ss) (a b : D) (s : Sto) : runV (.mk n [false, false] B) [.dat a, .own b] s = runV (.mk n [false, false] B) [.dat a, .dat b] s := by
  rw [runV_mk, runV_mk]
  rfl
/-- items as they are -/
theorem forM_poolD {f : D → Env → M Flow} {xs : List D} {E : Env} {L : Sto} {Q : Flow → Sto → Prop} {w : Wit Q} (p : PP)
    (h : ∀ x ∈ xs, ∀ p, wp (f x E (pc p :: L)) (fun fl s => (fl = .nx E ∨ fl = .ct E) ∧ ∃ p', s = pc p' :: L) ⟨⟩) (hq : ∀ p, Q (.nx E) (pc p :: L)) : wp (forM f xs E (pc p :: L)) Q w := by
  have := forM_pool (f := f) (enc := fun d : D => d) (xs := xs) (E := E) (L := L) (Q := Q) (w := w) p h hq
  rw [List.map_id'] at this
  exact this
/-! displays -/
structure Ds (b : Int) (ls : List (List Int)) (q : Int) : Prop where
  tb : Tb 12 16 b ls
  lo : 1 ≤ q
  hi : q ≤ 4
  rch : powI ls.length q ≤ 4096
def glen (d : D) : Int := match d with
  | .tup [_, .tup gs] => (gs.length : Int)
  | _ => 0
def dspG (d : D) : Bool := match d with
  | .tup [t, .int q] => tabG t && ((decide (1 ≤ q) && decide (q ≤ 4)) && decide (powI (glen t) q ≤ 4096))
  | _ => false
theorem dspG_iff {d : D} : dspG d = true ↔ ∃ b ls q, d = dspD b ls q ∧ Ds b ls q := by
  constructor
  · intro h
    unfold dspG at h
    split at h
    · rename_i t q
      simp only [Bool.and_eq_true, decide_eq_true_eq] at h
      obtain ⟨h1, ⟨h2, h3⟩, h4⟩ := h
      obtain ⟨b, ls, rfl, ht⟩ := tabG_inv h1
      refine ⟨b, ls, q, rfl, ht, h2, h3, ?_⟩
      simpa [glen] using h4
    · cases h
  · rintro ⟨b, ls, q, rfl, h⟩
    show (tabG (tabD b ls) && ((decide (1 ≤ q) && decide (q ≤ 4)) && decide (powI (glen (tabD b ls)) q ≤ 4096))) = true
    rw [tabG_tab, tabB_iff.mpr h.tb, decide_eq_true h.lo, decide_eq_true h.hi]
    simpa [glen] using h.rch
end DB
set_option maxHeartbeats 1000000
namespace DB
open PySem
theorem din_intA (i : Int) (l m : List Int) : din (.int i) (l.map D.int ++ m.map D.int) = some (decide (i ∈ l ++ m)) := by rw [← List.map_append]; exact din_int i (l ++ m)
/-! ### digits -/
/-- the last k digits of a number, the greatest one first -/
def sfx (n x : Int) : Nat → List Int
  | 0 => []
  | k + 1 => (x / n ^ k % n) :: sfx n x k
theorem sfx_len (n x : Int) : ∀ k, (sfx n x k).length = k
  | 0 => rfl
  | k + 1 => by show (sfx n x k).length + 1 = _; rw [sfx_len n x k]
theorem sfx_rng {n x : Int} (hn : 0 < n) : ∀ k, ∀ d ∈ sfx n x k, 0 ≤ d ∧ d < n
  | 0, d, h => by cases h
  | k + 1, d, h => by
    rcases List.mem_cons.mp h with h | h
    · rw [h]
      exact ⟨Int.emod_nonneg _ (by omega), Int.emod_lt_of_pos _ hn⟩
    · exact sfx_rng hn k d h
theorem pow_pos' {n : Int} (hn : 0 < n) (k : Nat) : 0 < n ^ k := Int.pow_pos hn
/-- the number behind so many digits -/
theorem div_pow_succ {n : Int} (hn : 0 < n) (x : Int) (k : Nat) : x / n ^ k / n = x / n ^ (k + 1) := by
  rw [Int.pow_succ, Int.ediv_ediv_of_nonneg (Int.le_of_lt (pow_pos' hn k))]
theorem sfx_mod {n : Int} (hn : 0 < n) (x : Int) : ∀ (k j : Nat), k ≤ j → sfx n (x % n ^ j) k = sfx n x k
  | 0, _, _ => rfl
  | k + 1, j, h => by
    show (x % n ^ j / n ^ k % n) :: sfx n (x % n ^ j) k = _
    rw [sfx_mod hn x k j (by omega)]
    show _ = (x / n ^ k % n) :: sfx n x k
    congr 1
    have e : x % n ^ j = x - n ^ j * (x / n ^ j) := by
      have := Int.emod_add_mul_ediv x (n ^ j)
      omega
    obtain ⟨i, rfl⟩ : ∃ i, j = k + 1 + i := ⟨j - (k + 1), by omega⟩
    rw [e]
    have e2 : x - n ^ (k + 1 + i) * (x / n ^ (k + 1 + i)) = x + n ^ k * (-(n * (n ^ i * (x / n ^ (k + 1 + i))))) := by
      rw [Int.pow_add, Int.pow_succ]
      generalize x / (n ^ k * n * n ^ i) = y
      generalize n ^ k = a
      generalize n ^ i = c
      rw [Int.mul_neg, ← Int.sub_eq_add_neg]
      congr 1
      simp only [Int.mul_assoc]
    rw [e2, Int.add_mul_ediv_left _ _ (by have := pow_pos' hn k; omega)]
    rw [← Int.mul_neg, Int.add_mul_emod_self_left]
def valD (n : Int) (ds : List Int) : Int := ds.foldl (fun t d => t * n + d) 0
theorem foldl_val (n : Int) : ∀ (ds : List Int) (t : Int), ds.foldl (fun t d => t * n + d) t = t * n ^ ds.length + valD n ds
  | [], t => by simp [valD]
  | d :: ds, t => by
    rw [List.foldl_cons, foldl_val n ds]
    have e : valD n (d :: ds) = d * n ^ ds.length + valD n ds := by
      show ds.foldl (fun t d => t * n + d) (0 * n + d) = _
      rw [foldl_val n ds]
      simp
    rw [e, List.length_cons, Int.pow_succ, Int.add_mul, Int.mul_assoc, Int.mul_comm n, Int.add_assoc]
theorem valD_cons (n d : Int) (ds : List Int) : valD n (d :: ds) = d * n ^ ds.length + valD n ds := by
  show ds.foldl (fun t d => t * n + d) (0 * n + d) = _
  rw [foldl_val n ds]
  simp
theorem valD_sfx {n : Int} (hn : 0 < n) (x : Int) : ∀ k, valD n (sfx n x k) = x % n ^ k
  | 0 => by simp [sfx, valD, Int.emod_one]
  | k + 1 => by
    show valD n ((x / n ^ k % n) :: sfx n x k) = _
    rw [valD_cons, sfx_len, valD_sfx hn x k]
    have e1 := Int.emod_add_mul_ediv x (n ^ k)
    have e2 := Int.emod_add_mul_ediv (x / n ^ k) n
    have e3 := Int.emod_add_mul_ediv x (n ^ (k + 1))
    rw [← div_pow_succ hn, Int.pow_succ] at e3
    generalize x / n ^ k / n = c at e2 e3
    generalize x / n ^ k % n = b at *
    generalize x / n ^ k = y at *
    generalize hp : n ^ k = p at *
    rw [Int.pow_succ, hp]
    have : x % (p * n) = x - p * n * c := by omega
    rw [this]
    have e4 : p * y = p * b + p * n * c := by rw [← e2, Int.mul_add, Int.mul_assoc]
    rw [Int.mul_comm b p]
    omega
theorem sfx_inj {n : Int} (hn : 0 < n) {k : Nat} {x y : Int} (hx : 0 ≤ x ∧ x < n ^ k) (hy : 0 ≤ y ∧ y < n ^ k) (h : sfx n x k = sfx n y k) : x = y := by
  have e := congrArg (valD n) h
  rw [valD_sfx hn, valD_sfx hn, Int.emod_eq_of_lt hx.1 hx.2, Int.emod_eq_of_lt hy.1 hy.2] at e
  exact e
theorem valD_rng {n : Int} (hn : 0 < n) : ∀ {ds : List Int}, (∀ d ∈ ds, 0 ≤ d ∧ d < n) → 0 ≤ valD n ds ∧ valD n ds < n ^ ds.length
  | [], _ => by simp [valD]
  | d :: ds, h => by
    have ih := valD_rng hn fun x hx => h x (List.mem_cons_of_mem _ hx)
    have hd := h d List.mem_cons_self
    rw [valD_cons, List.length_cons, Int.pow_succ]
    have hp := pow_pos' hn ds.length
    have h1 : 0 ≤ d * n ^ ds.length := Int.mul_nonneg hd.1 (Int.le_of_lt hp)
    have h2 : (d + 1) * n ^ ds.length ≤ n * n ^ ds.length := Int.mul_le_mul_of_nonneg_right (by omega) (Int.le_of_lt hp)
    rw [Int.add_mul, Int.one_mul] at h2
    rw [Int.mul_comm _ n]
    omega
theorem sfx_val {n : Int} (hn : 0 < n) : ∀ {ds : List Int}, (∀ d ∈ ds, 0 ≤ d ∧ d < n) → sfx n (valD n ds) ds.length = ds
  | [], _ => rfl
  | d :: ds, h => by
    have ih := sfx_val hn fun x hx => h x (List.mem_cons_of_mem _ hx)
    have hr := valD_rng hn fun x hx => h x (List.mem_cons_of_mem d hx)
    have hd := h d List.mem_cons_self
    have hp := pow_pos' hn ds.length
    show (valD n (d :: ds) / n ^ ds.length % n) :: sfx n (valD n (d :: ds)) ds.length = _
    have e1 : valD n (d :: ds) / n ^ ds.length = d := by
      rw [valD_cons, Int.add_comm, Int.add_mul_ediv_right _ _ (by omega), Int.ediv_eq_zero_of_lt hr.1 hr.2]
      simp
    rw [e1, Int.emod_eq_of_lt hd.1 hd.2]
    congr 1
    rw [← sfx_mod hn _ ds.length ds.length (Nat.le_refl _), valD_cons, Int.add_comm, Int.add_mul_emod_self_right, Int.emod_eq_of_lt hr.1 hr.2, ih]
/-! ### how many numbers have digits of some kinds -/
def allP : List (Int → Bool) → List Int → Bool
  | P :: Ps, d :: ds => P d && allP Ps ds
  | _, _ => true
def prodP (n : Int) : List (Int → Bool) → Nat
  | [] => 1
  | P :: Ps => ((ir 0 n).filter P).length * prodP n Ps
theorem ir_mul {n m : Int} (hn : 0 ≤ n) (hm : 0 ≤ m) : ir 0 (n * m) = (ir 0 n).flatMap fun d => (ir 0 m).map fun y => d * m + y := by
  obtain ⟨k, rfl⟩ : ∃ k : Nat, n = k := ⟨n.toNat, by omega⟩
  clear hn
  induction k with
  | zero => simp [ir]
  | succ k ih =>
    have e1 : ir 0 ((k + 1 : Nat) : Int) = ir 0 (k : Int) ++ [(k : Int)] := by
      rw [show ((k + 1 : Nat) : Int) = (k : Int) + 1 by omega, ir_snoc (by omega)]
    rw [e1, List.flatMap_append, ← ih]
    have e2 : ((k + 1 : Nat) : Int) * m = (k : Int) * m + m := by rw [show ((k + 1 : Nat) : Int) = (k : Int) + 1 by omega, Int.add_mul, Int.one_mul]
    have h0 : (0 : Int) ≤ (k : Int) * m := Int.mul_nonneg (by omega) hm
    rw [e2, ← ir_append h0 (show (k : Int) * m ≤ (k : Int) * m + m by omega)]
    congr 1
    rw [List.flatMap_cons, List.flatMap_nil, List.append_nil, ir_shift, Int.add_zero]
theorem sfx_head {n : Int} (hn : 0 < n) {k : Nat} {d y : Int} (hd : 0 ≤ d ∧ d < n) (hy : 0 ≤ y ∧ y < n ^ k) : sfx n (d * n ^ k + y) (k + 1) = d :: sfx n y k := by
  have hp := pow_pos' hn k
  show ((d * n ^ k + y) / n ^ k % n) :: sfx n (d * n ^ k + y) k = _
  congr 1
  · rw [Int.add_comm, Int.add_mul_ediv_right _ _ (by omega), Int.ediv_eq_zero_of_lt hy.1 hy.2, Int.zero_add, Int.emod_eq_of_lt hd.1 hd.2]
  · rw [← sfx_mod hn _ k k (Nat.le_refl _), Int.add_comm, Int.add_mul_emod_self_right, Int.emod_eq_of_lt hy.1 hy.2]
theorem sum_ite_len {α : Type} (P : α → Bool) (c : Nat) : ∀ l : List α, (l.map fun d => if P d then c else 0).sum = (l.filter P).length * c
  | [] => by rw [List.map_nil, List.sum_nil, List.filter_nil, List.length_nil, Nat.zero_mul]
  | a :: l => by
    rw [List.map_cons, List.sum_cons, sum_ite_len P c l]
    by_cases h : P a = true
    · rw [List.filter_cons_of_pos h, List.length_cons, Nat.succ_mul, Nat.add_comm, if_pos h]
    · rw [List.filter_cons_of_neg h, if_neg h, Nat.zero_add]
theorem count_digits {n : Int} (hn : 0 < n) : ∀ Ps : List (Int → Bool), ((ir 0 (n ^ Ps.length)).filter fun x => allP Ps (sfx n x Ps.length)).length = prodP n Ps
  | [] => by
    show ((ir 0 (n ^ 0)).filter fun x => true).length = 1
    rw [Int.pow_zero]
    rfl
  | P :: Ps => by
    have ih := count_digits hn Ps
    have hp := pow_pos' hn Ps.length
    rw [List.length_cons, Int.pow_succ, Int.mul_comm, ir_mul (Int.le_of_lt hn) (Int.le_of_lt hp), List.filter_flatMap, List.length_flatMap]
    have e : ∀ d ∈ ir 0 n, (((ir 0 (n ^ Ps.length)).map fun y => d * n ^ Ps.length + y).filter fun x => allP (P :: Ps) (sfx n x (Ps.length + 1))).length = if P d then prodP n Ps else 0 := by
      intro d hd
      have hd := mem_ir.mp hd
      rw [List.filter_map, List.length_map]
      have e2 : ((ir 0 (n ^ Ps.length)).filter ((fun x => allP (P :: Ps) (sfx n x (Ps.length + 1))) ∘ fun y => d * n ^ Ps.length + y)) = (ir 0 (n ^ Ps.length)).filter fun y => P d && allP Ps (sfx n y Ps.length) := by
        refine List.filter_congr fun y hy => ?_
        have hy := mem_ir.mp hy
        show allP (P :: Ps) (sfx n (d * n ^ Ps.length + y) (Ps.length + 1)) = _
        rw [sfx_head hn hd hy]
        rfl
      rw [e2]
      cases P d
      · simp
      · simpa using ih
    rw [List.map_congr_left e, sum_ite_len]
    rfl
theorem map_nth {α : Type} [Inhabited α] (l : List α) : (ir 0 (l.length : Int)).map (nth l) = l := by
  apply List.ext_getElem
  · rw [List.length_map, len_ir]; omega
  · intro i h1 h2
    rw [List.getElem_map]
    have : (ir 0 (l.length : Int))[i]'(by rw [List.length_map] at h1; exact h1) = (i : Int) := by
      unfold ir
      rw [List.getElem_map, List.getElem_range]
      omega
    rw [this]
    unfold nth
    rw [List.getD_eq_getElem?_getD, Int.toNat_natCast, List.getElem?_eq_getElem h2]
    rfl
theorem count_nth {α : Type} [Inhabited α] (l : List α) (P : α → Bool) : ((ir 0 (l.length : Int)).filter fun d => P (nth l d)).length = (l.filter P).length := by
  have h := map_nth l
  have e : (l.filter P).length = (((ir 0 (l.length : Int)).map (nth l)).filter P).length := by rw [h]
  rw [e, List.filter_map, List.length_map]
  rfl
/-! ### looks -/
def lookL (l : List Int) (f : List Int × List Int) : List Int := waL (woL l f.1) f.2
theorem mem_lookL {l : List Int} {f : List Int × List Int} {x : Int} : x ∈ lookL l f ↔ (x ∈ l ∧ x ∉ f.1) ∨ x ∈ f.2 := by
  unfold lookL
  rw [mem_waL, mem_woL]
theorem lookL_lot {b : Int} {l : List Int} {f : List Int × List Int} (h : Lot b l) (hf : Lot b f.2) : Lot b (lookL l f) := waL_lot (woL_lot h) hf
/-- how a number looks -/
def seenL (ls : List (List Int)) (fs : List (List Int × List Int)) (ds : List Int) : List (List Int) := (ds.zip fs).map fun p => lookL (nth ls p.1) p.2
theorem seenL_cons (ls : List (List Int)) (f : List Int × List Int) (fs : List (List Int × List Int)) (d : Int) (ds : List Int) : seenL ls (f :: fs) (d :: ds) = lookL (nth ls d) f :: seenL ls fs ds := rfl
theorem seenL_eq (ls : List (List Int)) : ∀ (fs : List (List Int × List Int)) (ds : List Int) (ms : List (List Int)), ds.length = fs.length → ms.length = fs.length →
    decide (seenL ls fs ds = ms) = allP ((fs.zip ms).map fun p => fun d => decide (lookL (nth ls d) p.1 = p.2)) ds
  | [], [], [], _, _ => by simp [seenL, allP]
  | f :: fs, d :: ds, m :: ms, h1, h2 => by
    have ih := seenL_eq ls fs ds ms (by simpa using h1) (by simpa using h2)
    rw [seenL_cons, List.zip_cons_cons, List.map_cons]
    show _ = (decide (lookL (nth ls d) f = m) && allP ((fs.zip ms).map fun p => fun d => decide (lookL (nth ls d) p.1 = p.2)) ds)
    rw [← ih, ← Bool.decide_and, decide_eq_decide, List.cons.injEq]
  | [], _ :: _, _, h, _ => by cases h
  | [], [], _ :: _, _, h => by cases h
  | _ :: _, [], _, h, _ => by cases h
  | _ :: _, _ :: _, [], _, h => by cases h
structure Fts (b : Int) (q : Int) (fs : List (List Int × List Int)) : Prop where
  len : (fs.length : Int) = q
  pf : ∀ f ∈ fs, Pf b f
abbrev fsD (fs : List (List Int × List Int)) : D := .tup (fs.map pfD)
end DB
set_option maxHeartbeats 4000000
namespace K06
open PySem DB
def G_MOST_BARS : D := (.int 12)
def G_LEAST_GLYPHS : D := (.int 2)
def G_MOST_GLYPHS : D := (.int 16)
def G_MOST_PLACES : D := (.int 4)
def G_MOST_REACH : D := (.int 4096)
def B__law_below : Ss :=
  (.cons (.iff (.cmp .gt (.ix (.v 0) (.k (.int 0))) (.k (.int 0))) (.cons (.asgT (.t (.cons (.ix (.v 0) (.k (.int 0))) (.cons (.n 2) .nil))) (.bi .divmod (.cons (.ix (.v 0) (.k (.int 0))) (.cons (.v 1) .nil))))
  (.cons (.ret (.v 2))
  .nil)) .nil)
  (.cons (.asgT (.ix (.v 0) (.k (.int 2))) (.bin .add (.ix (.v 0) (.k (.int 2))) (.k (.int 1))))
  (.cons (.asg false 3 (.bin .mod (.bi .int (.cons (.bin .add (.bin .add (.bin .mul (.ix (.v 0) (.k (.int 1))) (.k (.int 37501))) (.bin .mul (.k (.int 7705)) (.ix (.v 0) (.k (.int 2))))) (.k (.int 71))) .nil)) (.k (.int 2147483563))))
  (.cons (.asgT (.ix (.v 0) (.k (.int 1))) (.bin .mod (.bi .int (.cons (.bin .add (.bin .mul (.v 3) (.bin .add (.bin .mod (.bi .int (.cons (.v 3) .nil)) (.k (.int 3989))) (.k (.int 17475)))) (.ix (.v 0) (.k (.int 2)))) .nil)) (.k (.int 2147483563))))
  (.cons (.ret (.bin .mod (.bi .int (.cons (.bin .fdiv (.ix (.v 0) (.k (.int 1))) (.k (.int 359))) .nil)) (.v 1)))
  .nil)))))
def F__law_below : Fn := .mk 4 [true, false] B__law_below
def tg__law_lot_0 : Tg :=
  (.n 2)
def cd__law_lot_0 : Ts :=
  (.cons (.cmp .eq (.call F__law_below 0 (.cons (.v 0) (.cons (.k (.int 2)) .nil))) (.k (.int 0))) .nil)
def el__law_lot_0 : E :=
  (.v 2)
def B__law_lot : Ss :=
  (.cons (.ret (.bi .tuple (.cons (.comp (tg__law_lot_0) (.rng (.cons (.v 1) .nil)) (cd__law_lot_0) (el__law_lot_0)) .nil)))
  .nil)
def F__law_lot : Fn := .mk 3 [true, false] B__law_lot
def ws__law_order_0 : List Nat :=
  [4]
def ft__law_order_0 : Tg :=
  (.n 4)
def fb__law_order_0 : Ss :=
  (.cons (.ex (.mth .append (.v 3) (.cons (.mth .popi (.v 2) (.cons (.call F__law_below 0 (.cons (.v 0) (.cons (.bi .len (.cons (.v 2) .nil)) .nil))) .nil)) .nil)))
  .nil)
def B__law_order : Ss :=
  (.cons (.par [(2, true), (3, true)] (.cons (.bi .list (.cons (.v 1) .nil)) (.cons (.lst .nil) .nil)))
  (.cons (.for ws__law_order_0 (ft__law_order_0) (.rng (.cons (.bi .len (.cons (.v 2) .nil)) .nil)) (fb__law_order_0))
  (.cons (.ret (.bi .tuple (.cons (.v 3) .nil)))
  .nil)))
def F__law_order : Fn := .mk 5 [true, false] B__law_order
def ws__law_table_0 : List Nat :=
  [5, 6]
def ft__law_table_0 : Tg :=
  (.n 5)
def fb__law_table_0 : Ss :=
  (.cons (.asg false 6 (.call F__law_lot 1 (.cons (.v 0) (.cons (.v 3) .nil))))
  (.cons (.asg false 4 (.bin .add (.v 4) (.ite (.cmp .nmem (.v 6) (.v 4)) (.lst (.cons (.v 6) .nil)) (.lst .nil))))
  .nil))
def ws__law_table_1 : List Nat :=
  [6]
def ft__law_table_1 : Tg :=
  (.n 6)
def fb__law_table_1 : Ss :=
  (.cons (.asg false 4 (.bin .add (.v 4) (.ite (.and (.cons (.cmp .nmem (.v 6) (.v 4)) (.cons (.cmp .lt (.bi .len (.cons (.v 4) .nil)) (.k (.int 2))) .nil))) (.lst (.cons (.v 6) .nil)) (.lst .nil))))
  .nil)
def B__law_table : Ss :=
  (.cons (.par [(3, false), (4, false)] (.cons (.bin .add (.k (.int 1)) (.call F__law_below 0 (.cons (.v 0) (.cons (.v 1) .nil)))) (.cons (.lst .nil) .nil)))
  (.cons (.for ws__law_table_0 (ft__law_table_0) (.rng (.cons (.bin .add (.k (.int 2)) (.call F__law_below 0 (.cons (.v 0) (.cons (.bin .sub (.v 2) (.k (.int 1))) .nil)))) .nil)) (fb__law_table_0))
  (.cons (.for ws__law_table_1 (ft__law_table_1) (.seq (.tup (.cons (.tup (.cons (.k (.int 0)) .nil)) (.cons (.tup .nil) .nil)))) (fb__law_table_1))
  (.cons (.ret (.tup (.cons (.v 3) (.cons (.call F__law_order 2 (.cons (.v 0) (.cons (.v 4) .nil))) .nil))))
  .nil))))
def F__law_table : Fn := .mk 7 [true, false, false] B__law_table
def ws__law_display_0 : List Nat :=
  [8]
def ft__law_display_0 : Tg :=
  (.n 8)
def fb__law_display_0 : Ss :=
  (.cons (.asg false 7 (.bin .mul (.v 7) (.bi .len (.cons (.ix (.v 4) (.k (.int 1))) .nil))))
  .nil)
def ws__law_display_1 : List Nat :=
  [6, 7, 8]
def ft__law_display_1 : Tg :=
  (.n 6)
def fb__law_display_1 : Ss :=
  (.cons (.asg false 7 (.k (.int 1)))
  (.cons (.for ws__law_display_0 (ft__law_display_0) (.rng (.cons (.bin .add (.v 5) (.k (.int 1))) .nil)) (fb__law_display_0))
  (.cons (.asg false 5 (.ite (.cmp .le (.v 7) (.v 3)) (.bin .add (.v 5) (.k (.int 1))) (.v 5)))
  .nil)))
def B__law_display : Ss :=
  (.cons (.par [(4, false), (5, false)] (.cons (.call F__law_table 3 (.cons (.v 0) (.cons (.v 1) (.cons (.v 2) .nil)))) (.cons (.k (.int 1)) .nil)))
  (.cons (.for ws__law_display_1 (ft__law_display_1) (.rng (.cons (.call F__law_below 0 (.cons (.v 0) (.cons (.k (.int 4)) .nil))) .nil)) (fb__law_display_1))
  (.cons (.ret (.tup (.cons (.v 4) (.cons (.v 5) .nil))))
  .nil)))
def F__law_display : Fn := .mk 9 [true, false, false, false] B__law_display
def ws_power_0 : List Nat :=
  [3]
def ft_power_0 : Tg :=
  (.n 3)
def fb_power_0 : Ss :=
  (.cons (.asg false 2 (.bin .mul (.v 2) (.v 0)))
  .nil)
def B_power : Ss :=
  (.cons (.asg false 2 (.k (.int 1)))
  (.cons (.for ws_power_0 (ft_power_0) (.rng (.cons (.v 1) .nil)) (fb_power_0))
  (.cons (.ret (.v 2))
  .nil)))
def F_power : Fn := .mk 4 [false, false] B_power
def B_reach_of : Ss :=
  (.cons (.asgT (.t (.cons (.n 1) (.cons (.n 2) .nil))) (.v 0))
  (.cons (.ret (.call F_power 5 (.cons (.bi .len (.cons (.ix (.v 1) (.k (.int 1))) .nil)) (.cons (.v 2) .nil))))
  .nil))
def F_reach_of : Fn := .mk 3 [false] B_reach_of
def B_is_tuple_up_to : Ss :=
  (.cons (.ret (.and (.cons (.isI "tuple" (.v 0)) (.cons (.chain .le .le (.v 1) (.bi .len (.cons (.v 0) .nil)) (.v 2)) .nil))))
  .nil)
def F_is_tuple_up_to : Fn := .mk 3 [false, false, false] B_is_tuple_up_to
def B_is_tuple_of : Ss :=
  (.cons (.ret (.call F_is_tuple_up_to 7 (.cons (.v 0) (.cons (.v 1) (.cons (.v 1) .nil)))))
  .nil)
def F_is_tuple_of : Fn := .mk 2 [false, false] B_is_tuple_of
def B_is_pair : Ss :=
  (.cons (.ret (.call F_is_tuple_of 8 (.cons (.v 0) (.cons (.k (.int 2)) .nil))))
  .nil)
def F_is_pair : Fn := .mk 1 [false] B_is_pair
def B_are_unlike : Ss :=
  (.cons (.ret (.bi .all (.cons (.compp (.t (.cons (.n 1) (.cons (.n 2) .nil))) (.enum (.v 0)) .nil (.cmp .nmem (.v 2) (.sl (.v 0) .nil (.cons (.v 1) .nil)))) .nil)))
  .nil)
def F_are_unlike : Fn := .mk 3 [false] B_are_unlike
def B_is_whole : Ss :=
  (.cons (.ret (.and (.cons (.isI "int" (.v 0)) (.cons (.not (.isI "bool" (.v 0))) .nil))))
  .nil)
def F_is_whole : Fn := .mk 1 [false] B_is_whole
def B_is_between : Ss :=
  (.cons (.ret (.and (.cons (.call F_is_whole 11 (.cons (.v 0) .nil)) (.cons (.chain .le .le (.v 1) (.v 0) (.v 2)) .nil))))
  .nil)
def F_is_between : Fn := .mk 3 [false, false, false] B_is_between
def B_are_rising : Ss :=
  (.cons (.ret (.bi .all (.cons (.compp (.t (.cons (.n 1) (.cons (.n 2) .nil))) (.zip (.v 0) (.sl (.v 0) (.cons (.k (.int 1)) .nil) .nil)) .nil (.cmp .lt (.v 1) (.v 2))) .nil)))
  .nil)
def F_are_rising : Fn := .mk 3 [false] B_are_rising
def B_is_up_to : Ss :=
  (.cons (.ret (.call F_is_between 12 (.cons (.v 0) (.cons (.k (.int 0)) (.cons (.v 1) .nil)))))
  .nil)
def F_is_up_to : Fn := .mk 2 [false, false] B_is_up_to
def B_is_lot_of : Ss :=
  (.cons (.iff (.or (.cons (.not (.val (.call F_is_tuple_up_to 7 (.cons (.v 1) (.cons (.k (.int 0)) (.cons (.v 0) .nil)))))) (.cons (.not (.val (.bi .all (.cons (.compp (.n 2) (.seq (.v 1)) .nil (.call F_is_up_to 14 (.cons (.v 2) (.cons (.bin .sub (.v 0) (.k (.int 1))) .nil)))) .nil)))) .nil))) (.cons (.ret (.k (.bl false)))
  .nil) .nil)
  (.cons (.ret (.call F_are_rising 13 (.cons (.v 1) .nil)))
  .nil))
def F_is_lot_of : Fn := .mk 3 [false, false] B_is_lot_of
def B_is_table_of : Ss :=
  (.cons (.iff (.or (.cons (.not (.val (.call F_is_pair 9 (.cons (.v 0) .nil)))) (.cons (.not (.val (.call F_is_between 12 (.cons (.ix (.v 0) (.k (.int 0))) (.cons (.k (.int 1)) (.cons (.glob "MOST_BARS" G_MOST_BARS) .nil)))))) .nil))) (.cons (.ret (.k (.bl false)))
  .nil) .nil)
  (.cons (.iff (.not (.val (.call F_is_tuple_up_to 7 (.cons (.ix (.v 0) (.k (.int 1))) (.cons (.glob "LEAST_GLYPHS" G_LEAST_GLYPHS) (.cons (.glob "MOST_GLYPHS" G_MOST_GLYPHS) .nil)))))) (.cons (.ret (.k (.bl false)))
  .nil) .nil)
  (.cons (.ret (.and (.cons (.bi .all (.cons (.compp (.n 1) (.seq (.ix (.v 0) (.k (.int 1)))) .nil (.call F_is_lot_of 15 (.cons (.ix (.v 0) (.k (.int 0))) (.cons (.v 1) .nil)))) .nil)) (.cons (.call F_are_unlike 10 (.cons (.ix (.v 0) (.k (.int 1))) .nil)) .nil))))
  .nil)))
def F_is_table_of : Fn := .mk 2 [false] B_is_table_of
def B_is_display_of : Ss :=
  (.cons (.iff (.or (.cons (.not (.val (.call F_is_pair 9 (.cons (.v 0) .nil)))) (.cons (.not (.val (.call F_is_table_of 16 (.cons (.ix (.v 0) (.k (.int 0))) .nil)))) (.cons (.not (.val (.call F_is_between 12 (.cons (.ix (.v 0) (.k (.int 1))) (.cons (.k (.int 1)) (.cons (.glob "MOST_PLACES" G_MOST_PLACES) .nil)))))) .nil)))) (.cons (.ret (.k (.bl false)))
  .nil) .nil)
  (.cons (.ret (.cmp .le (.call F_reach_of 6 (.cons (.v 0) .nil)) (.glob "MOST_REACH" G_MOST_REACH)))
  .nil))
def F_is_display_of : Fn := .mk 1 [false] B_is_display_of
def B_check_display : Ss :=
  (.cons (.iff (.not (.val (.call F_is_display_of 17 (.cons (.v 0) .nil)))) (.cons .rai
  .nil) .nil)
  .nil)
def F_check_display : Fn := .mk 1 [false] B_check_display
def B_reach_by : Ss :=
  (.cons (.ret (.call F_reach_of 6 (.cons (.v 0) .nil)))
  .nil)
def F_reach_by : Fn := .mk 1 [false] B_reach_by
def B_reach : Ss :=
  (.cons (.ex (.call F_check_display 18 (.cons (.v 0) .nil)))
  (.cons (.ret (.call F_reach_by 19 (.cons (.v 0) .nil)))
  .nil))
def F_reach : Fn := .mk 1 [false] B_reach
def B__law_same (self : Fn) : Ss :=
  (.cons (.iff (.isN false (.v 1)) (.cons (.ret (.isN false (.v 0)))
  .nil) .nil)
  (.cons (.iff (.val (.isI "bool" (.v 1))) (.cons (.ret (.and (.cons (.isI "bool" (.v 0)) (.cons (.cmp .eq (.v 0) (.v 1)) .nil))))
  .nil) .nil)
  (.cons (.iff (.val (.isI "int" (.v 1))) (.cons (.ret (.and (.cons (.isI "int" (.v 0)) (.cons (.not (.isI "bool" (.v 0))) (.cons (.cmp .eq (.v 0) (.v 1)) .nil)))))
  .nil) .nil)
  (.cons (.iff (.val (.isI "str" (.v 1))) (.cons (.ret (.and (.cons (.isI "str" (.v 0)) (.cons (.cmp .eq (.v 0) (.v 1)) .nil))))
  .nil) .nil)
  (.cons (.iff (.val (.isI "dict" (.v 1))) (.cons (.iff (.or (.cons (.not (.val (.isI "dict" (.v 0)))) (.cons (.cmp .ne (.bi .len (.cons (.v 0) .nil)) (.bi .len (.cons (.v 1) .nil))) .nil))) (.cons (.ret (.k (.bl false)))
  .nil) .nil)
  (.cons (.ret (.bi .all (.cons (.compp (.n 2) (.seq (.v 1)) .nil (.and (.cons (.cmp .mem (.v 2) (.v 0)) (.cons (.call self 21 (.cons (.ix (.v 0) (.v 2)) (.cons (.ix (.v 1) (.v 2)) .nil))) .nil)))) .nil)))
  .nil)) .nil)
  (.cons (.iff (.or (.cons (.cmp .ne (.isI "tuple" (.v 1)) (.isI "tuple" (.v 0))) (.cons (.cmp .ne (.isI "list" (.v 1)) (.isI "list" (.v 0))) .nil))) (.cons (.ret (.k (.bl false)))
  .nil) .nil)
  (.cons (.ret (.and (.cons (.cmp .eq (.bi .len (.cons (.v 0) .nil)) (.bi .len (.cons (.v 1) .nil))) (.cons (.bi .all (.cons (.compp (.t (.cons (.n 3) (.cons (.n 4) .nil))) (.zip (.v 0) (.v 1)) .nil (.call self 21 (.cons (.v 3) (.cons (.v 4) .nil)))) .nil)) .nil))))
  .nil)))))))
def F__law_same : Nat → Fn
  | 0 => .no
  | n + 1 => .mk 5 [false, false] (B__law_same (F__law_same n))
def B_is_display : Ss :=
  (.cons (.ret (.call F_is_display_of 17 (.cons (.v 0) .nil)))
  .nil)
def F_is_display : Fn := .mk 1 [false] B_is_display
def ws__law_reach_0 : List Nat :=
  [2]
def ft__law_reach_0 : Tg :=
  (.n 2)
def fb__law_reach_0 : Ss :=
  (.cons (.asg false 1 (.bin .mul (.v 1) (.bi .len (.cons (.ix (.ix (.v 0) (.k (.int 0))) (.k (.int 1))) .nil))))
  .nil)
def B__law_reach : Ss :=
  (.cons (.asg false 1 (.k (.int 1)))
  (.cons (.for ws__law_reach_0 (ft__law_reach_0) (.rng (.cons (.ix (.v 0) (.k (.int 1))) .nil)) (fb__law_reach_0))
  (.cons (.ret (.v 1))
  .nil)))
def F__law_reach : Fn := .mk 3 [false] B__law_reach
def B__law_one : Ss :=
  (.cons (.ret (.ix (.v 1) (.call F__law_below 0 (.cons (.v 0) (.cons (.bi .len (.cons (.v 1) .nil)) .nil)))))
  .nil)
def F__law_one : Fn := .mk 2 [true, false] B__law_one
def B__law_thing : Ss :=
  (.cons (.ret (.call F__law_one 24 (.cons (.v 0) (.cons (.tup (.cons (.k .non) (.cons (.k (.bl true)) (.cons (.k (.bl false)) (.cons (.neg (.k (.int 1))) (.cons (.k (.str "")) (.cons (.k (.str "3")) (.cons (.k (.str "free")) (.cons (.lst .nil) (.cons (.lst (.cons (.k (.int 1)) .nil)) (.cons (.dctk [] []) (.cons (.dctk [(.str "a")] [(.int 1)]) (.cons (.tup (.cons (.k .non) .nil)) (.cons (.tup (.cons (.tup (.cons (.tup (.cons (.tup (.cons (.k (.int 5)) .nil)) .nil)) .nil)) .nil)) (.cons (.tup (.cons (.k (.bl true)) .nil)) (.cons (.k (.int 4)) (.cons (.k (.int 5)) (.cons (.lst (.cons (.tup (.cons (.k (.int 1)) (.cons (.k (.int 2)) .nil))) .nil)) (.cons (.bin .pow (.k (.int 10)) (.k (.int 29))) (.cons (.neg (.k (.int 5))) (.cons (.tup (.cons (.k (.str "ann")) .nil)) (.cons (.tup (.cons (.tup .nil) .nil)) (.cons (.k (.str "a b")) (.cons (.k (.str "create\n")) (.cons (.k (.str "Create")) (.cons (.k (.str "create ")) (.cons (.tup (.cons (.k (.int 1)) (.cons (.k (.int 2)) (.cons (.k (.int 3)) (.cons (.k (.int 4)) .nil))))) (.cons (.tup (.cons (.k (.str "lost")) .nil)) .nil)))))))))))))))))))))))))))) .nil))))
  .nil)
def F__law_thing : Fn := .mk 1 [true] B__law_thing
def B__law_bent_tables : Ss :=
  (.cons (.asgT (.t (.cons (.n 2) (.cons (.n 3) .nil))) (.v 1))
  (.cons (.asg false 4 (.call F__law_below 0 (.cons (.v 0) (.cons (.bi .len (.cons (.v 3) .nil)) .nil))))
  (.cons (.asg false 5 (.ix (.v 3) (.v 4)))
  (.cons (.asg false 6 (.lst (.cons (.v 1) (.cons (.bi .list (.cons (.v 1) .nil)) (.cons (.tup (.cons (.v 2) .nil)) (.cons (.tup (.cons (.v 2) (.cons (.v 3) (.cons (.k (.int 0)) .nil)))) (.cons (.tup (.cons (.v 3) (.cons (.v 2) .nil))) (.cons (.tup (.cons (.k (.int 0)) (.cons (.v 3) .nil))) (.cons (.tup (.cons (.k (.int 13)) (.cons (.v 3) .nil))) (.cons (.tup (.cons (.k (.bl true)) (.cons (.v 3) .nil))) .nil))))))))))
  (.cons (.asg false 6 (.bin .add (.v 6) (.lst (.cons (.tup (.cons (.bin .sub (.v 2) (.k (.int 1))) (.cons (.v 3) .nil))) (.cons (.tup (.cons (.bin .add (.v 2) (.k (.int 1))) (.cons (.v 3) .nil))) (.cons (.tup (.cons (.v 2) (.cons (.bi .list (.cons (.v 3) .nil)) .nil))) (.cons (.tup (.cons (.v 2) (.cons (.sl (.v 3) .nil (.cons (.k (.int 1)) .nil)) .nil))) (.cons (.tup (.cons (.v 2) (.cons (.tup .nil) .nil))) .nil))))))))
  (.cons (.asg false 6 (.bin .add (.v 6) (.lst (.cons (.tup (.cons (.v 2) (.cons (.bin .add (.v 3) (.sl (.v 3) .nil (.cons (.k (.int 1)) .nil))) .nil))) (.cons (.tup (.cons (.v 2) (.cons (.sl (.bin .mul (.v 3) (.k (.int 9))) .nil (.cons (.k (.int 17)) .nil)) .nil))) (.cons (.k .non) (.cons (.tup .nil) (.cons (.k (.int 5)) (.cons (.dctk [] []) (.cons (.k (.str "")) (.cons (.tup (.cons (.bi .str (.cons (.v 2) .nil)) (.cons (.v 3) .nil))) (.cons (.tup (.cons (.k .non) (.cons (.v 3) .nil))) .nil))))))))))))
  (.cons (.asg false 7 (.tup (.cons (.bi .list (.cons (.v 5) .nil)) (.cons (.sls (-1) (.v 5)) (.cons (.bin .add (.v 5) (.tup (.cons (.v 2) .nil))) (.cons (.bin .add (.v 5) (.sl (.v 5) (.cons (.neg (.k (.int 1))) .nil) .nil)) (.cons (.tup (.cons (.neg (.k (.int 1))) .nil)) (.cons (.tup (.cons (.k (.bl true)) .nil)) (.cons (.k .non) (.cons (.k (.int 0)) (.cons (.tup (.cons (.k (.str "0")) .nil)) (.cons (.bin .add (.v 5) (.tup (.cons (.k .non) .nil))) .nil))))))))))))
  (.cons (.ret (.bin .add (.v 6) (.compp (.n 8) (.seq (.v 7)) .nil (.tup (.cons (.v 2) (.cons (.bin .add (.bin .add (.sl (.v 3) .nil (.cons (.v 4) .nil)) (.tup (.cons (.v 8) .nil))) (.sl (.v 3) (.cons (.bin .add (.v 4) (.k (.int 1))) .nil) .nil)) .nil))))))
  .nil))))))))
def F__law_bent_tables : Fn := .mk 9 [true, false] B__law_bent_tables
def B__law_is_number : Ss :=
  (.cons (.ret (.and (.cons (.isI "int" (.v 0)) (.cons (.not (.isI "bool" (.v 0))) (.cons (.chain .le .le (.v 1) (.v 0) (.v 2)) .nil)))))
  .nil)
def F__law_is_number : Fn := .mk 3 [false, false, false] B__law_is_number
def B__law_is_lot : Ss :=
  (.cons (.ret (.and (.cons (.isI "tuple" (.v 1)) (.cons (.bi .all (.cons (.compp (.n 2) (.seq (.v 1)) .nil (.call F__law_is_number 27 (.cons (.v 2) (.cons (.k (.int 0)) (.cons (.bin .sub (.v 0) (.k (.int 1))) .nil))))) .nil)) (.cons (.cmp .eq (.bi .list (.cons (.v 1) .nil)) (.setw .sort (.v 1))) .nil)))))
  .nil)
def F__law_is_lot : Fn := .mk 3 [false, false] B__law_is_lot
def B__law_is_table : Ss :=
  (.cons (.iff (.or (.cons (.not (.val (.isI "tuple" (.v 0)))) (.cons (.cmp .ne (.bi .len (.cons (.v 0) .nil)) (.k (.int 2))) (.cons (.not (.val (.call F__law_is_number 27 (.cons (.ix (.v 0) (.k (.int 0))) (.cons (.k (.int 1)) (.cons (.k (.int 12)) .nil)))))) (.cons (.not (.val (.isI "tuple" (.ix (.v 0) (.k (.int 1)))))) (.cons (.not (.chain .lt .lt (.k (.int 1)) (.bi .len (.cons (.ix (.v 0) (.k (.int 1))) .nil)) (.k (.int 17)))) .nil)))))) (.cons (.ret (.k (.bl false)))
  .nil) .nil)
  (.cons (.ret (.and (.cons (.bi .all (.cons (.compp (.n 1) (.seq (.ix (.v 0) (.k (.int 1)))) .nil (.call F__law_is_lot 28 (.cons (.ix (.v 0) (.k (.int 0))) (.cons (.v 1) .nil)))) .nil)) (.cons (.cmp .eq (.setw .len (.ix (.v 0) (.k (.int 1)))) (.bi .len (.cons (.ix (.v 0) (.k (.int 1))) .nil))) .nil))))
  .nil))
def F__law_is_table : Fn := .mk 2 [false] B__law_is_table
def B__law_is_display : Ss :=
  (.cons (.ret (.and (.cons (.isI "tuple" (.v 0)) (.cons (.cmp .eq (.bi .len (.cons (.v 0) .nil)) (.k (.int 2))) (.cons (.call F__law_is_table 29 (.cons (.ix (.v 0) (.k (.int 0))) .nil)) (.cons (.call F__law_is_number 27 (.cons (.ix (.v 0) (.k (.int 1))) (.cons (.k (.int 1)) (.cons (.k (.int 4)) .nil)))) (.cons (.cmp .le (.call F__law_reach 23 (.cons (.v 0) .nil)) (.k (.int 4096))) .nil)))))))
  .nil)
def F__law_is_display : Fn := .mk 1 [false] B__law_is_display
def tg__law_right_0 : Tg :=
  (.n 7)
def cd__law_right_0 : Ts :=
  .nil
def el__law_right_0 : E :=
  (.tup (.cons (.v 7) (.cons (.v 4) .nil)))
def ws__law_right_1 : List Nat :=
  [8]
def ft__law_right_1 : Tg :=
  (.n 8)
def fb__law_right_1 : Ss :=
  (.cons (.iff (.not (.val (.call (F__law_same 12) 21 (.cons (.ite (.cmp .eq (.v 1) (.k (.int 1))) (.callK F_is_display 22 0 ["value"] [] [0] .nil (.cons (.v 8) .nil)) (.call F_is_display 22 (.cons (.v 8) .nil))) (.cons (.call F__law_is_display 30 (.cons (.v 8) .nil)) .nil))))) (.cons (.ret (.k (.bl false)))
  .nil) .nil)
  .nil)
def ws__law_right_2 : List Nat :=
  [1, 2, 3, 4, 5, 6, 8]
def ft__law_right_2 : Tg :=
  (.n 1)
def fb__law_right_2 : Ss :=
  (.cons (.asg false 2 (.call F__law_display 4 (.cons (.v 0) (.cons (.k (.int 12)) (.cons (.k (.int 16)) (.cons (.k (.int 4096)) .nil))))))
  (.cons (.asgT (.t (.cons (.n 3) (.cons (.n 4) .nil))) (.v 2))
  (.cons (.asg false 5 (.ite (.cmp .eq (.v 1) (.k (.int 1))) (.callK F_reach 20 0 ["display"] [] [0] .nil (.cons (.v 2) .nil)) (.call F_reach 20 (.cons (.v 2) .nil))))
  (.cons (.iff (.not (.val (.call (F__law_same 12) 21 (.cons (.v 5) (.cons (.call F__law_reach 23 (.cons (.v 2) .nil)) .nil))))) (.cons (.ret (.k (.bl false)))
  .nil) .nil)
  (.cons (.asg false 6 (.bin .add (.compp (.n 7) (.seq (.tup (.cons (.k (.int 0)) (.cons (.k (.int 1)) (.cons (.k (.int 2)) (.cons (.k (.int 3)) (.cons (.k (.int 4)) (.cons (.k (.int 5)) (.cons (.k (.bl true)) (.cons (.k .non) (.cons (.k (.str "1")) (.cons (.neg (.k (.int 1))) .nil)))))))))))) .nil (.tup (.cons (.v 3) (.cons (.v 7) .nil)))) (.comp (tg__law_right_0) (.seq (.call F__law_bent_tables 26 (.cons (.v 0) (.cons (.v 3) .nil)))) (cd__law_right_0) (el__law_right_0))))
  (.cons (.for ws__law_right_1 (ft__law_right_1) (.seq (.bin .add (.v 6) (.lst (.cons (.bi .list (.cons (.v 2) .nil)) (.cons (.tup (.cons (.v 3) .nil)) (.cons (.tup (.cons (.v 3) (.cons (.v 4) (.cons (.k (.int 0)) .nil)))) (.cons (.tup (.cons (.v 4) (.cons (.v 3) .nil))) (.cons (.v 3) (.cons (.k .non) (.cons (.tup .nil) (.cons (.k (.int 5)) (.cons (.dctk [] []) (.cons (.call F__law_thing 25 (.cons (.v 0) .nil)) .nil))))))))))))) (fb__law_right_1))
  .nil))))))
def B__law_right : Ss :=
  (.cons (.for ws__law_right_2 (ft__law_right_2) (.rng (.cons (.k (.int 20)) .nil)) (fb__law_right_2))
  (.cons (.asg false 9 (.tup (.cons (.k (.int 3)) (.cons (.bi .tuple (.cons (.compp (.n 10) (.rng (.cons (.k (.int 8)) .nil)) .nil (.bi .tuple (.cons (.compp (.n 11) (.rng (.cons (.k (.int 3)) .nil)) (.cons (.cmp .eq (.bin .mod (.bi .int (.cons (.bin .fdiv (.v 10) (.ix (.tup (.cons (.k (.int 1)) (.cons (.k (.int 2)) (.cons (.k (.int 4)) .nil)))) (.v 11))) .nil)) (.k (.int 2))) (.k (.int 1))) .nil) (.v 11)) .nil))) .nil)) .nil))))
  (.cons (.asg false 12 (.tup (.cons (.k (.int 4)) (.cons (.bin .add (.ix (.v 9) (.k (.int 1))) (.tup (.cons (.tup (.cons (.k (.int 3)) .nil)) .nil))) .nil))))
  (.cons (.ret (.cmp .eq (.lst (.cons (.call F_is_display 22 (.cons (.tup (.cons (.v 9) (.cons (.k (.int 4)) .nil))) .nil)) (.cons (.call F_reach 20 (.cons (.tup (.cons (.v 9) (.cons (.k (.int 4)) .nil))) .nil)) (.cons (.call F_is_display 22 (.cons (.tup (.cons (.v 12) (.cons (.k (.int 4)) .nil))) .nil)) (.cons (.call F_is_display 22 (.cons (.tup (.cons (.v 12) (.cons (.k (.int 3)) .nil))) .nil)) .nil))))) (.lst (.cons (.k (.bl true)) (.cons (.k (.int 4096)) (.cons (.k (.bl false)) (.cons (.k (.bl true)) .nil)))))))
  .nil))))
def F__law_right : Fn := .mk 13 [true] B__law_right
def ws__law_pool_0 : List Nat :=
  [4]
def ft__law_pool_0 : Tg :=
  (.n 4)
def fb__law_pool_0 : Ss :=
  (.cons (.asg false 3 (.bin .mod (.bi .int (.cons (.bin .add (.bin .add (.bin .mul (.v 3) (.k (.int 52005))) (.bin .mod (.bi .int (.cons (.v 4) .nil)) (.k (.int 2147483587)))) (.k (.int 55))) .nil)) (.k (.int 2147483647))))
  .nil)
def B__law_pool : Ss :=
  (.cons (.asg false 2 (.ite (.cmp .lt (.v 1) (.bi .len (.cons (.v 0) .nil))) (.bi .int (.cons (.ix (.v 0) (.v 1)) .nil)) (.bin .add (.bin .mul (.k (.int 9669)) (.v 1)) (.k (.int 101)))))
  (.cons (.asg false 3 (.bin .add (.k (.int 60309)) (.bin .mul (.k (.int 8349)) (.v 1))))
  (.cons (.for ws__law_pool_0 (ft__law_pool_0) (.seq (.sl (.v 0) .nil (.cons (.k (.int 12)) .nil))) (fb__law_pool_0))
  (.cons (.asg false 3 (.bin .mod (.bi .int (.cons (.bin .add (.bin .add (.bin .mul (.v 3) (.k (.int 65))) (.bin .mul (.bin .mod (.bi .int (.cons (.v 2) .nil)) (.k (.int 2147483587))) (.k (.int 20183)))) (.k (.int 11))) .nil)) (.k (.int 2147483647))))
  (.cons (.ret (.lst (.cons (.ite (.or (.cons (.cmp .lt (.v 2) (.k (.int 0))) (.cons (.cmp .ge (.v 2) (.bin .pow (.k (.int 10)) (.k (.int 15)))) .nil))) (.bin .mod (.bi .int (.cons (.bi .abs (.cons (.v 2) .nil)) .nil)) (.bin .pow (.k (.int 10)) (.k (.int 60)))) (.k (.int 0))) (.cons (.v 3) (.cons (.k (.int 0)) .nil)))))
  .nil)))))
def F__law_pool : Fn := .mk 5 [false, false] B__law_pool
def B_law : Ss :=
  (.cons (.ret (.bi .all (.cons (.compp (.n 1) (.rng (.cons (.bi .max (.cons (.k (.int 1)) (.cons (.bi .min (.cons (.bi .len (.cons (.v 0) .nil)) (.cons (.k (.int 2)) .nil))) .nil))) .nil)) .nil (.call F__law_right 31 (.cons (.call F__law_pool 32 (.cons (.v 0) (.cons (.v 1) .nil))) .nil))) .nil)))
  .nil)
def F_law : Fn := .mk 2 [false] B_law
end K06
section
set_option maxHeartbeats 1000000
open PySem DB
local macro_rules | `(tactic| simp! [$ls,*]) => `(tactic| simp -dsimp -implicitDefEqProofs (disch := first | assumption | omega | simp -implicitDefEqProofs only [isObj_non, isObj_bl, isObj_int, isObj_str, isObj_tup, isObj_lst, isObj_scr, isObj_dct, shp_non, shp_bl, shp_int, shp_tup, shp_lst, shps_nil, shps_cons, shps_ints, shps_bls, shps_lots, shps_fun, Bool.and_true]) only [↓vE_k, ↓vE_v, ↓vE_glob, ↓vE_bin, ↓vE_neg, ↓vE_cmp, ↓vE_dctk, ↓vE_repEq, ↓vE_chain, ↓vE_isN, ↓vE_and, ↓vE_or, ↓vE_not, ↓vE_ite, ↓vE_tup, ↓vE_lst, ↓vE_ix, ↓vE_sl, ↓vE_isI, ↓vE_call, ↓vE_callK, ↓vE_bi, ↓vE_comp, ↓vE_mth, ↓vE_lrng, ↓vE_compp, ↓vE_comp2, ↓vE_dcomp, ↓vE_dcomp2, ↓vE_tups, ↓vE_lsts, ↓vE_sls, ↓vE_isIs, ↓vE_isB, ↓vE_dct, ↓vE_setw, ↓vE_xorw, ↓vE_rm, ↓vE_rep, ↓vE_mk, ↓vE_fld, ↓vE_zip, ↓vEs_nil, ↓vEs_cons, ↓vDs_nil, ↓vDs_cons, ↓vStar_nil, ↓vStar_cons, ↓vStar_star, ↓vPart_nil, ↓vPart_cons, ↓vAnd_nil, ↓vAnd_cons, ↓vOr_nil, ↓vOr_cons, ↓vT_val, ↓vT_and, ↓vT_or, ↓vT_not, ↓vT_cmp, ↓vT_chain, ↓vT_isN, ↓vTAnd_nil, ↓vTAnd_cons, ↓vTOr_nil, ↓vTOr_cons, ↓vIt_seq, ↓vIt_rng, ↓vIt_enum, ↓vIt_zip, ↓vIt_zip3, ↓vTg_n, ↓vTg_t, ↓vTg_ix, ↓vTgs_nil, ↓vTgs_cons, ↓vS_asg, ↓vS_asgT, ↓vS_par, ↓vS_ex, ↓vS_ret, ↓vS_retN, ↓vS_iff, ↓vS_for, ↓vS_whl, ↓vS_rai, ↓vS_pass, ↓vS_brk, ↓vS_cont, ↓vSs_nil, ↓vSs_cons, ↓vSs_zr, ↓runV_mk, ↓runV_ini, ↓runV_no, stepL_rev, rev_map, lstG_lst, zip3B_t, zipD3_map, wp_ok, ↓wp_bnd, backM_pc, ↓bind_ap, pure_ap, ↓rbind_ok, rbind_err, rbind_no, opt_some, guard_true, guard_and, guard_dec, guard_len, guard_mul, guard_pow, use_dat, use_own, peek_dat, peek_own, peek_cel, live_cel, use_cel, celD_some, celL_some, celU_t, celU_f, write_ap, peeks_nil, ↓peeks_cons, uses_nil, ↓uses_cons, join_some, ↓ite_ap, ite_res, ite_dat, ite_own, ite_int, ite_bl, ite_tup, ite_lst, ite_some, ite_nx, ite_rt, ite_cons, ite_cel, ite_same, ite_map, ite_tf, ite_ft, ite_bf, ite_tb, thenF_nx, thenF_rt, thenF_bk, thenF_ct, thenF_ite, flowR_rt, flowR_nx, flowR_ite, isNonR_non, isNonR_int, isNonR_bl, isNonR_str, isNonR_tup, isNonR_lst, isNonR_dct, isNonR_own, isNonR_cell, isNonR_ite, negR_int, notR_bl, intR_int, blR_bl, isBR_bl, ↓fldR_obj, tgD_tup, bindA_nil, ↓bindA_dat, ↓bindA_own0, ↓bindA_cell, ↓bindA_own, celA_nil, celA_f, celA_t, locA_nil, locA_f, locA_t, backM_nil, backM_0, finL_dat, finL_own, finL_c0, finL_c1, finL_err, finL_ite, finP_dat, finP_own, finP_c1, finP_ite, endFn_dat, endFn_own, endFn_dat1, endFn_own1, endFn_dat2, endFn_own2, trim_nx, trim_ct, trim_bk, trim_rt, trim_ite, tk_t, below_nil, below_none, below_dat, below_cell, Nat.reduceLT, Nat.reduceLeDiff, Nat.zero_lt_succ, wipe_nil, wipe_cons, aftF_nx, aftF_ct, aftF_bk, aftF_rt, forM_nil, keep_ok, keep_ite, ↓mapP_map, ↓mapP_nil, seqO_mem, optS_some, fm_some, fm_ite, fm_ite', ↓flatB_mm, ↓flatB_mi, flat_map, ↓vzr_ap, ↓vcomp_ap, ↓vdcomp_ap, ↓vcomp2_ap, ↓vloop_ap, ↓vbody_ap, ty_obj, ty_int, ty_bool, ty_str, ty_tuple, ty_list, ty_dict, isW_non, isW_bl, isW_int, isW_str, isW_tup, isW_lst, isW_scr, isW_dct, isObj_non, isObj_bl, isObj_int, isObj_str, isObj_tup, isObj_lst, isObj_scr, isObj_dct, isInt_non, isInt_bl, isInt_int, isInt_str, isInt_tup, isInt_lst, isInt_scr, isInt_dct, isBl_non, isBl_bl, isBl_int, isBl_str, isBl_tup, isBl_lst, isBl_scr, isBl_dct, isStr_non, isStr_bl, isStr_int, isStr_str, isStr_tup, isStr_lst, isStr_scr, isStr_dct, isTup_non, isTup_bl, isTup_int, isTup_str, isTup_tup, isTup_lst, isTup_scr, isTup_dct, isLst_non, isLst_bl, isLst_int, isLst_str, isLst_tup, isLst_lst, isLst_scr, isLst_dct, isDct_non, isDct_bl, isDct_int, isDct_str, isDct_tup, isDct_lst, isDct_scr, isDct_dct, at_0, at_1, at_2, at_3, ix_tup, ix_lst, ix_scr, ix_dct, store1_dat, store1_cell, store1_own0, store1_own1, set3_0, set3_1, set3_2, isB_int, isT_tup, endFn_dat0, endFn_own0, cut_map, cutA_to, cutA_from, cutA_all, rng1, rng2, rngR_t, rngR_f, enumD_0, zipD_map, intsOf_map, intsOf_fun, intsOf_nil, blsOf_nil, setB_t, setB_l, blsOf_map, blsOf_fun, all_id, any_id, isEmpty_map, deq_int, deq_bl, deq_lot, deq_lots, deq_lint, deq_lbl, din_int, din_bl, din_lot, din_lots, din_lot0, din_lot1, deq_lot0, deq_lint0, bltn, arg1, arg2, lenB, allB, anyB, intB, absB, minB, maxB, tupB, lstB, dmB, sortB, sumB, minLB, maxLB, binop, cmpop, slB, truth, itemsOf, parM, ixSet, mthB, isTupD, stB, Tg.slots, Tgs.slots, permL, List.length_cons, List.length_nil, List.length_map, List.replicate, List.append_nil, List.cons_append, List.nil_append, List.getElem?_cons_zero, List.getElem?_cons_succ, List.set_cons_zero, List.set_cons_succ, List.filterMap_cons, List.filterMap_nil, List.any_cons, List.any_nil, List.map_cons, List.map_nil, List.map_map, Function.comp, List.map_append, List.take_succ_cons, List.take_zero, List.take_nil, Nat.sub_self, Nat.reduceAdd, Nat.reduceSub, Nat.add_zero, Nat.zero_add, if_true, if_false, Bool.false_eq_true, Bool.not_true, Bool.not_false, Bool.not_eq_true', decide_eq_true_eq, decide_eq_false_iff_not, decide_true, decide_false, Bool.and_true, Bool.true_and, Bool.and_false, Bool.false_and, Bool.or_true, Bool.true_or, Bool.or_false, Bool.false_or, Bool.and_eq_true, Bool.or_eq_true, beq_self_eq_true, Bool.decide_eq_true, Int.reduceLT, Int.reduceLE, Int.reduceEq, Int.reduceNe, Int.reduceNeg, Int.reduceAdd, Int.reduceSub, Int.reduceMul, Int.reduceToNat, Int.reducePow, Nat.reducePow, Int.toNat_natCast, Bool.decide_and, Bool.decide_or, decide_not, true_and, and_true, not_true, not_false_eq_true, Int.zero_add, Int.natCast_nonneg, Int.cast_ofNat_Int, List.all_nil, all_true, any_false, Bool.bne_false, Bool.bne_true, dec_self, or_self, and_self, false_and, and_false, or_false, false_or, $ls,*])
namespace K06
theorem below {m : Int} (hm : 0 < m ∧ m < 10 ^ 60) (p : PP) (L : Sto) {Q : R → Sto → Prop} {w : Wit Q} (h : ∀ f p', 0 ≤ f → f < m → Q (.dat (.int f)) (pc p' :: L)) : wp (runV F__law_below [.cell 0, .dat (.int m)] (pc p :: L)) Q w := by
  refine wp_run (as := [.int m]) rfl ?_
  obtain ⟨_, a, b, c, rfl, h0⟩ := p
  obtain ⟨hm, hm2⟩ := hm
  have h4 := abs4000 (Int.le_of_lt hm) hm2
  by_cases ha : 0 < a
  · simp! [B__law_below, ha, pc]
    exact ⟨_, ⟨[.int (a / m), .int b, .int c], a / m, b, c, rfl, Int.ediv_nonneg h0 (by omega)⟩, _, rfl, rfl, h _ _ (Int.emod_nonneg _ (by omega)) (Int.emod_lt_of_pos _ hm)⟩
  · simp! [B__law_below, ha, pc]
    exact ⟨_, ⟨[.int a, .int _, .int _], a, _, _, rfl, h0⟩, _, rfl, rfl, h _ _ (Int.emod_nonneg _ (by omega)) (Int.emod_lt_of_pos _ hm)⟩
theorem lot {b : Int} (hb : 0 ≤ b ∧ b ≤ 1000) (p : PP) (L : Sto) {Q : R → Sto → Prop} {w : Wit Q} (h : ∀ l p', Lot b l → Q (.dat (lotD l)) (pc p' :: L)) : wp (runV F__law_lot [.cell 0, .dat (.int b)] (pc p :: L)) Q w := by
  refine wp_run (as := [.int b]) rfl ?_
  simp! [B__law_lot]
  refine compM_poolF p (fun x hx p => ?_) fun ys p' hs => ?_
  · simp! [tg__law_lot_0, cd__law_lot_0, el__law_lot_0]
    refine below (by decide) p _ fun f p' h0 h1 => ?_
    by_cases hf : f = 0 <;> simp! [hf, el__law_lot_0] <;> exact ⟨⟨_, rfl⟩, by simp⟩
  · simp! []
    exact ⟨_, p', [], rfl, rfl, h ys p' ((Lot.ir b).sub hs)⟩
theorem order {α : Type} [Inhabited α] (f : α → D) {l : List α} (hz : l.length ≤ 1000) (p : PP) (L : Sto) {Q : R → Sto → Prop} {w : Wit Q} (h : ∀ m p', List.Perm m l → Q (.dat (.tup (m.map f))) (pc p' :: L)) : wp (runV F__law_order [.cell 0, .dat (.lst (l.map f))] (pc p :: L)) Q w := by
  refine wp_run (as := [.lst (l.map f)]) rfl ?_
  simp! [B__law_order, ws__law_order_0]
  refine forM_pst (σ := List α × List α) (E := fun _ => [some (.cell 0), some (.dat (.lst (l.map f))), some (.cell 1), some (.cell 2), none]) (S := fun t => [⟨.lst (t.1.map f), true⟩, ⟨.lst (t.2.map f), true⟩])
    (I := fun i t => t.1.length + i = l.length ∧ (t.2 ++ t.1).Perm l) p (l, []) ⟨rfl, by simp⟩ (fun i x t p hx ht => ?_) fun t p ht => ?_
  · obtain ⟨left, found⟩ := t
    obtain ⟨h1, h2⟩ := ht
    have hi : i < l.length := by
      have := (List.getElem?_eq_some_iff.mp hx).1
      rw [len_ir] at this
      omega
    have h3 := h2.length_eq
    simp only [List.length_append] at h1 h3
    simp! [ws__law_order_0, ft__law_order_0, fb__law_order_0]
    refine below (by omega) p _ fun k p' h0 hk => ?_
    have g1 : -(2 ^ 63) ≤ k := by omega
    have g2 : k < 2 ^ 63 := by omega
    have g3 : found.length < sizeLine := size_ok (by omega)
    have g4 : left[k.toNat]? = some left[k.toNat]! := by
      rw [List.getElem?_eq_getElem (by omega), getElem!_pos left k.toNat (by omega)]
    simp! [g1, g2, g3, ixN_nat, g4, List.getElem?_map, Option.map_some]
    refine ⟨(left.eraseIdx k.toNat, found ++ [left[k.toNat]!]), p', .inl trivial, by simp [eraseIdx_map], ?_, ?_⟩
    · simp only [List.length_eraseIdx]; split <;> omega
    · simp only [List.append_assoc]
      exact (List.Perm.append_left _ (erase_perm g4)).trans h2
  · obtain ⟨left, found⟩ := t
    obtain ⟨h1, h2⟩ := ht
    have : left = [] := by
      rw [len_ir] at h1
      simp only at h1
      exact List.eq_nil_of_length_eq_zero (by omega)
    subst this
    simp! []
    exact ⟨_, p, _, rfl, rfl, h found p (by simpa using h2)⟩
theorem table {mb mg : Int} (hb : 1 ≤ mb ∧ mb ≤ 100) (hg : 2 ≤ mg ∧ mg ≤ 100) (p : PP) (L : Sto) {Q : R → Sto → Prop} {w : Wit Q} (h : ∀ b ls p', Tb mb mg b ls → Q (.dat (tabD b ls)) (pc p' :: L)) : wp (runV F__law_table [.cell 0, .dat (.int mb), .dat (.int mg)] (pc p :: L)) Q w := by
  refine wp_run (as := [.int mb, .int mg]) rfl ?_
  simp! [B__law_table]
  refine below (by omega) p _ fun f p h0 h1 => ?_
  simp! []
  refine below (by omega) p _ fun g p h2 h3 => ?_
  simp! [ws__law_table_0]
  refine forM_pst (σ := List (List Int)) (E := fun ls => [some (.cell 0), some (.dat (.int mb)), some (.dat (.int mg)), some (.dat (.int (1 + f))), some (.dat (.lst (ls.map lotD))), none, none]) (S := fun _ => [])
    (I := fun i ls => (ls.Nodup ∧ ∀ m ∈ ls, Lot (1 + f) m) ∧ ls.length ≤ i) p [] ⟨⟨.nil, by simp⟩, Nat.le_refl _⟩ (fun i x ls p hx ht => ?_) fun ls p ht => ?_
  · have hi := (List.getElem?_eq_some_iff.mp hx).1
    rw [len_ir] at hi
    simp! [ws__law_table_0, ft__law_table_0, fb__law_table_0]
    refine lot (by omega) p _ fun l p hl => ?_
    obtain ⟨h4, h5, h6⟩ := addN_ok ht.1.1 ht.1.2 hl
    have h7 : ls.length + 1 ≤ 1000 := by have := ht.2; omega
    have h8 : ls.length ≤ 1000 := by omega
    by_cases hm : l ∈ ls <;> simp! [hm] <;> exact ⟨addN ls l, p, by simp [addN, hm], rfl, ⟨h4, h5⟩, by have := ht.2; omega⟩
  · have hz := ht.2
    rw [len_ir] at hz
    have hz2 : ls.length ≤ 1000 := by omega
    have hs : ∀ ls l, ls.length ≤ 1000 → vloop 1 [6] ft__law_table_1 fb__law_table_1 (lotD l) [some (.cell 0), some (.dat (.int mb)), some (.dat (.int mg)), some (.dat (.int (1 + f))), some (.dat (.lst (ls.map lotD))), none, none] [pc p] = .ok (.nx [some (.cell 0), some (.dat (.int mb)), some (.dat (.int mg)), some (.dat (.int (1 + f))), some (.dat (.lst ((addL ls l).map lotD))), none, none]) [pc p] := by
      intro ls l hl
      have h6 : ls.length + 1 ≤ 1000000 := by omega
      have h7 : ls.length ≤ 1000000 := by omega
      by_cases hm : l ∈ ls
      · simp! [hm, ft__law_table_1, fb__law_table_1, addL, false_and]
      · by_cases hl2 : (ls.length : Int) < 2 <;> simp! [hm, hl2, ft__law_table_1, fb__law_table_1, addL, and_self, and_false]
    have l0 : Lot (1 + f) [0] := ⟨by simp, by simp; omega⟩
    have ln : Lot (1 + f) [] := ⟨by simp, by simp⟩
    obtain ⟨a1, a2⟩ := addL_ok ht.1.1 ht.1.2 l0
    obtain ⟨a3, a4⟩ := addL_ok a1 a2 ln
    obtain ⟨a5, a6⟩ := addL_two ls
    have a7 : (addL ls [0]).length ≤ 1000 := by unfold addL; split; (simp; omega); omega
    simp! [ws__law_table_1]
    rw [show [D.tup [D.int 0], D.tup []] = [lotD [0], lotD []] from rfl, forM_cons, bind_ap, hs _ _ hz2, rbind_ok, aftF_nx, forM_cons, bind_ap, hs _ _ a7]
    simp! []
    refine order lotD (by omega) p _ fun m p hp => ?_
    simp! []
    exact ⟨_, p, _, rfl, rfl, h _ m p ⟨by omega, by omega, by rw [hp.length_eq]; exact a5, by rw [hp.length_eq]; omega, hp.nodup_iff.mpr a3, fun l hl => a4 l (hp.mem_iff.mp hl)⟩⟩
theorem power_run (b p : Int) (hb : 0 ≤ b ∧ b ≤ 1000) (hp : 0 ≤ p ∧ p ≤ 1000) (s : Sto) : runV F_power [.dat (.int b), .dat (.int p)] s = .ok (.dat (.int (powI b p))) s := by
  simp! [F_power, B_power, ws_power_0]
  rw [forM_fold (E := fun t => [some (.dat (.int b)), some (.dat (.int p)), some (.dat (.int t)), none]) (S := fun _ => []) (step := fun t _ => t * b) fun t x hx => by simp! [ft_power_0, fb_power_0]]
  simp! [foldl_pow, len_ir, Int.one_mul]
  simp [powI]
theorem display {mb mg hi : Int} (hb : 1 ≤ mb ∧ mb ≤ 100) (hg : 2 ≤ mg ∧ mg ≤ 100) (hh : mg ≤ hi ∧ hi ≤ 100000) (p : PP) (L : Sto) {Q : R → Sto → Prop} {w : Wit Q}
    (h : ∀ b ls q p', Tb mb mg b ls → 1 ≤ q → q ≤ 4 → powI ls.length q ≤ hi → Q (.dat (dspD b ls q)) (pc p' :: L)) : wp (runV F__law_display [.cell 0, .dat (.int mb), .dat (.int mg), .dat (.int hi)] (pc p :: L)) Q w := by
  refine wp_run (as := [.int mb, .int mg, .int hi]) rfl ?_
  simp! [B__law_display]
  refine table hb hg p _ fun b ls p ht => ?_
  simp! []
  refine below (by decide) p _ fun f p h0 h1 => ?_
  simp! [ws__law_display_1]
  have hl2 := ht.two
  have hm := ht.most
  refine forM_pst (σ := Int) (E := fun q => [some (.cell 0), some (.dat (.int mb)), some (.dat (.int mg)), some (.dat (.int hi)), some (.dat (tabD b ls)), some (.dat (.int q)), none, none, none]) (S := fun _ => [])
    (I := fun i q => (1 ≤ q ∧ q ≤ i + 1) ∧ powI ls.length q ≤ hi) p 1 ⟨⟨Int.le_refl _, by simp⟩, by simp [powI, Int.pow_succ]; omega⟩ (fun i x q p hx hi' => ?_) fun q p hi' => ?_
  · obtain ⟨⟨q1, q2⟩, q3⟩ := hi'
    have hii := (List.getElem?_eq_some_iff.mp hx).1
    rw [len_ir] at hii
    have e1 : DB.forM (vloop 1 [8] ft__law_display_0 fb__law_display_0) (List.map D.int (ir 0 (q + 1))) [some (.cell 0), some (.dat (.int mb)), some (.dat (.int mg)), some (.dat (.int hi)), some (.dat (tabD b ls)), some (.dat (.int q)), some (.dat (.int x)), some (.dat (.int 1)), none] [pc p] =
        .ok (.nx [some (.cell 0), some (.dat (.int mb)), some (.dat (.int mg)), some (.dat (.int hi)), some (.dat (tabD b ls)), some (.dat (.int q)), some (.dat (.int x)), some (.dat (.int (powI ls.length (q + 1)))), none]) [pc p] := by
      rw [forM_fold (E := fun w => [some (.cell 0), some (.dat (.int mb)), some (.dat (.int mg)), some (.dat (.int hi)), some (.dat (tabD b ls)), some (.dat (.int q)), some (.dat (.int x)), some (.dat (.int w)), none]) (S := fun _ => [pc p]) (step := fun w _ => w * (ls.length : Int)) fun t x hx => by simp! [ft__law_display_0, fb__law_display_0]]
      rw [foldl_pow, len_ir, Int.one_mul, Int.sub_zero]
      rfl
    simp! [ft__law_display_1, fb__law_display_1, ws__law_display_0, e1]
    by_cases hw : powI ls.length (q + 1) ≤ hi
    · exact ⟨q + 1, p, by simp [hw], rfl, ⟨by omega, by omega⟩, hw⟩
    · exact ⟨q, p, by simp [hw], rfl, ⟨by omega, by omega⟩, q3⟩
  · obtain ⟨⟨q1, q2⟩, q3⟩ := hi'
    rw [len_ir] at q2
    simp! []
    exact ⟨_, p, _, rfl, rfl, h b ls q p ht q1 (by omega) q3⟩
theorem reach_of (b : Int) (ls : List (List Int)) (q : Int) (hq : 0 ≤ q ∧ q ≤ 1000) (hl : (ls.length : Int) ≤ 1000) (s : Sto) : runV F_reach_of [.dat (dspD b ls q)] s = .ok (.dat (.int (powI ls.length q))) s := by
  simp! [F_reach_of, B_reach_of, power_run]
theorem is_whole (d : D) (h : isObj d = false) (s : Sto) : runV F_is_whole [.dat d] s = .ok (.dat (.bl (isW d))) s := by
  cases d <;> first | (cases h; done) | simp! [F_is_whole, B_is_whole, isW]
theorem is_between (d : D) (lo hi : Int) (h : isObj d = false) (s : Sto) : runV F_is_between [.dat d, .dat (.int lo), .dat (.int hi)] s = .ok (.dat (.bl (isB d lo hi))) s := by
  cases d <;> first | (cases h; done) | simp! [F_is_between, B_is_between, is_whole, isW, isB]
theorem is_up_to (d : D) (m : Int) (h : isObj d = false) (s : Sto) : runV F_is_up_to [.dat d, .dat (.int m)] s = .ok (.dat (.bl (isB d 0 m))) s := by
  simp! [F_is_up_to, B_is_up_to, is_between]
theorem is_tuple_up_to (d : D) (lo hi : Int) (h : isObj d = false) (s : Sto) : runV F_is_tuple_up_to [.dat d, .dat (.int lo), .dat (.int hi)] s = .ok (.dat (.bl (isT d lo hi))) s := by
  cases d <;> first | (cases h; done) | simp! [F_is_tuple_up_to, B_is_tuple_up_to, isT]
theorem is_tuple_of (d : D) (n : Int) (h : isObj d = false) (s : Sto) : runV F_is_tuple_of [.dat d, .dat (.int n)] s = .ok (.dat (.bl (isT d n n))) s := by
  simp! [F_is_tuple_of, B_is_tuple_of, is_tuple_up_to]
theorem is_pair (d : D) (h : isObj d = false) (s : Sto) : runV F_is_pair [.dat d] s = .ok (.dat (.bl (isT d 2 2))) s := by
  simp! [F_is_pair, B_is_pair, is_tuple_of]
theorem are_rising (l : List Int) (s : Sto) : runV F_are_rising [.dat (lotD l)] s = .ok (.dat (.bl (rise l))) s := by
  simp! [F_are_rising, B_are_rising, rise]
theorem is_lot_of (b : Int) (l : List Int) (s : Sto) : runV F_is_lot_of [.dat (.int b), .dat (lotD l)] s = .ok (.dat (.bl (lotB b l))) s := by
  simp! [F_is_lot_of, B_is_lot_of, is_tuple_up_to, is_up_to, are_rising]
  unfold lotB
  by_cases h1 : (l.length : Int) ≤ b <;> cases h2 : l.all (fun x => decide (0 ≤ x) && decide (x ≤ b - 1)) <;> simp [h1, h2]
theorem is_lot {b : Int} {l : List Int} (hb : 0 ≤ b) (h : Lot b l) (s : Sto) : runV F_is_lot_of [.dat (.int b), .dat (lotD l)] s = .ok (.dat (.bl true)) s := by
  rw [is_lot_of, (lotB_iff hb).mpr h]
theorem are_unlike (ls : List (List Int)) (h : ls.Nodup) (s : Sto) : runV F_are_unlike [.dat (lotsD ls)] s = .ok (.dat (.bl true)) s := by
  simp! [F_are_unlike, B_are_unlike, (enI_cutL ls).mpr h]
theorem is_table {b : Int} {ls : List (List Int)} (h : Tb 12 16 b ls) (s : Sto) : runV F_is_table_of [.dat (tabD b ls)] s = .ok (.dat (.bl true)) s := by
  have h1 := h.lo
  have h2 := h.hi
  have h3 := h.two
  have h4 := h.most
  have h5 : ∀ l, l ∈ ls → ∀ s, runV F_is_lot_of [.dat (.int b), .dat (lotD l)] s = .ok (.dat (.bl true)) s := fun l hl s => is_lot (by omega) (h.lot l hl) s
  have h6 : ls.all (fun _ => true) = true := by simp
  have h7 : (2 : Int) ≤ (ls.length : Int) := by omega
  simp! [F_is_table_of, B_is_table_of, is_pair, is_between, is_tuple_up_to, G_MOST_BARS, G_LEAST_GLYPHS, G_MOST_GLYPHS, h1, h2, h4, h7, h5, h6, are_unlike ls h.nd, or_self]
theorem is_display {b : Int} {ls : List (List Int)} {q : Int} (h : Ds b ls q) (s : Sto) : runV F_is_display_of [.dat (dspD b ls q)] s = .ok (.dat (.bl true)) s := by
  have h1 := h.tb.most
  have h2 := h.lo
  have h3 := h.hi
  have h4 := h.rch
  simp! [F_is_display_of, B_is_display_of, is_pair, is_table h.tb, is_between, G_MOST_PLACES, G_MOST_REACH, h2, h3, h4, reach_of, or_self]
theorem check_display {b : Int} {ls : List (List Int)} {q : Int} (h : Ds b ls q) (s : Sto) : runV F_check_display [.dat (dspD b ls q)] s = .ok (.dat .non) s := by
  simp! [F_check_display, B_check_display, is_display h]
theorem reach_by {b : Int} {ls : List (List Int)} {q : Int} (h : Ds b ls q) (s : Sto) : runV F_reach_by [.dat (dspD b ls q)] s = .ok (.dat (.int (powI ls.length q))) s := by
  have h1 := h.tb.most
  have h2 := h.lo
  have h3 := h.hi
  simp! [F_reach_by, B_reach_by, reach_of]
theorem reach {b : Int} {ls : List (List Int)} {q : Int} (h : Ds b ls q) (s : Sto) : runV F_reach [.dat (dspD b ls q)] s = .ok (.dat (.int (powI ls.length q))) s := by
  simp! [F_reach, B_reach, check_display h, reach_by h]
theorem one {α : Type} [Inhabited α] (f : α → D) {l : List α} (hl : l ≠ []) (hz : l.length ≤ 1000000) (p : PP) (L : Sto) {Q : R → Sto → Prop} {w : Wit Q} (h : ∀ x p', x ∈ l → Q (.dat (f x)) (pc p' :: L)) : wp (runV F__law_one [.cell 0, .dat (.tup (l.map f))] (pc p :: L)) Q w := by
  refine wp_run (as := [.tup (l.map f)]) rfl ?_
  have h1 : 0 < (l.length : Int) := by have := List.length_pos_iff.mpr hl; omega
  simp! [B__law_one]
  refine below ⟨h1, by omega⟩ p _ fun k p h0 hk => ?_
  simp! [at_map]
  exact ⟨_, p, _, rfl, rfl, h _ p (nth_mem h0 hk)⟩
theorem oneL {α : Type} [Inhabited α] (f : α → D) {l : List α} (hl : l ≠ []) (hz : l.length ≤ 1000000) (p : PP) (L : Sto) {Q : R → Sto → Prop} {w : Wit Q} (h : ∀ x p', x ∈ l → Q (.dat (f x)) (pc p' :: L)) : wp (runV F__law_one [.cell 0, .dat (.lst (l.map f))] (pc p :: L)) Q w := by
  refine wp_run (as := [.lst (l.map f)]) rfl ?_
  have h1 : 0 < (l.length : Int) := by have := List.length_pos_iff.mpr hl; omega
  simp! [B__law_one]
  refine below ⟨h1, by omega⟩ p _ fun k p h0 hk => ?_
  simp! [at_map]
  exact ⟨_, p, _, rfl, rfl, h _ p (nth_mem h0 hk)⟩
theorem same (n : Nat) : ∀ (d : D) (s : Sto), shp n d = true → runV (F__law_same (n + 1)) [.dat d, .dat d] s = .ok (.dat (.bl true)) s := by
  induction n with
  | zero =>
    intro d s h
    show runV (.mk 5 [false, false] (B__law_same (F__law_same 0))) [.dat d, .dat d] s = _
    cases d with
    | non => simp! [B__law_same]
    | bl b => simp! [B__law_same]
    | int b => simp! [B__law_same]
    | str b => simp! [B__law_same, deq_self (shp_mono (Nat.zero_le 60) h)]
    | _ => exact absurd h (by simp [shp])
  | succ n ih =>
    intro d s h
    have h1 : ∀ xs, shps n xs = true → ∀ x, x ∈ xs → ∀ s, runV (F__law_same (n + 1)) [.dat x, .dat x] s = .ok (.dat (.bl true)) s := fun xs h x hx s => ih x s (List.all_eq_true.mp (by rw [← shps_all]; exact h) x hx)
    show runV (.mk 5 [false, false] (B__law_same (F__law_same (n + 1)))) [.dat d, .dat d] s = _
    cases d with
    | non => simp! [B__law_same]
    | bl b => simp! [B__law_same]
    | int b => simp! [B__law_same]
    | str b => simp! [B__law_same, deq_self (show shp 60 (.str b) = true by simp only [shp] at h ⊢; exact h)]
    | tup xs => simp! [B__law_same, zipD_self, h1 xs (by rw [shp_tup] at h; exact h)]
    | lst xs => simp! [B__law_same, zipD_self, h1 xs (by rw [shp_lst] at h; exact h)]
    | _ => exact absurd h (by simp [shp])
theorem same12 {d : D} (h : shp 11 d = true) (s : Sto) : runV (F__law_same 12) [.dat d, .dat d] s = .ok (.dat (.bl true)) s := same 11 d s h
theorem law_reach (b : Int) (ls : List (List Int)) (q : Int) (hq : 0 ≤ q ∧ q ≤ 1000) (hl : (ls.length : Int) ≤ 1000) (s : Sto) : runV F__law_reach [.dat (dspD b ls q)] s = .ok (.dat (.int (powI ls.length q))) s := by
  simp! [F__law_reach, B__law_reach, ws__law_reach_0]
  rw [forM_fold (E := fun t => [some (.dat (dspD b ls q)), some (.dat (.int t)), none]) (S := fun _ => []) (step := fun t _ => t * (ls.length : Int)) fun t x hx => by simp! [ft__law_reach_0, fb__law_reach_0, ws__law_reach_0]]
  simp! [foldl_pow, len_ir, Int.one_mul]
  simp [powI]
def pairsI (n : Int) : List (Int × Int) := (ir 0 n).flatMap fun i => (ir (i + 1) n).map fun j => (i, j)
theorem pairsI_len (n : Nat) : (pairsI n).length ≤ n * n := by
  unfold pairsI
  rw [List.length_flatMap]
  have h : ∀ l : List Int, (∀ i ∈ l, 0 ≤ i) → (l.map fun i => ((ir (i + 1) (n : Int)).map fun j => (i, j)).length).sum ≤ l.length * n := by
    intro l
    induction l with
    | nil => intro _; simp
    | cons i l ih =>
      intro hl
      have := ih fun j hj => hl j (List.mem_cons_of_mem _ hj)
      have h0 := hl i List.mem_cons_self
      rw [List.map_cons, List.sum_cons, List.length_cons, List.length_map, len_ir, Nat.succ_mul]
      omega
  have := h (ir 0 n) fun i hi => (mem_ir.mp hi).1
  rw [len_ir] at this
  simpa using this
def farL (ls : List (List Int)) (m : List Int) : Int := minN (ls.map fun l => dsL l m)
def farStep (ls : List (List Int)) (t : List Int × Int) (l : List Int) : List Int × Int := if t.2 < farL ls l then (l, farL ls l) else t
def farR (n : Nat) (ls : List (List Int)) : List Int × Int := (lotsN n).foldl (farStep ls) ([], farL ls [])
theorem far_fold (ls : List (List Int)) : ∀ (xs : List (List Int)) (t : List Int × Int), farL ls t.1 = t.2 → farL ls (xs.foldl (farStep ls) t).1 = (xs.foldl (farStep ls) t).2 ∧ ((xs.foldl (farStep ls) t).1 = t.1 ∨ (xs.foldl (farStep ls) t).1 ∈ xs) ∧ t.2 ≤ (xs.foldl (farStep ls) t).2 ∧ ∀ x ∈ xs, farL ls x ≤ (xs.foldl (farStep ls) t).2
  | [], t, h => ⟨h, .inl rfl, Int.le_refl _, by simp⟩
  | x :: xs, t, h => by
    have h1 : farL ls (farStep ls t x).1 = (farStep ls t x).2 := by unfold farStep; split; rfl; exact h
    obtain ⟨a, b, c, d⟩ := far_fold ls xs (farStep ls t x) h1
    have h2 : t.2 ≤ (farStep ls t x).2 ∧ farL ls x ≤ (farStep ls t x).2 := by unfold farStep; split <;> refine ⟨?_, ?_⟩ <;> (try dsimp only) <;> omega
    refine ⟨a, ?_, Int.le_trans h2.1 c, fun y hy => ?_⟩
    · rcases b with b | b
      · have : (farStep ls t x).1 = t.1 ∨ (farStep ls t x).1 = x := by unfold farStep; split; exact .inr rfl; exact .inl rfl
        rcases this with e | e
        · exact .inl (b.trans e)
        · exact .inr (by rw [List.foldl_cons, b, e]; exact List.mem_cons_self)
      · exact .inr (List.mem_cons_of_mem _ b)
    · rcases List.mem_cons.mp hy with e | e
      · rw [e]; exact Int.le_trans h2.2 c
      · exact d y e
theorem farR_spec (n : Nat) (ls : List (List Int)) : farL ls (farR n ls).1 = (farR n ls).2 ∧ Lot n (farR n ls).1 ∧ ∀ l, Lot n l → farL ls l ≤ (farR n ls).2 := by
  obtain ⟨a, b, c, d⟩ := far_fold ls (lotsN n) ([], farL ls []) rfl
  refine ⟨a, ?_, fun l hl => d l (mem_lotsN.mpr hl)⟩
  rcases b with b | b
  · unfold farR
    rw [b]
    exact ⟨.nil, by simp⟩
  · exact mem_lotsN.mp b
theorem mem_pairs {n : Int} {p : Int × Int} : p ∈ pairsI n ↔ 0 ≤ p.1 ∧ p.1 < p.2 ∧ p.2 < n := by
  unfold pairsI
  rw [List.mem_flatMap]
  constructor
  · rintro ⟨i, hi, hp⟩
    obtain ⟨j, hj, rfl⟩ := List.mem_map.mp hp
    have := mem_ir.mp hi
    have := mem_ir.mp hj
    simp only
    omega
  · rintro ⟨h1, h2, h3⟩
    exact ⟨p.1, mem_ir.mpr (by omega), List.mem_map.mpr ⟨p.2, mem_ir.mpr (by omega), rfl⟩⟩
def leastL (ls : List (List Int)) : Int := minN ((pairsI ls.length).map fun p => dsL (nth ls p.1) (nth ls p.2))
theorem all_nth {l m : List Int} (h : l.length = m.length) : ((ir 0 (m.length : Int)).all fun k => decide (nth l k = nth m k)) = decide (l = m) := by
  rw [Bool.eq_iff_iff, List.all_eq_true, decide_eq_true_eq]
  constructor
  · intro hk
    apply List.ext_getElem h
    intro i h1 h2
    have := hk i (mem_ir.mpr (by omega))
    simp only [decide_eq_true_eq, nth, Int.toNat_natCast, List.getD_eq_getElem?_getD, List.getElem?_eq_getElem h1, List.getElem?_eq_getElem h2, Option.getD_some] at this
    exact this
  · rintro rfl k _
    simp
theorem farL_spec {ls : List (List Int)} (h : ls ≠ []) (m : List Int) : (∃ l ∈ ls, farL ls m = dsL l m) ∧ ∀ l ∈ ls, farL ls m ≤ dsL l m := by
  obtain ⟨a, b⟩ := minN_spec (l := ls.map fun l => dsL l m) (by simpa using h)
  obtain ⟨l, hl, e⟩ := List.mem_map.mp a
  exact ⟨⟨l, hl, e.symm⟩, fun l hl => b _ (List.mem_map.mpr ⟨l, hl, rfl⟩)⟩
theorem nth_app {α : Type} [Inhabited α] (ls : List α) (o : α) {i : Int} (h0 : 0 ≤ i) (h1 : i < ls.length) : nth (ls ++ [o]) i = nth ls i := by
  unfold nth
  rw [List.getD_eq_getElem?_getD, List.getD_eq_getElem?_getD, List.getElem?_append_left (by omega)]
theorem nth_app1 {α : Type} [Inhabited α] (ls : List α) (o : α) : nth (ls ++ [o]) (ls.length : Int) = o := by
  unfold nth
  rw [List.getD_eq_getElem?_getD, Int.toNat_natCast, List.getElem?_append_right (Nat.le_refl _), Nat.sub_self]
  rfl
theorem nth_ex {α : Type} [Inhabited α] {ls : List α} {a : α} (h : a ∈ ls) : ∃ i : Int, 0 ≤ i ∧ i < ls.length ∧ nth ls i = a := by
  obtain ⟨i, hi, e⟩ := List.getElem_of_mem h
  refine ⟨i, by omega, by omega, ?_⟩
  unfold nth
  rw [List.getD_eq_getElem?_getD, Int.toNat_natCast, List.getElem?_eq_getElem hi, e]
  rfl
theorem least_spec {ls : List (List Int)} (h : 2 ≤ ls.length) : (∃ p : Int × Int, (0 ≤ p.1 ∧ p.1 < p.2 ∧ p.2 < ls.length) ∧ leastL ls = dsL (nth ls p.1) (nth ls p.2)) ∧ ∀ p : Int × Int, (0 ≤ p.1 ∧ p.1 < p.2 ∧ p.2 < ls.length) → leastL ls ≤ dsL (nth ls p.1) (nth ls p.2) := by
  have h5 : (pairsI ls.length) ≠ [] := List.ne_nil_of_mem (a := (0, 1)) (mem_pairs.mpr (by simp; omega))
  obtain ⟨a, b⟩ := minN_spec (l := (pairsI ls.length).map fun p => dsL (nth ls p.1) (nth ls p.2)) (by simpa using h5)
  obtain ⟨p, hp, e⟩ := List.mem_map.mp a
  exact ⟨⟨p, mem_pairs.mp hp, e.symm⟩, fun p hp => b _ (List.mem_map.mpr ⟨p, mem_pairs.mpr hp, rfl⟩)⟩
theorem least_app {ls : List (List Int)} (h : 2 ≤ ls.length) (o : List Int) : leastL (ls ++ [o]) = if leastL ls < farL ls o then leastL ls else farL ls o := by
  have h0 : ls ≠ [] := by intro e; rw [e] at h; simp at h
  obtain ⟨⟨l, hl, e1⟩, b1⟩ := farL_spec h0 o
  obtain ⟨⟨q, hq, e2⟩, b2⟩ := least_spec h
  obtain ⟨⟨r, hr, e3⟩, b3⟩ := least_spec (ls := ls ++ [o]) (by simp; omega)
  obtain ⟨i, i0, i1, ei⟩ := nth_ex hl
  rw [List.length_append, List.length_singleton] at hr b3
  have u1 := b3 (i, (ls.length : Int)) (by simp only; omega)
  rw [nth_app ls o i0 i1, nth_app1, ei, ← e1] at u1
  have u2 := b3 q (by omega)
  rw [nth_app ls o (by omega) (by omega), nth_app ls o (by omega) (by omega), ← e2] at u2
  have u3 : leastL ls ≤ leastL (ls ++ [o]) ∨ farL ls o ≤ leastL (ls ++ [o]) := by
    by_cases hr2 : r.2 < ls.length
    · left
      rw [e3, nth_app ls o (by omega) (by omega), nth_app ls o (by omega) hr2]
      exact b2 r (by omega)
    · right
      have er : r.2 = ls.length := by omega
      rw [e3, er, nth_app1, nth_app ls o (by omega) (by omega)]
      exact b1 _ (nth_mem (by omega) (by omega))
  split <;> omega
theorem is_lot_ofG (b : Int) (d : D) (h : pln d = true) (s : Sto) : runV F_is_lot_of [.dat (.int b), .dat d] s = .ok (.dat (.bl (lotG b d))) s := by
  have h0 := pln_obj h
  cases d with
  | tup xs =>
    replace h := (pln_tupD h).2
    have h1 : ∀ x, x ∈ xs → ∀ s, runV F_is_up_to [.dat x, .dat (.int (b - 1))] s = .ok (.dat (.bl (isB x 0 (b - 1)))) s := fun x hx s => is_up_to x _ (pln_obj (pln_mem h x hx)) s
    by_cases hl : (xs.length : Int) ≤ b
    · by_cases ha : xs.all (fun x => isB x 0 (b - 1)) = true
      · obtain ⟨l, rfl⟩ := ints_of_all ha
        rw [is_lot_of, lotG_lot]
      · have ha' : xs.all (fun x => isB x 0 (b - 1)) = false := by simpa using ha
        have e : lotG b (.tup xs) = false := lotG_tup b xs (by
          obtain ⟨x, hx, hb⟩ := List.all_eq_false.mp ha'
          exact ⟨x, hx, by simpa using hb⟩)
        rw [e]
        simp! [F_is_lot_of, B_is_lot_of, is_tuple_up_to, mapP_any, h1, ha', hl]
    · rw [lotG_len b xs hl]
      simp! [F_is_lot_of, B_is_lot_of, is_tuple_up_to, hl]
  | obj _ _ => cases h0
  | fn _ => cases h0
  | itr _ => cases h0
  | _ => simp! [F_is_lot_of, B_is_lot_of, is_tuple_up_to, isT, lotG]
theorem lotD_eq (l m : List Int) (s : Sto) : cmpop .eq (lotD l) (lotD m) s = .ok (decide (l = m)) s := by
  show M.opt (deq (lotD l) (lotD m)) s = _
  rw [show deq (lotD l) (lotD m) = some (decide (l = m)) from deq_lot l m]
  rfl
structure GT (b : Int) (ls : List (List Int)) : Prop where
  b0 : 0 ≤ b
  b1 : b ≤ 100
  lot : ∀ l ∈ ls, Lot b l
theorem GT.len {b : Int} {ls : List (List Int)} (h : GT b ls) {l : List Int} (hl : Lot b l) : l.length ≤ 100 := by
  have := hl.len h.b0
  have := h.b1
  omega
theorem GT.n {b : Int} {ls : List (List Int)} (h : GT b ls) {i : Int} (hi : 0 ≤ i ∧ i < ls.length) : (nth ls i).length ≤ 100 := h.len (h.lot _ (nth_mem hi.1 hi.2))
def doM (g1 g2 : List Int) (f : List Int × List Int) : Bool := decide (lookL g1 f = lookL g2 f) && decide ((f.1.length : Int) + (f.2.length : Int) = dsL g1 g2)
theorem faulty_eq {b : Int} {g : List Int} {f : List Int × List Int} (hg : Lot b g) (hf : Pf b f) : woL (isort (dedI (g ++ f.2))) f.1 = lookL g f := by
  have h1 : Lot b (isort (dedI (g ++ f.2))) := dedI_lot fun x hx => by
    rcases List.mem_append.mp hx with hx | hx
    · exact hg.rng x hx
    · exact hf.lt.rng x hx
  refine lot_ext (woL_lot h1) (waL_lot (woL_lot hg) hf.lt) fun x => ?_
  rw [mem_woL, mem_setI, List.mem_append]
  unfold lookL
  rw [mem_waL, mem_woL]
  have := hf.dj x
  by_cases a : x ∈ f.1 <;> by_cases c : x ∈ f.2 <;> by_cases d : x ∈ g <;> simp [a, c, d] at this ⊢
theorem doM_masks {b : Int} {g1 g2 : List Int} (h1 : Lot b g1) (h2 : Lot b g2) : doM g1 g2 (unL g1 g2, []) = true := by
  have hp : Pf b (unL g1 g2, []) := ⟨unL_lot h1 h2, ⟨.nil, by simp⟩, by simp⟩
  have e : lookL g1 (unL g1 g2, []) = lookL g2 (unL g1 g2, []) := by
    refine lot_ext (waL_lot (woL_lot h1) hp.lt) (waL_lot (woL_lot h2) hp.lt) fun x => ?_
    unfold lookL
    rw [mem_waL, mem_waL, mem_woL, mem_woL, mem_unL]
    by_cases a : x ∈ g1 <;> by_cases c : x ∈ g2 <;> simp [a, c]
  unfold doM
  rw [decide_eq_true e]
  simp [dsL]
theorem intsOf_c (i : Int) {α : Type} (f : α → Int) (l : List α) : intsOf (.int i :: l.map fun x => .int (f x)) = some (i :: l.map f) := by
  have := intsOf_fun f l
  show (match intsOf (l.map fun x => D.int (f x)) with | some is => some (i :: is) | none => none) = _
  rw [this]
def allD (ls : List (List Int)) : List Int := (ir 0 (ls.length : Int)).flatMap fun j => (ir 0 j).map fun i => dsL (nth ls i) (nth ls j)
theorem mem_allD {ls : List (List Int)} {x : Int} : x ∈ allD ls ↔ ∃ i j : Int, 0 ≤ i ∧ i < j ∧ j < ls.length ∧ x = dsL (nth ls i) (nth ls j) := by
  unfold allD
  rw [List.mem_flatMap]
  constructor
  · rintro ⟨j, hj, hx⟩
    obtain ⟨i, hi, rfl⟩ := List.mem_map.mp hx
    have := mem_ir.mp hj
    have := mem_ir.mp hi
    exact ⟨i, j, by omega, by omega, by omega, rfl⟩
  · rintro ⟨i, j, h1, h2, h3, rfl⟩
    exact ⟨j, mem_ir.mpr (by omega), List.mem_map.mpr ⟨i, mem_ir.mpr (by omega), rfl⟩⟩
theorem allD_min {ls : List (List Int)} (h : 2 ≤ ls.length) : minI (allD ls) = some (leastL ls) := by
  obtain ⟨⟨q, hq, e2⟩, b2⟩ := least_spec h
  have hm : dsL (nth ls q.1) (nth ls q.2) ∈ allD ls := mem_allD.mpr ⟨q.1, q.2, hq.1, hq.2.1, hq.2.2, rfl⟩
  rw [minI_some (List.ne_nil_of_mem hm)]
  congr 1
  rw [e2]
  refine minN_eq hm fun x hx => ?_
  obtain ⟨i, j, h1, h2, h3, rfl⟩ := mem_allD.mp hx
  rw [← e2]
  exact b2 (i, j) ⟨h1, h2, h3⟩
theorem allD_len (n : Nat) (hn : n ≤ 20) : (List.flatMap (fun j : Int => ir 0 j) (ir 0 (n : Int))).length ≤ 1000000 := by
  have key : ∀ l : List Int, (∀ j ∈ l, j ≤ 20) → (l.flatMap fun j : Int => ir 0 j).length ≤ l.length * 20 := by
    intro l
    induction l with
    | nil => intro _; simp
    | cons j l ih =>
      intro hl
      have := ih fun x hx => hl x (List.mem_cons_of_mem _ hx)
      have h0 := hl j List.mem_cons_self
      rw [List.flatMap_cons, List.length_append, List.length_cons, len_ir, Nat.succ_mul]
      omega
  have := key (ir 0 n) fun j hj => by have := mem_ir.mp hj; omega
  rw [len_ir] at this
  have : ((n : Int) - 0).toNat * 20 ≤ 400 := by omega
  omega
def twL (ls : List (List Int)) (i m : Int) : List Int := ((ir 0 (ls.length : Int)).filter fun x => !decide (x = i)).filter fun x => decide (dsL (nth ls i) (nth ls x) ≤ m)
theorem mem_twL {ls : List (List Int)} {i m x : Int} : x ∈ twL ls i m ↔ (0 ≤ x ∧ x < ls.length) ∧ x ≠ i ∧ dsL (nth ls i) (nth ls x) ≤ m := by
  unfold twL
  rw [List.mem_filter, List.mem_filter, mem_ir]
  simp [and_assoc]
def lsG (ls : List (List Int)) (b : Int) : Nat → Int
  | 0 => b
  | k + 1 => minN (lsG ls b k :: (ir 0 (k : Int)).map fun i => dsL (nth ls i) (nth ls (k : Int)))
theorem lsG_spec (ls : List (List Int)) (b : Int) : ∀ k : Nat, (lsG ls b k = b ∨ ∃ i j : Int, 0 ≤ i ∧ i < j ∧ j < k ∧ lsG ls b k = dsL (nth ls i) (nth ls j)) ∧ lsG ls b k ≤ b ∧ ∀ i j : Int, 0 ≤ i → i < j → j < k → lsG ls b k ≤ dsL (nth ls i) (nth ls j)
  | 0 => ⟨.inl rfl, Int.le_refl _, fun i j h1 h2 h3 => by omega⟩
  | k + 1 => by
    obtain ⟨a, c, d⟩ := lsG_spec ls b k
    obtain ⟨m1, m2⟩ := minN_spec (l := lsG ls b k :: (ir 0 (k : Int)).map fun i => dsL (nth ls i) (nth ls (k : Int))) (by simp)
    have e : lsG ls b (k + 1) = minN (lsG ls b k :: (ir 0 (k : Int)).map fun i => dsL (nth ls i) (nth ls (k : Int))) := rfl
    rw [← e] at m1 m2
    have m3 := m2 _ List.mem_cons_self
    refine ⟨?_, by omega, fun i j h1 h2 h3 => ?_⟩
    · rcases List.mem_cons.mp m1 with h | h
      · rcases a with a | ⟨i, j, h1, h2, h3, h4⟩
        · exact .inl (by omega)
        · exact .inr ⟨i, j, h1, h2, by omega, by omega⟩
      · obtain ⟨i, hi, h⟩ := List.mem_map.mp h
        have := mem_ir.mp hi
        exact .inr ⟨i, k, by omega, by omega, by omega, h.symm⟩
    · by_cases hj : j = k
      · subst hj
        exact m2 _ (List.mem_cons_of_mem _ (List.mem_map.mpr ⟨i, mem_ir.mpr (by omega), rfl⟩))
      · have := d i j h1 h2 (by omega)
        omega
theorem lsG_least {b : Int} {ls : List (List Int)} (h : GT b ls) (h2 : 2 ≤ ls.length) : lsG ls b ls.length = leastL ls := by
  obtain ⟨a, c, d⟩ := lsG_spec ls b ls.length
  obtain ⟨⟨q, hq, e2⟩, b2⟩ := least_spec h2
  have u1 := d q.1 q.2 hq.1 hq.2.1 hq.2.2
  have u2 : leastL ls ≤ b := by rw [e2]; exact dsL_le h.b0 (h.lot _ (nth_mem (by omega) (by omega))) (h.lot _ (nth_mem (by omega) (by omega)))
  rcases a with a | ⟨i, j, h1, h2, h3, h4⟩
  · omega
  · have := b2 (i, j) ⟨h1, h2, h3⟩
    simp only at this
    omega
theorem nth_rm (ls : List (List Int)) {d : Int} (h0 : 0 ≤ d) (h1 : d < ls.length) : cutA ls none (some d) ++ cutA ls (some (d + 1)) none = ls.eraseIdx d.toNat := by
  rw [cutA_to _ h0, cutA_from _ (by omega), List.eraseIdx_eq_take_drop_succ, show (d + 1).toNat = d.toNat + 1 by omega]
theorem leastL_le {b : Int} {ls : List (List Int)} (h : GT b ls) (h2 : 2 ≤ ls.length) {x y : List Int} (hx : x ∈ ls) (hy : y ∈ ls) (hn : x ≠ y) : leastL ls ≤ dsL x y := by
  obtain ⟨i, i0, i1, rfl⟩ := nth_ex hx
  obtain ⟨j, j0, j1, rfl⟩ := nth_ex hy
  obtain ⟨_, b2⟩ := least_spec h2
  rcases Int.lt_trichotomy i j with hl | hl | hl
  · exact b2 (i, j) ⟨i0, hl, j1⟩
  · subst hl; exact absurd rfl hn
  · rw [dsL_comm (h.lot _ hx) (h.lot _ hy)]
    exact b2 (j, i) ⟨j0, hl, i1⟩
theorem nth_ne {ls : List (List Int)} (hd : ls.Nodup) {i j : Int} (hi : 0 ≤ i ∧ i < ls.length) (hj : 0 ≤ j ∧ j < ls.length) (hn : i ≠ j) : nth ls i ≠ nth ls j := by
  intro e
  unfold nth at e
  rw [List.getD_eq_getElem?_getD, List.getD_eq_getElem?_getD, List.getElem?_eq_getElem (show i.toNat < ls.length by omega), List.getElem?_eq_getElem (show j.toNat < ls.length by omega)] at e
  rcases Nat.lt_trichotomy i.toNat j.toNat with hl | hl | hl
  · exact List.pairwise_iff_getElem.mp hd _ _ _ _ hl e
  · omega
  · exact List.pairwise_iff_getElem.mp hd _ _ _ _ hl e.symm
theorem leastL_sub {b : Int} {ls ms : List (List Int)} (h : GT b ls) (h2 : 2 ≤ ls.length) (hd : ls.Nodup) (hs : ms.Sublist ls) (h3 : 2 ≤ ms.length) : leastL ls ≤ leastL ms := by
  obtain ⟨⟨q, hq, e⟩, _⟩ := least_spec h3
  rw [e]
  exact leastL_le h h2 (hs.subset (nth_mem (by omega) (by omega))) (hs.subset (nth_mem (by omega) (by omega))) (nth_ne (hs.nodup hd) (by omega) (by omega) (by omega))
theorem tb_rm {mb mg b : Int} {ls : List (List Int)} (ht : Tb mb mg b ls) {d : Nat} (h3 : 3 ≤ ls.length) (hd : d < ls.length) : Tb mb mg b (ls.eraseIdx d) := by
  have hs := List.eraseIdx_sublist ls d
  have hl : (ls.eraseIdx d).length = ls.length - 1 := by rw [List.length_eraseIdx]; rw [if_pos hd]
  have := ht.most
  exact ⟨ht.lo, ht.hi, by omega, by omega, hs.nodup ht.nd, fun l hl => ht.lot l (hs.subset hl)⟩
/-- pairwise far -/
def AP (ls : List (List Int)) (m : Int) (l : List Int) : Prop := l.Pairwise fun i j => m < dsL (nth ls i) (nth ls j)
instance (ls m l) : Decidable (AP ls m l) := by unfold AP; infer_instance
def apB (ls : List (List Int)) (m : Int) (l : List Int) : Bool := !((ir 0 (l.length : Int)).any fun k => (ir 0 k).any fun j => decide (dsL (nth ls (nth l k)) (nth ls (nth l j)) ≤ m))
theorem nth_get {l : List Int} {k : Nat} (h : k < l.length) : nth l (k : Int) = l[k] := by
  unfold nth
  rw [show ((k : Int)).toNat = k by omega, List.getD_eq_getElem?_getD, List.getElem?_eq_getElem h]
  rfl
theorem apB_eq {b : Int} {ls : List (List Int)} (hl : ∀ l ∈ ls, Lot b l) (m : Int) {l : List Int} (hr : ∀ x ∈ l, 0 ≤ x ∧ x < ls.length) : apB ls m l = decide (AP ls m l) := by
  rw [Bool.eq_iff_iff, decide_eq_true_iff]
  unfold apB AP
  rw [List.pairwise_iff_getElem, Bool.not_eq_true', Bool.eq_false_iff, ne_eq, List.any_eq_true]
  constructor
  · intro h i j hi hj hij
    refine Int.lt_of_not_ge fun hle => h ⟨(j : Int), mem_ir.mpr (by omega), List.any_eq_true.mpr ⟨(i : Int), mem_ir.mpr (by omega), ?_⟩⟩
    rw [decide_eq_true_iff, nth_get hi, nth_get hj]
    have h1 := hr _ (List.getElem_mem hi)
    have h2 := hr _ (List.getElem_mem hj)
    rw [dsL_comm (hl _ (nth_mem h2.1 h2.2)) (hl _ (nth_mem h1.1 h1.2))]
    exact hle
  · rintro h ⟨k, hk, hx⟩
    obtain ⟨j, hj, hx⟩ := List.any_eq_true.mp hx
    rw [decide_eq_true_iff] at hx
    have hk := mem_ir.mp hk
    have hj := mem_ir.mp hj
    obtain ⟨k', rfl⟩ := Int.eq_ofNat_of_zero_le hk.1
    obtain ⟨j', rfl⟩ := Int.eq_ofNat_of_zero_le hj.1
    have e := h j' k' (by omega) (by omega) (by omega)
    rw [nth_get (by omega), nth_get (by omega)] at hx
    have h1 := hr _ (List.getElem_mem (show j' < l.length by omega))
    have h2 := hr _ (List.getElem_mem (show k' < l.length by omega))
    rw [dsL_comm (hl _ (nth_mem h2.1 h2.2)) (hl _ (nth_mem h1.1 h1.2))] at hx
    omega
/-- all lots of far ones -/
def apL (ls : List (List Int)) (m : Int) (n : Nat) : List (List Int) := (lotsN n).filter fun l => decide (AP ls m l)
theorem apL_succ (ls : List (List Int)) (m : Int) (n : Nat) : apL ls m (n + 1) = apL ls m n ++ ((apL ls m n).filter fun l => decide (AP ls m (l ++ [(n : Int)]))).map fun l => l ++ [(n : Int)] := by
  unfold apL
  show List.filter _ (lotsN n ++ (lotsN n).map fun l => l ++ [(n : Int)]) = _
  rw [List.filter_append, List.filter_map, List.filter_filter]
  congr 2
  refine List.filter_congr fun l _ => ?_
  show decide (AP ls m (l ++ [(n : Int)])) = _
  by_cases h : AP ls m (l ++ [(n : Int)])
  · have : AP ls m l := (List.pairwise_append.mp h).1
    simp [h, this]
  · simp [h]
theorem mem_apL {ls : List (List Int)} {m : Int} {n : Nat} {l : List Int} : l ∈ apL ls m n ↔ Lot n l ∧ AP ls m l := by
  unfold apL
  rw [List.mem_filter, mem_lotsN, decide_eq_true_iff]
theorem apL_len (ls : List (List Int)) (m : Int) (n : Nat) : (apL ls m n).length ≤ 2 ^ n := by
  unfold apL
  rw [← lotsN_len n]
  exact List.length_filter_le _ _
def mx (t : Int) (l : List Int) : Int := if (l.length : Int) > t then (l.length : Int) else t
theorem mx_fold : ∀ (xs : List (List Int)) (t : Int), t ≤ xs.foldl mx t ∧ (∀ x ∈ xs, (x.length : Int) ≤ xs.foldl mx t) ∧ (xs.foldl mx t = t ∨ ∃ x ∈ xs, (x.length : Int) = xs.foldl mx t)
  | [], t => ⟨Int.le_refl _, by simp, .inl rfl⟩
  | x :: xs, t => by
    obtain ⟨a, c, d⟩ := mx_fold xs (mx t x)
    have h1 : t ≤ mx t x ∧ (x.length : Int) ≤ mx t x ∧ (mx t x = t ∨ mx t x = x.length) := by unfold mx; split <;> omega
    rw [List.foldl_cons]
    refine ⟨by omega, fun y hy => ?_, ?_⟩
    · rcases List.mem_cons.mp hy with rfl | hy
      · omega
      · exact c y hy
    · rcases d with d | ⟨y, hy, e⟩
      · rcases h1.2.2 with h | h
        · exact .inl (d.trans h)
        · exact .inr ⟨x, List.mem_cons_self, by omega⟩
      · exact .inr ⟨y, List.mem_cons_of_mem _ hy, e⟩
/-- a greatest one -/
structure Best (ls : List (List Int)) (m : Int) (l : List Int) : Prop where
  lot : Lot (ls.length : Int) l
  ap : AP ls m l
  most : ∀ x, Lot (ls.length : Int) x → AP ls m x → x.length ≤ l.length
def mostN (ls : List (List Int)) (m : Int) : Int := (apL ls m ls.length).foldl mx 0
theorem mostN_best {ls : List (List Int)} {m : Int} {l : List Int} (h : Best ls m l) : mostN ls m = l.length := by
  obtain ⟨a, c, d⟩ := mx_fold (apL ls m ls.length) 0
  have h1 := c l (mem_apL.mpr ⟨h.lot, h.ap⟩)
  unfold mostN
  rcases d with d | ⟨x, hx, e⟩
  · omega
  · have := mem_apL.mp hx
    have := h.most x this.1 this.2
    omega
/-! ### the search -/
abbrev PQ := List Int × List (List Int × List Int)
def farO (ls : List (List Int)) (m i : Int) (o : List Int) : List Int := o.filter fun x => decide (m < dsL (nth ls i) (nth ls x))
def bst (b c : List Int) : List Int := if (b.length : Int) < c.length then c else b
def mu (W : List (List Int × List Int)) : Nat := (W.map fun p => 2 ^ (p.2.length + 1) - 1).sum
structure IV (ls : List (List Int)) (m : Int) (t : PQ) : Prop where
  lot : Lot (ls.length : Int) t.1
  ap : AP ls m t.1
  w : ∀ p ∈ t.2, Lot (ls.length : Int) (p.1 ++ p.2) ∧ AP ls m p.1 ∧ ∀ x ∈ p.1, ∀ y ∈ p.2, m < dsL (nth ls x) (nth ls y)
  all : ∀ l, Lot (ls.length : Int) l → AP ls m l → l.length ≤ t.1.length ∨ ∃ p ∈ t.2, ∃ o, o.Sublist p.2 ∧ l = p.1 ++ o
theorem IV.init (ls : List (List Int)) (m : Int) : IV ls m ([], [([], ir 0 ls.length)]) := by
  refine ⟨⟨.nil, by simp⟩, .nil, fun p hp => ?_, fun l h1 h2 => .inr ⟨_, List.mem_cons_self, l, ?_, rfl⟩⟩
  · cases List.mem_singleton.mp hp
    exact ⟨Lot.ir _, .nil, by simp⟩
  · have : l = (ir 0 (ls.length : Int)).filter fun x => decide (x ∈ l) := lot_ext h1 ((Lot.ir _).filter _) fun x => by
      rw [List.mem_filter, mem_ir, decide_eq_true_iff]
      exact ⟨fun h => ⟨h1.rng x h, h⟩, fun h => h.2⟩
    rw [this]
    exact List.filter_sublist
theorem bst_len (b c : List Int) : b.length ≤ (bst b c).length ∧ c.length ≤ (bst b c).length := by unfold bst; split <;> omega
theorem IV.drop {ls : List (List Int)} {m : Int} {b c o : List Int} {W : List (List Int × List Int)} (h : IV ls m (b, W ++ [(c, o)])) (hl : c.length + o.length ≤ (bst b c).length) : IV ls m (bst b c, W) := by
  obtain ⟨h1, h2, h3⟩ := h.w (c, o) (List.mem_append_right _ List.mem_cons_self)
  have hz := bst_len b c
  refine ⟨?_, ?_, fun p hp => h.w p (List.mem_append_left _ hp), fun l l1 l2 => ?_⟩
  · show Lot _ (bst b c)
    unfold bst
    split
    · exact h1.sub (List.sublist_append_left _ _)
    · exact h.lot
  · show AP _ _ (bst b c)
    unfold bst
    split
    · exact h2
    · exact h.ap
  · show l.length ≤ (bst b c).length ∨ _
    rcases h.all l l1 l2 with z | ⟨p, hp, o', ho, rfl⟩
    · exact .inl (Nat.le_trans z hz.1)
    · rcases List.mem_append.mp hp with hp | hp
      · exact .inr ⟨p, hp, o', ho, rfl⟩
      · cases List.mem_singleton.mp hp
        left
        have := ho.length_le
        dsimp only at this ⊢
        rw [List.length_append]
        omega
theorem IV.split {ls : List (List Int)} {m : Int} {b c r : List Int} {f : Int} {W : List (List Int × List Int)} (h : IV ls m (b, W ++ [(c, f :: r)])) : IV ls m (bst b c, W ++ [(c, r)] ++ [(c ++ [f], farO ls m f r)]) := by
  obtain ⟨h1, h2, h3⟩ := h.w (c, f :: r) (List.mem_append_right _ List.mem_cons_self)
  dsimp only at h1 h2 h3
  have hz := bst_len b c
  have s1 : (c ++ [f] ++ r) = c ++ f :: r := by simp
  refine ⟨?_, ?_, fun p hp => ?_, fun l l1 l2 => ?_⟩
  · show Lot _ (bst b c)
    unfold bst
    split
    · exact h1.sub (List.sublist_append_left _ _)
    · exact h.lot
  · show AP _ _ (bst b c)
    unfold bst
    split
    · exact h2
    · exact h.ap
  · rcases List.mem_append.mp hp with hp | hp
    · rcases List.mem_append.mp hp with hp | hp
      · exact h.w p (List.mem_append_left _ hp)
      · cases List.mem_singleton.mp hp
        exact ⟨h1.sub ((List.Sublist.refl c).append (List.sublist_cons_self _ _)), h2, fun x hx y hy => h3 x hx y (List.mem_cons_of_mem _ hy)⟩
    · cases List.mem_singleton.mp hp
      refine ⟨h1.sub ?_, List.pairwise_append.mpr ⟨h2, List.pairwise_singleton _ _, fun x hx y hy => ?_⟩, fun x hx y hy => ?_⟩
      · rw [← s1]
        exact (List.Sublist.refl _).append List.filter_sublist
      · cases List.mem_singleton.mp hy
        exact h3 x hx f List.mem_cons_self
      · have hy := List.mem_filter.mp hy
        rcases List.mem_append.mp hx with hx | hx
        · exact h3 x hx y (List.mem_cons_of_mem _ hy.1)
        · cases List.mem_singleton.mp hx
          exact of_decide_eq_true hy.2
  · show l.length ≤ (bst b c).length ∨ _
    rcases h.all l l1 l2 with z | ⟨p, hp, o', ho, rfl⟩
    · exact .inl (Nat.le_trans z hz.1)
    · rcases List.mem_append.mp hp with hp | hp
      · exact .inr ⟨p, List.mem_append_left _ (List.mem_append_left _ hp), o', ho, rfl⟩
      · cases List.mem_singleton.mp hp
        right
        cases ho with
        | cons _ ho => exact ⟨(c, r), List.mem_append_left _ (List.mem_append_right _ List.mem_cons_self), o', ho, rfl⟩
        | cons_cons _ ho =>
          rename_i o2
          refine ⟨(c ++ [f], farO ls m f r), List.mem_append_right _ List.mem_cons_self, o2, ?_, by simp⟩
          have e : o2.filter (fun x => decide (m < dsL (nth ls f) (nth ls x))) = o2 := List.filter_eq_self.mpr fun x hx => by
            have := (List.pairwise_append.mp l2).2.1
            exact decide_eq_true ((List.pairwise_cons.mp this).1 x hx)
          rw [← e]
          exact ho.filter _
theorem IV.done {ls : List (List Int)} {m : Int} {b : List Int} (h : IV ls m (b, [])) : Best ls m b := ⟨h.lot, h.ap, fun x h1 h2 => by
  rcases h.all x h1 h2 with z | ⟨p, hp, _⟩
  · exact z
  · cases hp⟩
theorem mu_app (W V : List (List Int × List Int)) : mu (W ++ V) = mu W + mu V := by unfold mu; rw [List.map_append, List.sum_append]
theorem mu_one (c o : List Int) : mu [(c, o)] = 2 ^ (o.length + 1) - 1 := by simp [mu]
theorem mu_drop (W : List (List Int × List Int)) (c o : List Int) : mu W < mu (W ++ [(c, o)]) := by
  rw [mu_app, mu_one]
  have : 2 ≤ 2 ^ (o.length + 1) := by rw [Nat.pow_succ]; have := Nat.one_le_two_pow (n := o.length); omega
  omega
theorem mu_split (ls : List (List Int)) (m : Int) (W : List (List Int × List Int)) (c r : List Int) (f : Int) : mu (W ++ [(c, r)] ++ [(c ++ [f], farO ls m f r)]) < mu (W ++ [(c, f :: r)]) := by
  rw [mu_app, mu_app, mu_app, mu_one, mu_one, mu_one]
  have h1 : (farO ls m f r).length ≤ r.length := List.length_filter_le _ _
  have h2 : 2 ^ ((farO ls m f r).length + 1) ≤ 2 ^ (r.length + 1) := Nat.pow_le_pow_right (by decide) (by omega)
  have h3 : 2 ^ ((f :: r).length + 1) = 2 * 2 ^ (r.length + 1) := by rw [List.length_cons, Nat.pow_succ _ (r.length + 1)]; omega
  have h4 := Nat.one_le_two_pow (n := r.length + 1)
  have h5 := Nat.one_le_two_pow (n := (farO ls m f r).length + 1)
  omega
theorem lot_full {n : Nat} {l : List Int} (h : Lot n l) (e : l.length = n) : l = ir 0 n := by
  have key : ∀ (n : Nat) (l : List Int), Lot n l → l.length = n → l = ir 0 n := by
    intro n
    induction n with
    | zero => intro l _ e; cases l; rfl; cases e
    | succ n ih =>
      intro l h e
      rcases lot_drop h with h | ⟨k, hk, rfl⟩
      · have := h.len (by omega)
        omega
      · rw [List.length_append, List.length_singleton] at e
        rw [ih k hk (by omega)]
        exact (ir_snoc (by omega)).symm
  exact key n l h e
theorem AP.mono {ls : List (List Int)} {m k : Int} {l : List Int} (h : AP ls k l) (hm : m ≤ k) : AP ls m l := h.imp fun h => by omega

theorem whM_inv {σ : Type} {c : DB.Env → M Bool} {f : DB.Env → M DB.Flow} {E : σ → DB.Env} {S : σ → Sto} {I : σ → Prop} {dn : σ → Prop} (μ : σ → Nat)
    (h : ∀ t, I t → (c (E t) (S t) = .ok false (S t) ∧ dn t) ∨ ∃ t', c (E t) (S t) = .ok true (S t) ∧ f (E t) (S t) = .ok (.nx (E t')) (S t') ∧ I t' ∧ μ t' < μ t) :
    ∀ (n : Nat) (t : σ), I t → μ t < n → ∃ t', whM c f n (E t) (S t) = .ok (.nx (E t')) (S t') ∧ I t' ∧ dn t'
  | 0, t, _, hm => absurd hm (Nat.not_lt_zero _)
  | n + 1, t, hi, hm => by
    rcases h t hi with ⟨h1, h2⟩ | ⟨t', h1, h2, h3, h4⟩
    · refine ⟨t, ?_, hi, h2⟩
      rw [whM_succ, bind_ap, h1]
      rfl
    · obtain ⟨t2, e2, i2, d2⟩ := whM_inv μ h n t' h3 (by omega)
      refine ⟨t2, ?_, i2, d2⟩
      rw [whM_succ, bind_ap, h1]
      show (f (E t) >>= fun x => aftF (whM c f n) x) (S t) = _
      rw [bind_ap, h2]
      exact e2
abbrev enq (p : List Int × List Int) : D := .tup [lotD p.1, lotD p.2]
theorem mu_len : ∀ W : List (List Int × List Int), W.length ≤ mu W
  | [] => Nat.le_refl _
  | p :: W => by
    have := mu_len W
    have h : 2 ≤ 2 ^ (p.2.length + 1) := by rw [Nat.pow_succ]; have := Nat.one_le_two_pow (n := p.2.length); omega
    show W.length + 1 ≤ (2 ^ (p.2.length + 1) - 1) + mu W
    omega
theorem enq_sh (W : List (List Int × List Int)) : shps 59 (W.map enq) = true := shps_map (fun p => by rw [shp_tup, shps_cons, shps_cons, shps_nil, shp_tup, shp_tup, shps_ints, shps_ints]; rfl) W
theorem safe_pair {b : Int} {ls : List (List Int)} (ht : Tb 12 16 b ls) {m : Int} {l : List Int} (h : Best ls m l) (hs : m < leastL ls) : l = ir 0 ls.length := by
  have hg : GT b ls := ⟨by have := ht.lo; omega, by have := ht.hi; omega, ht.lot⟩
  have h1 : AP ls m (ir 0 (ls.length : Int)) := (ir_up 0 _).imp_of_mem fun {i j} hi hj hij => by
    have hi := mem_ir.mp hi
    have hj := mem_ir.mp hj
    have := leastL_le hg ht.two (nth_mem hi.1 hi.2) (nth_mem hj.1 hj.2) (nth_ne ht.nd hi hj (by omega))
    omega
  have h2 := h.most _ (Lot.ir _) h1
  have h3 := h.lot.len (by omega)
  rw [len_ir] at h2
  exact lot_full h.lot (by omega)
theorem full_safe {b : Int} {ls : List (List Int)} (ht : Tb 12 16 b ls) {m : Int} {l : List Int} (h : Best ls m l) (e : l.length = ls.length) : m < leastL ls := by
  have h1 : l = ir 0 ls.length := lot_full h.lot e
  obtain ⟨⟨q, hq, e2⟩, _⟩ := least_spec ht.two
  have h2 := h.ap
  rw [h1] at h2
  rw [e2]
  have h3 : ir 0 (ls.length : Int) = ir 0 q.1 ++ (q.1 :: (ir (q.1 + 1) ls.length)) := by rw [← ir_cons (by omega), ir_append hq.1 (by omega)]
  rw [h3] at h2
  exact (List.pairwise_cons.mp (List.pairwise_append.mp h2).2.1).1 _ (mem_ir.mpr (by omega))
def digs (ls : List (List Int)) (q x : Int) : List Int := sfx (ls.length : Int) x q.toNat
theorem digs_len (ls : List (List Int)) {q : Int} (hq : 0 ≤ q) (x : Int) : ((digs ls q x).length : Int) = q := by
  unfold digs
  rw [sfx_len]
  omega
theorem digs_rng {ls : List (List Int)} (h : 1 ≤ ls.length) (q x : Int) : ∀ d ∈ digs ls q x, 0 ≤ d ∧ d < ls.length := sfx_rng (by omega) _
structure Lk (b q : Int) (ms : List (List Int)) : Prop where
  len : (ms.length : Int) = q
  lot : ∀ m ∈ ms, Lot b m
def nlL (ls : List (List Int)) (q : Int) (fs : List (List Int × List Int)) (ms : List (List Int)) : List Int := (ir 0 (powI ls.length q)).filter fun x => decide (seenL ls fs (digs ls q x) = ms)
def cntL (ls : List (List Int)) (m : List Int) (f : List Int × List Int) : Int := ((ls.filter fun g => decide (lookL g f = m)).length : Int)
theorem fold_cnt (ls : List (List Int)) : ∀ (fs : List (List Int × List Int)) (ms : List (List Int)) (x : Int), (ms.zip fs).foldl (fun t p => t * cntL ls p.1 p.2) x = x * (prodP ls.length ((fs.zip ms).map fun p => fun d => decide (lookL (nth ls d) p.1 = p.2)) : Int)
  | [], [], x => by simp [prodP]
  | [], _ :: _, x => by simp [prodP]
  | _ :: _, [], x => by simp [prodP]
  | f :: fs, m :: ms, x => by
    rw [List.zip_cons_cons, List.zip_cons_cons, List.foldl_cons, fold_cnt ls fs ms, List.map_cons]
    show _ = x * (((((ir 0 (ls.length : Int)).filter fun d => decide (lookL (nth ls d) f = m)).length * prodP ls.length ((fs.zip ms).map fun p => fun d => decide (lookL (nth ls d) p.1 = p.2)) : Nat)) : Int)
    rw [count_nth ls fun g => decide (lookL g f = m)]
    unfold cntL
    simp only [Int.natCast_mul, Int.mul_assoc]
theorem nl_len {b : Int} {ls : List (List Int)} {q : Int} (h : Ds b ls q) {fs : List (List Int × List Int)} (hf : Fts b q fs) {ms : List (List Int)} (hm : Lk b q ms) : ((nlL ls q fs ms).length : Int) = (ms.zip fs).foldl (fun t p => t * cntL ls p.1 p.2) 1 := by
  rw [fold_cnt, Int.one_mul]
  have hl := hf.len
  have hl2 := hm.len
  have hq : q.toNat = fs.length := by omega
  have e : nlL ls q fs ms = (ir 0 ((ls.length : Int) ^ q.toNat)).filter fun x => allP ((fs.zip ms).map fun p => fun d => decide (lookL (nth ls d) p.1 = p.2)) (sfx ls.length x q.toNat) := by
    unfold nlL powI
    refine List.filter_congr fun x _ => ?_
    rw [seenL_eq ls fs (digs ls q x) ms (by have := digs_len ls (q := q) (by omega) x; omega) (by omega)]
    rfl
  have hp : ((fs.zip ms).map fun p => fun d => decide (lookL (nth ls d) p.1 = p.2)).length = q.toNat := by
    rw [List.length_map, List.length_zip]
    omega
  rw [e]
  have := count_digits (n := (ls.length : Int)) (by have := h.tb.two; omega) ((fs.zip ms).map fun p => fun d => decide (lookL (nth ls d) p.1 = p.2))
  rw [hp] at this
  rw [this]
/-- no faults -/
def noF (q : Int) : List (List Int × List Int) := List.replicate q.toNat ([], [])
theorem noF_ok {b q : Int} (hq : 0 ≤ q) : Fts b q (noF q) := ⟨by unfold noF; rw [List.length_replicate]; omega, fun f hf => by
  rw [(List.mem_replicate.mp hf).2]
  exact ⟨⟨.nil, by simp⟩, ⟨.nil, by simp⟩, by simp⟩⟩
theorem look_no {b : Int} {g : List Int} (h : Lot b g) : lookL g ([], []) = g := by
  refine lot_ext (lookL_lot h ⟨.nil, by simp⟩) h fun x => ?_
  rw [mem_lookL]
  simp
theorem nth_inj {ls : List (List Int)} (hd : ls.Nodup) {i j : Int} (hi : 0 ≤ i ∧ i < ls.length) (hj : 0 ≤ j ∧ j < ls.length) (e : nth ls i = nth ls j) : i = j := by
  unfold nth at e
  rw [List.getD_eq_getElem?_getD, List.getD_eq_getElem?_getD, List.getElem?_eq_getElem (show i.toNat < ls.length by omega), List.getElem?_eq_getElem (show j.toNat < ls.length by omega)] at e
  rcases Nat.lt_trichotomy i.toNat j.toNat with hl | hl | hl
  · exact absurd e (List.pairwise_iff_getElem.mp hd _ _ _ _ hl)
  · omega
  · exact absurd e.symm (List.pairwise_iff_getElem.mp hd _ _ _ _ hl)
theorem seen_no {b : Int} {ls : List (List Int)} (hl : ∀ l ∈ ls, Lot b l) : ∀ (ds : List Int), (∀ d ∈ ds, 0 ≤ d ∧ d < ls.length) → seenL ls (List.replicate ds.length ([], [])) ds = ds.map (nth ls)
  | [], _ => rfl
  | d :: ds, h => by
    rw [List.length_cons, List.replicate_succ, seenL_cons, List.map_cons, seen_no hl ds fun x hx => h x (List.mem_cons_of_mem _ hx)]
    have := h d List.mem_cons_self
    rw [look_no (hl _ (nth_mem this.1 this.2))]
theorem map_inj {ls : List (List Int)} (hd : ls.Nodup) : ∀ {ds es : List Int}, (∀ d ∈ ds, 0 ≤ d ∧ d < ls.length) → (∀ d ∈ es, 0 ≤ d ∧ d < ls.length) → ds.map (nth ls) = es.map (nth ls) → ds = es
  | [], [], _, _, _ => rfl
  | [], _ :: _, _, _, e => by cases e
  | _ :: _, [], _, _, e => by cases e
  | d :: ds, x :: es, h1, h2, e => by
    rw [List.map_cons, List.map_cons, List.cons.injEq] at e
    rw [nth_inj hd (h1 d List.mem_cons_self) (h2 x List.mem_cons_self) e.1, map_inj hd (fun y hy => h1 y (List.mem_cons_of_mem _ hy)) (fun y hy => h2 y (List.mem_cons_of_mem _ hy)) e.2]
theorem nl_no {b : Int} {ls : List (List Int)} {q : Int} (h : Ds b ls q) (ms : List (List Int)) : ((nlL ls q (noF q) ms).length : Int) ≤ 1 := by
  have h2 := h.tb.two
  have hn : (0 : Int) < (ls.length : Int) := by omega
  have hu : ∀ x ∈ nlL ls q (noF q) ms, ∀ y ∈ nlL ls q (noF q) ms, x = y := fun x hx y hy => by
    obtain ⟨x1, x2⟩ := List.mem_filter.mp hx
    obtain ⟨y1, y2⟩ := List.mem_filter.mp hy
    have e := (of_decide_eq_true x2).trans (of_decide_eq_true y2).symm
    have hq : ∀ z, noF q = List.replicate (digs ls q z).length ([], []) := fun z => by unfold noF digs; rw [sfx_len]
    have hr : ∀ z, ∀ d ∈ digs ls q z, 0 ≤ d ∧ d < ls.length := fun z => digs_rng (by omega) q z
    rw [hq x, seen_no h.tb.lot _ (hr x)] at e
    rw [show List.replicate (digs ls q x).length (([] : List Int), ([] : List Int)) = List.replicate (digs ls q y).length ([], []) by rw [← hq x, ← hq y], seen_no h.tb.lot _ (hr y)] at e
    have e2 := map_inj h.tb.nd (hr x) (hr y) e
    exact sfx_inj hn (mem_ir.mp x1) (mem_ir.mp y1) e2
  have hd : (nlL ls q (noF q) ms).Nodup := (ir_nodup 0 _).filter _
  generalize nlL ls q (noF q) ms = l at hu hd
  match l with
  | [] => simp
  | [_] => simp
  | x :: y :: l =>
    have := hu x (by simp) y (by simp)
    rw [this] at hd
    simp at hd
/-- a bar more -/
theorem seen_more (ls : List (List Int)) {f' : List Int × List Int} : ∀ (fs : List (List Int × List Int)) (ds es : List Int) (a : Nat), ds.length = fs.length → es.length = fs.length → (∀ f, fs[a]? = some f → ∀ d ∈ ds, ∀ e ∈ es, lookL (nth ls d) f = lookL (nth ls e) f → lookL (nth ls d) f' = lookL (nth ls e) f') →
    seenL ls fs ds = seenL ls fs es → seenL ls (fs.set a f') ds = seenL ls (fs.set a f') es
  | [], _, _, _, _, _, _, h => by simp [seenL]
  | f :: fs, d :: ds, e :: es, a, h1, h2, hf, h => by
    rw [seenL_cons, seenL_cons, List.cons.injEq] at h
    cases a with
    | zero =>
      rw [List.set_cons_zero, seenL_cons, seenL_cons, hf f rfl d List.mem_cons_self e List.mem_cons_self h.1, h.2]
    | succ a =>
      rw [List.set_cons_succ, seenL_cons, seenL_cons, h.1, seen_more ls fs ds es a (by simpa using h1) (by simpa using h2) (fun g hg x hx y hy => hf g (by simpa using hg) x (List.mem_cons_of_mem _ hx) y (List.mem_cons_of_mem _ hy)) h.2]
  | _ :: _, [], _, _, h, _, _, _ => by cases h
  | _ :: _, _ :: _, [], _, _, h, _, _ => by cases h
theorem look_more {b : Int} {g g' : List Int} {f : List Int × List Int} {x : Int} {dk : List Int} (h1 : Lot b g) (h2 : Lot b g') (hf : Lot b f.2) (hd : ∀ y, y ∈ dk ↔ y ∈ f.1 ∨ y = x) (e : lookL g f = lookL g' f) : lookL g (dk, f.2) = lookL g' (dk, f.2) := by
  refine lot_ext (lookL_lot h1 hf) (lookL_lot h2 hf) fun y => ?_
  have := congrArg (fun l => y ∈ l) e
  simp only [mem_lookL, eq_iff_iff] at this
  rw [mem_lookL, mem_lookL]
  simp only [hd]
  by_cases a : y = x <;> by_cases c : y ∈ f.1 <;> by_cases d : y ∈ f.2 <;> by_cases e : y ∈ g <;> by_cases k : y ∈ g' <;> simp [a, c, d, e, k] at this ⊢
theorem seen_lk {b : Int} {ls : List (List Int)} {q : Int} (h : Ds b ls q) {fs : List (List Int × List Int)} (hf : Fts b q fs) (x : Int) : Lk b q (seenL ls fs (digs ls q x)) := by
  have hl := hf.len
  have h2 := h.tb.two
  have h3 := digs_len ls (q := q) (by omega) x
  refine ⟨?_, fun m hm => ?_⟩
  · unfold seenL
    rw [List.length_map, List.length_zip]
    omega
  · obtain ⟨p, hp, rfl⟩ := List.mem_map.mp hm
    have hz := List.of_mem_zip hp
    have := digs_rng (by omega) q x p.1 hz.1
    exact lookL_lot (h.tb.lot _ (nth_mem this.1 this.2)) (hf.pf _ hz.2).lt
theorem nl_self {b : Int} {ls : List (List Int)} {q : Int} {fs : List (List Int × List Int)} {x : Int} (hx : 0 ≤ x ∧ x < powI ls.length q) : x ∈ nlL ls q fs (seenL ls fs (digs ls q x)) := List.mem_filter.mpr ⟨mem_ir.mpr hx, decide_eq_true rfl⟩
theorem noF_D (q : Int) : (List.replicate q.toNat [D.tup [.tup [], .tup []]]).flatten = (noF q).map pfD := by
  unfold noF
  rw [List.map_replicate]
  induction q.toNat with
  | zero => rfl
  | succ n ih => rw [List.replicate_succ, List.replicate_succ, List.flatten_cons, ih]; rfl
theorem set_app {α : Type} : ∀ (l : List α) (a : Nat) (x : α), a < l.length → l.take a ++ ([x] ++ l.drop (a + 1)) = l.set a x
  | y :: l, 0, x, _ => by simp
  | y :: l, a + 1, x, h => by
    have := set_app l a x (by simpa using h)
    simp only [List.take_succ_cons, List.drop_succ_cons, List.cons_append, List.set_cons_succ, List.singleton_append] at this ⊢
    rw [this]
/-! the plain look -/
def shL (ls : List (List Int)) (q x : Int) : List (List Int) := (digs ls q x).map (nth ls)
theorem seen_sh {b : Int} {ls : List (List Int)} {q : Int} (h : Ds b ls q) (x : Int) : seenL ls (noF q) (digs ls q x) = shL ls q x := by
  have h1 := h.lo
  have d1 := digs_len ls (q := q) (by omega) x
  unfold noF shL
  rw [show q.toNat = (digs ls q x).length by omega]
  exact seen_no h.tb.lot _ (digs_rng (by have := h.tb.two; omega) q x)
/-- seen again -/
theorem look_twice {b : Int} {g : List Int} {f : List Int × List Int} (hg : Lot b g) (hf : Pf b f) : lookL (lookL g f) f = lookL g f := by
  refine lot_ext (lookL_lot (lookL_lot hg hf.lt) hf.lt) (lookL_lot hg hf.lt) fun x => ?_
  rw [mem_lookL, mem_lookL]
  constructor
  · rintro (⟨h, _⟩ | h)
    · exact h
    · exact .inr h
  · rintro (⟨h1, h2⟩ | h)
    · exact .inl ⟨.inl ⟨h1, h2⟩, h2⟩
    · exact .inr h
theorem seen_mem {ls : List (List Int)} {fs : List (List Int × List Int)} {ds : List Int} {p : List Int × (List Int × List Int)} (h : p ∈ (seenL ls fs ds).zip fs) : p.2 ∈ fs ∧ ∃ d ∈ ds, p.1 = lookL (nth ls d) p.2 := by
  unfold seenL at h
  induction ds generalizing fs with
  | nil => simp at h
  | cons d ds ih =>
    cases fs with
    | nil => simp at h
    | cons f fs =>
      rw [List.zip_cons_cons, List.map_cons, List.zip_cons_cons] at h
      rcases List.mem_cons.mp h with rfl | h
      · exact ⟨List.mem_cons_self, d, List.mem_cons_self, rfl⟩
      · obtain ⟨h1, d', h2, h3⟩ := ih h
        exact ⟨List.mem_cons_of_mem _ h1, d', List.mem_cons_of_mem _ h2, h3⟩
theorem seen_again {b : Int} {ls : List (List Int)} : ∀ (ds : List Int) (fs : List (List Int × List Int)), (∀ d ∈ ds, Lot b (nth ls d)) → (∀ f ∈ fs, Pf b f) → ((seenL ls fs ds).zip fs).map (fun p => lookL p.1 p.2) = seenL ls fs ds
  | [], fs, _, _ => by simp [seenL]
  | d :: ds, [], _, _ => by simp [seenL]
  | d :: ds, f :: fs, hd, hf => by
    have ih := seen_again ds fs (fun e he => hd e (List.mem_cons_of_mem _ he)) fun g hg => hf g (List.mem_cons_of_mem _ hg)
    show lookL (lookL (nth ls d) f) f :: ((seenL ls fs ds).zip fs).map (fun p => lookL p.1 p.2) = lookL (nth ls d) f :: seenL ls fs ds
    rw [ih, look_twice (hd d List.mem_cons_self) (hf f List.mem_cons_self)]
/-- bars that just one of both has are among the faults -/
def alk (b : Int) (p : List Int × (List Int × (List Int × List Int))) : Bool := ((ir 0 b).filter fun v => !decide (decide (v ∈ p.1) = decide (v ∈ p.2.1))).all fun v => decide (v ∈ p.2.2.1 ++ p.2.2.2)
theorem alk_iff {b : Int} {g1 g2 : List Int} {f : List Int × List Int} (h1 : Lot b g1) (h2 : Lot b g2) (hf : Pf b f) : alk b (g1, g2, f) = true ↔ lookL g1 f = lookL g2 f := by
  unfold alk
  rw [List.all_eq_true]
  constructor
  · intro h
    refine lot_ext (lookL_lot h1 hf.lt) (lookL_lot h2 hf.lt) fun x => ?_
    rw [mem_lookL, mem_lookL]
    by_cases e : (x ∈ g1 ↔ x ∈ g2)
    · rw [e]
    · have hr : 0 ≤ x ∧ x < b := by
        by_cases x1 : x ∈ g1
        · exact h1.rng x x1
        · by_cases x2 : x ∈ g2
          · exact h2.rng x x2
          · exact absurd ⟨fun z => absurd z x1, fun z => absurd z x2⟩ e
      have := h x (List.mem_filter.mpr ⟨mem_ir.mpr hr, by simpa using e⟩)
      rw [decide_eq_true_iff, List.mem_append] at this
      rcases this with z | z
      · have n : x ∉ f.2 := hf.dj x z
        simp [z, n]
      · simp [z]
  · intro h x hx
    obtain ⟨hr, hn⟩ := List.mem_filter.mp hx
    rw [decide_eq_true_iff, List.mem_append]
    by_cases z1 : x ∈ f.1
    · exact .inl z1
    · by_cases z2 : x ∈ f.2
      · exact .inr z2
      · have e : x ∈ lookL g1 f ↔ x ∈ lookL g2 f := by rw [h]
        rw [mem_lookL, mem_lookL] at e
        simp only [z1, z2, not_false_eq_true, and_true, or_false] at e
        simp [e] at hn
theorem seen_alike {b : Int} {ls : List (List Int)} : ∀ (ds es : List Int) (fs : List (List Int × List Int)), ds.length = fs.length → es.length = fs.length → (∀ d ∈ ds, Lot b (nth ls d)) → (∀ d ∈ es, Lot b (nth ls d)) → (∀ f ∈ fs, Pf b f) →
    (seenL ls fs es = seenL ls fs ds ↔ ((ds.map (nth ls)).zip ((es.map (nth ls)).zip fs)).all (alk b) = true)
  | [], [], [], _, _, _, _, _ => by simp [seenL]
  | d :: ds, e :: es, f :: fs, h1, h2, hd, he, hf => by
    have ih := seen_alike ds es fs (by simpa using h1) (by simpa using h2) (fun e he => hd e (List.mem_cons_of_mem _ he)) (fun d hx => he d (List.mem_cons_of_mem _ hx)) fun g hg => hf g (List.mem_cons_of_mem _ hg)
    show lookL (nth ls e) f :: seenL ls fs es = lookL (nth ls d) f :: seenL ls fs ds ↔ (alk b (nth ls d, nth ls e, f) && ((ds.map (nth ls)).zip ((es.map (nth ls)).zip fs)).all (alk b)) = true
    rw [Bool.and_eq_true, ← ih, alk_iff (hd d List.mem_cons_self) (he e List.mem_cons_self) (hf f List.mem_cons_self), List.cons.injEq]
    exact ⟨fun ⟨a, c⟩ => ⟨a.symm, c⟩, fun ⟨a, c⟩ => ⟨a.symm, c⟩⟩
  | [], _, _ :: _, h, _, _, _, _ => by simp at h
  | _ :: _, _, [], h, _, _, _, _ => by simp at h
  | _, [], _ :: _, _, h, _, _, _ => by simp at h
  | _, _ :: _, [], _, h, _, _, _ => by simp at h
theorem fold_all {α : Type} (f : α → Bool) : ∀ (l : List α) (t : Bool), l.foldl (fun t x => t && f x) t = (t && l.all f)
  | [], t => by simp
  | x :: l, t => by rw [List.foldl_cons, fold_all f l, List.all_cons, Bool.and_assoc]
theorem law_is_number (d : D) (lo hi : Int) (h : isObj d = false) (s : Sto) : runV F__law_is_number [.dat d, .dat (.int lo), .dat (.int hi)] s = .ok (.dat (.bl (isB d lo hi))) s := by
  cases d <;> first | (cases h; done) | simp! [F__law_is_number, B__law_is_number, isW, isB]
theorem dedI_self {l : List Int} (h : l.Nodup) : dedI l = l := by
  induction l with
  | nil => rfl
  | cons x l ih =>
    obtain ⟨h1, h2⟩ := List.nodup_cons.mp h
    show x :: (dedI l).filter (fun j => j != x) = x :: l
    rw [ih h2, List.filter_eq_self.mpr]
    intro y hy
    simp only [bne_iff_ne, ne_eq]
    rintro rfl
    exact h1 hy
theorem up_sort {l : List Int} : (l.Pairwise (· < ·)) ↔ l = isort (dedI l) := by
  constructor
  · intro h
    have hn : l.Nodup := h.imp fun h => by omega
    rw [dedI_self hn, isort_eq (.refl _) (up_le h)]
  · intro h
    rw [h]
    exact up_of (isort_sorted' _) ((isort_perm' _).nodup_iff.mpr (dedI_nodup l))
theorem lotB_sort {b : Int} (hb : 0 ≤ b) {l : List Int} (h : ∀ x ∈ l, 0 ≤ x ∧ x ≤ b - 1) : lotB b l = decide (l = isort (dedI l)) := by
  rw [Bool.eq_iff_iff, lotB_iff hb, decide_eq_true_eq, ← up_sort]
  exact ⟨fun h => h.up, fun u => ⟨u, fun x hx => by have := h x hx; omega⟩⟩
theorem law_is_lot {b : Int} (hb : 0 ≤ b) (d : D) (h : pln d = true) (hz : ∀ xs, d = .tup xs → xs.length < 4000) (s : Sto) : runV F__law_is_lot [.dat (.int b), .dat d] s = .ok (.dat (.bl (lotG b d))) s := by
  have h0 := pln_obj h
  cases d with
  | tup xs =>
    replace h := (pln_tupD h).2
    have h1 : ∀ x, x ∈ xs → ∀ s, runV F__law_is_number [.dat x, .dat (.int 0), .dat (.int (b - 1))] s = .ok (.dat (.bl (isB x 0 (b - 1)))) s := fun x hx s => law_is_number x _ _ (pln_obj (pln_mem h x hx)) s
    by_cases ha : xs.all (fun x => isB x 0 (b - 1)) = true
    · have hz := hz xs rfl
      obtain ⟨l, rfl⟩ := ints_of_all ha
      have hr : ∀ x ∈ l, 0 ≤ x ∧ x ≤ b - 1 := fun x hx => by
        have := List.all_eq_true.mp ha (.int x) (List.mem_map.mpr ⟨x, hx, rfl⟩)
        rw [isB_int] at this
        simpa using this
      rw [List.length_map] at hz
      rw [lotG_lot, lotB_sort hb hr]
      have h2 : ∀ x, x ∈ l → ∀ s, runV F__law_is_number [.dat (.int x), .dat (.int 0), .dat (.int (b - 1))] s = .ok (.dat (.bl true)) s := fun x hx s => by
        rw [law_is_number _ _ _ rfl, isB_int]
        have := hr x hx
        simp [this]
      have h3 : l.all (fun _ => true) = true := by simp
      simp! [F__law_is_lot, B__law_is_lot, h2, h3, hz]
    · have ha' : xs.all (fun x => isB x 0 (b - 1)) = false := by simpa using ha
      have e : lotG b (.tup xs) = false := lotG_tup b xs (by
        obtain ⟨x, hx, hb⟩ := List.all_eq_false.mp ha'
        exact ⟨x, hx, by simpa using hb⟩)
      rw [e]
      simp! [F__law_is_lot, B__law_is_lot, mapP_any, h1, ha']
  | obj _ _ => cases h0
  | fn _ => cases h0
  | itr _ => cases h0
  | _ => simp! [F__law_is_lot, B__law_is_lot, lotG]
theorem are_unlikeG (ls : List (List Int)) (s : Sto) : runV F_are_unlike [.dat (lotsD ls)] s = .ok (.dat (.bl (decide ls.Nodup))) s := by
  by_cases h : ls.Nodup
  · rw [decide_eq_true h, are_unlike ls h]
  · have e : (enI ls).all (fun x => !decide (x.2 ∈ cutA ls none (some x.1))) = false := by
      rw [Bool.eq_false_iff]
      exact fun z => h ((enI_cutL ls).mp z)
    rw [decide_eq_false h]
    simp! [F_are_unlike, B_are_unlike, e]
theorem tabG_no {d : D} (h : ∀ b ls, Tb 12 16 b ls → d ≠ tabD b ls) : tabG d = false := by
  rw [Bool.eq_false_iff]
  intro z
  obtain ⟨b, ls, e, ht⟩ := tabG_inv z
  exact h b ls ht e
theorem isB_inv {x : D} {lo hi : Int} (h : isB x lo hi = true) : ∃ i, x = .int i ∧ lo ≤ i ∧ i ≤ hi := by
  cases x with
  | int i =>
    rw [isB_int] at h
    simp at h
    exact ⟨i, rfl, h⟩
  | _ => exact absurd h (by simp [isB])
theorem tab_split {b : Int} (hb : 1 ≤ b ∧ b ≤ 12) {ls : List (List Int)} (hl : 2 ≤ ls.length ∧ ls.length ≤ 16) (ha : (ls.map lotD).all (lotG b) = true) : tabG (tabD b ls) = decide ls.Nodup := by
  rw [tabG_tab, Bool.eq_iff_iff, tabB_iff, decide_eq_true_eq]
  have hlot : ∀ l ∈ ls, Lot b l := fun l hl => by
    have := List.all_eq_true.mp ha (lotD l) (List.mem_map.mpr ⟨l, hl, rfl⟩)
    rw [lotG_lot] at this
    exact (lotB_iff (by omega)).mp this
  exact ⟨fun h => h.nd, fun h => ⟨hb.1, hb.2, hl.1, by omega, h, hlot⟩⟩
theorem tab_lots {b : Int} {gs : List D} (h : ¬ gs.all (lotG b) = true) : tabG (.tup [.int b, .tup gs]) = false := tabG_no fun c ls ht e => by
  have e' : D.tup [.int b, .tup gs] = D.tup [.int c, .tup (ls.map lotD)] := e
  injection e' with e'
  injection e' with e1 e2
  injection e1 with e1
  injection e2 with e2
  injection e2 with e2
  subst e1
  subst e2
  refine h (List.all_eq_true.mpr fun x hx => ?_)
  obtain ⟨l, hl, rfl⟩ := List.mem_map.mp hx
  rw [lotG_lot]
  exact (lotB_iff (by have := ht.lo; omega)).mpr (ht.lot l hl)
theorem tab_len {b : Int} {gs : List D} (h : ¬ (2 ≤ gs.length ∧ gs.length ≤ 16)) : tabG (.tup [.int b, .tup gs]) = false := tabG_no fun c ls ht e => by
  have e' : D.tup [.int b, .tup gs] = D.tup [.int c, .tup (ls.map lotD)] := e
  injection e' with e'
  injection e' with e1 e2
  injection e2 with e2
  injection e2 with e2
  subst e2
  rw [List.length_map] at h
  have := ht.two
  have := ht.most
  omega
theorem tab_bars {x y : D} (h : ¬ isB x 1 12 = true) : tabG (.tup [x, y]) = false := tabG_no fun c ls ht e => by
  have e' : D.tup [x, y] = D.tup [.int c, .tup (ls.map lotD)] := e
  injection e' with e'
  injection e' with e1 e2
  subst e1
  have := ht.lo
  have := ht.hi
  exact h (by rw [isB_int]; simp; omega)
theorem tab_tup {b : Int} {y : D} (h : isTup y = false) : tabG (.tup [.int b, y]) = false := tabG_no fun c ls ht e => by
  have e' : D.tup [.int b, y] = D.tup [.int c, .tup (ls.map lotD)] := e
  injection e' with e'
  injection e' with e1 e2
  injection e2 with e2
  subst e2
  cases h
theorem tab_two {xs : List D} (h : xs.length ≠ 2) : tabG (.tup xs) = false := tabG_no fun c ls ht e => by
  have e' : D.tup xs = D.tup [.int c, .tup (ls.map lotD)] := e
  injection e' with e'
  subst e'
  exact h rfl
theorem is_table_ofG (d : D) (h : pln d = true) (s : Sto) : runV F_is_table_of [.dat d] s = .ok (.dat (.bl (tabG d))) s := by
  have h0 := pln_obj h
  cases d with
  | tup xs =>
    replace h := (pln_tupD h).2
    match xs, h with
    | [x, y], h =>
      have px := pln_mem h x (by simp)
      have py := pln_mem h y (by simp)
      have ox := pln_obj px
      by_cases hx : isB x 1 12 = true
      · obtain ⟨b, rfl, b1, b2⟩ := isB_inv hx
        cases y with
        | tup gs =>
          have k1 : ∀ g, g ∈ gs → ∀ s, runV F_is_lot_of [.dat (.int b), .dat g] s = .ok (.dat (.bl (lotG b g))) s := fun g hg s => is_lot_ofG b g (pln_mem (pln_tupD py).2 g hg) s
          by_cases hl : 2 ≤ gs.length ∧ gs.length ≤ 16
          · obtain ⟨l1, l2⟩ := hl
            have l3 : (2 : Int) ≤ (gs.length : Int) := by omega
            have l4 : (gs.length : Int) ≤ 16 := by omega
            by_cases ha : gs.all (lotG b) = true
            · obtain ⟨ls, rfl⟩ := lots_of_all ha
              rw [show D.tup [.int b, .tup (ls.map lotD)] = tabD b ls from rfl, tab_split ⟨b1, b2⟩ (by rw [List.length_map] at l1 l2; exact ⟨l1, l2⟩) ha]
              have k2 : ∀ l, l ∈ ls → ∀ s, runV F_is_lot_of [.dat (.int b), .dat (lotD l)] s = .ok (.dat (.bl true)) s := fun l hl s => by
                rw [is_lot_ofG b _ (pln_mem (pln_tupD py).2 _ (List.mem_map.mpr ⟨l, hl, rfl⟩)), List.all_eq_true.mp ha (lotD l) (List.mem_map.mpr ⟨l, hl, rfl⟩)]
              have k3 : ls.all (fun _ => true) = true := by simp
              rw [List.length_map] at l3 l4
              simp! [F_is_table_of, B_is_table_of, is_pair, is_between, is_tuple_up_to, G_MOST_BARS, G_LEAST_GLYPHS, G_MOST_GLYPHS, b1, b2, l3, l4, k2, k3, are_unlikeG, or_self]
            · have ha' : gs.all (fun g => lotG b g) = false := by simpa using ha
              rw [tab_lots ha]
              simp! [F_is_table_of, B_is_table_of, is_pair, is_between, is_tuple_up_to, G_MOST_BARS, G_LEAST_GLYPHS, G_MOST_GLYPHS, b1, b2, l3, l4, k1, ha', mapP_any, or_self]
          · rw [tab_len hl]
            have l3 : (decide ((2 : Int) ≤ (gs.length : Int)) && decide ((gs.length : Int) ≤ 16)) = false := by simp; omega
            simp! [F_is_table_of, B_is_table_of, is_pair, is_between, is_tuple_up_to, G_MOST_BARS, G_LEAST_GLYPHS, G_MOST_GLYPHS, b1, b2, l3, or_self]
        | obj _ _ => cases pln_obj py
        | fn _ => cases pln_obj py
        | itr _ => cases pln_obj py
        | _ =>
          rw [tab_tup rfl]
          simp! [F_is_table_of, B_is_table_of, is_pair, is_between, is_tuple_up_to, isT, G_MOST_BARS, G_LEAST_GLYPHS, G_MOST_GLYPHS, b1, b2, or_self]
      · rw [tab_bars hx]
        have hx' : isB x 1 12 = false := by simpa using hx
        simp! [F_is_table_of, B_is_table_of, is_pair, is_between, G_MOST_BARS, hx', or_self]
    | [], h => rw [tab_two (by simp)]; simp! [F_is_table_of, B_is_table_of, is_pair]
    | [x], h => rw [tab_two (by simp)]; simp! [F_is_table_of, B_is_table_of, is_pair]
    | x :: y :: z :: r, h =>
      rw [tab_two (by simp)]
      have : (decide ((2 : Int) ≤ ((r.length + 1 + 1 + 1 : Nat) : Int)) && decide (((r.length + 1 + 1 + 1 : Nat) : Int) ≤ 2)) = false := by simp; omega
      simp! [F_is_table_of, B_is_table_of, is_pair, this]
  | obj _ _ => cases h0
  | fn _ => cases h0
  | itr _ => cases h0
  | _ => simp! [F_is_table_of, B_is_table_of, is_pair, isT, tabG]
/-- no great tuples stand where sets are made -/
def smT (d : D) : Bool := match d with
  | .tup [_, .tup gs] => gs.all fun g => match g with | .tup xs => decide (xs.length < 4000) | _ => true
  | _ => true
theorem tupsOf_lots : ∀ ls : List (List Int), tupsOf (ls.map lotD) = some ls
  | [] => rfl
  | l :: ls => by
    show (match intsOf (l.map D.int), tupsOf (ls.map lotD) with | some is, some ks => some (is :: ks) | _, _ => none) = _
    rw [intsOf_map, tupsOf_lots ls]
theorem dedL_self {l : List (List Int)} (h : l.Nodup) : dedL l = l := by
  induction l with
  | nil => rfl
  | cons x l ih =>
    obtain ⟨h1, h2⟩ := List.nodup_cons.mp h
    show x :: (dedL l).filter (fun j => !decide (j = x)) = x :: l
    rw [ih h2, List.filter_eq_self.mpr]
    intro y hy
    simp only [Bool.not_eq_true', decide_eq_false_iff_not]
    rintro rfl
    exact h1 hy
theorem dedL_lt : ∀ {l : List (List Int)}, (dedL l).length ≤ l.length
  | [] => Nat.le_refl _
  | x :: l => by
    show (x :: (dedL l).filter (fun j => !decide (j = x))).length ≤ _
    rw [List.length_cons, List.length_cons]
    exact Nat.succ_le_succ (Nat.le_trans (List.length_filter_le _ _) dedL_lt)
theorem dedL_nd : ∀ {l : List (List Int)}, (dedL l).length = l.length → l.Nodup
  | [], _ => List.nodup_nil
  | x :: l, h => by
    have h' : ((dedL l).filter (fun j => !decide (j = x))).length + 1 = l.length + 1 := h
    have a := List.length_filter_le (fun j => !decide (j = x)) (dedL l)
    have b := dedL_lt (l := l)
    have c := dedL_nd (l := l) (by omega)
    refine List.nodup_cons.mpr ⟨fun hx => ?_, c⟩
    rw [dedL_self c] at h'
    have : (l.filter (fun j => !decide (j = x))).length < l.length := List.length_filter_lt_length_iff_exists.mpr ⟨x, hx, by simp⟩
    omega
theorem lenset (ls : List (List Int)) (h : ls.length < 64) (s : Sto) : DB.setB .len (.tup (ls.map lotD)) s = .ok (.dat (.int (dedL ls).length)) s := by
  show (M.opt (tupsOf (ls.map lotD)) >>= fun ks => M.guard (decide (ks.length < 64)) >>= fun _ => (pure (R.dat (.int (dedL ks).length)) : M R)) s = _
  rw [tupsOf_lots]
  show (M.guard (decide (ls.length < 64)) >>= fun _ => (pure (R.dat (.int (dedL ls).length)) : M R)) s = _
  rw [decide_eq_true h]
  rfl
theorem law_is_table (d : D) (h : pln d = true) (hz : smT d = true) (s : Sto) : runV F__law_is_table [.dat d] s = .ok (.dat (.bl (tabG d))) s := by
  have h0 := pln_obj h
  cases d with
  | tup xs =>
    replace h := (pln_tupD h).2
    match xs, h, hz with
    | [x, y], h, hz =>
      have px := pln_mem h x (by simp)
      have py := pln_mem h y (by simp)
      have ox := pln_obj px
      by_cases hx : isB x 1 12 = true
      · obtain ⟨b, rfl, b1, b2⟩ := isB_inv hx
        cases y with
        | tup gs =>
          have hz2 : ∀ g ∈ gs, ∀ xs, g = .tup xs → xs.length < 4000 := fun g hg xs e => by
            have := List.all_eq_true.mp (show (gs.all fun g => match g with | .tup xs => decide (xs.length < 4000) | _ => true) = true from hz) g hg
            rw [e] at this
            exact of_decide_eq_true this
          have k1 : ∀ g, g ∈ gs → ∀ s, runV F__law_is_lot [.dat (.int b), .dat g] s = .ok (.dat (.bl (lotG b g))) s := fun g hg s => law_is_lot (by omega) g (pln_mem (pln_tupD py).2 g hg) (hz2 g hg) s
          have nb : isB (.int b) 1 12 = true := hx
          have kb := fun s => law_is_number (.int b) 1 12 rfl s
          rw [nb] at kb
          by_cases hl : 2 ≤ gs.length ∧ gs.length ≤ 16
          · obtain ⟨l1, l2⟩ := hl
            have l3 : (1 : Int) < (gs.length : Int) := by omega
            have l4 : (gs.length : Int) < 17 := by omega
            by_cases ha : gs.all (lotG b) = true
            · obtain ⟨ls, rfl⟩ := lots_of_all ha
              rw [show D.tup [.int b, .tup (ls.map lotD)] = tabD b ls from rfl, tab_split ⟨b1, b2⟩ (by rw [List.length_map] at l1 l2; exact ⟨l1, l2⟩) ha]
              have k2 : ∀ l, l ∈ ls → ∀ s, runV F__law_is_lot [.dat (.int b), .dat (lotD l)] s = .ok (.dat (.bl true)) s := fun l hl s => by
                rw [k1 _ (List.mem_map.mpr ⟨l, hl, rfl⟩), List.all_eq_true.mp ha (lotD l) (List.mem_map.mpr ⟨l, hl, rfl⟩)]
              have k3 : ls.all (fun _ => true) = true := by simp
              rw [List.length_map] at l1 l2 l3 l4
              have k4 := fun s => lenset ls (by omega) s
              have k5 : decide (((dedL ls).length : Int) = (ls.length : Int)) = decide ls.Nodup := by
                rw [decide_eq_decide]
                constructor
                · intro z
                  exact dedL_nd (by omega)
                · intro z
                  rw [dedL_self z]
              simp! [F__law_is_table, B__law_is_table, kb, l3, l4, k2, k3, k4, k5]
            · have ha' : gs.all (fun g => lotG b g) = false := by simpa using ha
              rw [tab_lots ha]
              simp! [F__law_is_table, B__law_is_table, kb, l3, l4, k1, ha', mapP_any]
          · rw [tab_len hl]
            have l3 : (decide ((1 : Int) < (gs.length : Int)) && decide ((gs.length : Int) < 17)) = false := by simp; omega
            by_cases l5 : (1 : Int) < (gs.length : Int)
            · have l6 : ¬ (gs.length : Int) < 17 := by omega
              simp! [F__law_is_table, B__law_is_table, kb, l5, l6]
            · simp! [F__law_is_table, B__law_is_table, kb, l5]
        | obj _ _ => cases pln_obj py
        | fn _ => cases pln_obj py
        | itr _ => cases pln_obj py
        | _ =>
          rw [tab_tup rfl]
          have kb := fun s => law_is_number (.int b) 1 12 rfl s
          rw [hx] at kb
          simp! [F__law_is_table, B__law_is_table, kb]
      · rw [tab_bars hx]
        have hx' : isB x 1 12 = false := by simpa using hx
        have kb := fun s => law_is_number x 1 12 ox s
        rw [hx'] at kb
        simp! [F__law_is_table, B__law_is_table, kb]
    | [], h, _ => rw [tab_two (by simp)]; simp! [F__law_is_table, B__law_is_table]
    | [x], h, _ => rw [tab_two (by simp)]; simp! [F__law_is_table, B__law_is_table]
    | x :: y :: z :: r, h, _ =>
      rw [tab_two (by simp)]
      have : decide (((r.length + 1 + 1 + 1 : Nat) : Int) = 2) = false := decide_eq_false (by omega)
      simp! [F__law_is_table, B__law_is_table, this]
  | obj _ _ => cases h0
  | fn _ => cases h0
  | itr _ => cases h0
  | _ => simp! [F__law_is_table, B__law_is_table, tabG]
theorem mapP_g {f : D → M (Option D)} {g : D → D} {xs : List D} {s : Sto} (h : ∀ x ∈ xs, f x s = .ok (some (g x)) s) : DB.mapP f xs s = .ok (xs.map fun x => some (g x)) s := by
  show DB.optS (DB.seqO (xs.map fun a => keep s (f a s))) s = _
  rw [show xs.map (fun a => keep s (f a s)) = xs.map (fun a => some (some (g a))) from List.map_congr_left fun x hx => by rw [h x hx, keep_ok]]
  have e := seqO_mem (fun a => some (g a)) xs
  rw [mapMem_eq] at e
  rw [e]
  rfl
theorem wp_mapP {f : D → M (Option D)} {g : D → D} {xs : List D} {s : Sto} {Q : List (Option D) → Sto → Prop} {w : Wit Q} (h : ∀ x ∈ xs, f x s = .ok (some (g x)) s) (k : ∀ ys : List D, (∀ y ∈ ys, ∃ x ∈ xs, y = g x) → ys.length = xs.length → Q (ys.map some) s) : wp (DB.mapP f xs s) Q w := by
  rw [mapP_g h]
  have := k (xs.map g) (fun y hy => by obtain ⟨x, hx, rfl⟩ := List.mem_map.mp hy; exact ⟨x, hx, rfl⟩) (List.length_map ..)
  rw [List.map_map] at this
  exact this
/-- .. that hands back a new list -/
theorem wp_runO {n : Nat} {ms : List Bool} {body : Ss} {as : List D} {p : PP} {L : Sto} {Q : R → Sto → Prop} {w : Wit Q} (hm : ms = true :: as.map fun _ => false)
    (h : wp (vSs body (some (.cell 0) :: (as.map fun d => some (.dat d)) ++ List.replicate (n - (as.length + 1)) none) [pc p]) (fun fl l => ∃ d p' l', fl = .rt (.own d) ∧ l = pc p' :: l' ∧ Q (.own d) (pc p' :: L)) ⟨⟩) :
    wp (runV (.mk n ms body) (.cell 0 :: as.map .dat) (pc p :: L)) Q w := by
  subst hm
  have hb : ∀ (as : List D) (s : Sto), bindA (as.map fun _ => false) (as.map .dat) s = .ok (as.map fun d => some (.dat d)) s := by
    intro as
    induction as with
    | nil => intro s; rfl
    | cons d as ih =>
      intro s
      rw [List.map_cons, List.map_cons, bindA_dat, bind_ap, ih]
      rfl
  have hl : ∀ (as : List D) (k : Nat), locA (as.map fun _ => false) (as.map fun d => some (.dat d)) k = as.map fun d => some (R.dat d) := by
    intro as
    induction as with
    | nil => intro k; rfl
    | cons d as ih => intro k; show some (R.dat d) :: _ = _; rw [ih]; rfl
  have hc : ∀ (as : List D), celA (as.map fun _ => false) (as.map fun d => some (R.dat d)) = [] := by
    intro as
    induction as with
    | nil => rfl
    | cons d as ih => exact ih
  obtain ⟨fl, l, e, d, p', l', rfl, rfl, hq⟩ := wp_ex h
  rw [runV_mk]
  show wp (((bindA (true :: as.map fun _ => false) (.cell 0 :: as.map .dat)) >>= fun es => backM (celA (true :: as.map fun _ => false) es) (vSs body (locA (true :: as.map fun _ => false) es 0 ++ List.replicate (n - es.length) none) >>= fun f => flowR f) >>= fun r => endFn (List.length (pc p :: L)) r) (pc p :: L)) Q w
  rw [bind_ap, bindA_cell, bind_ap, hb]
  show wp ((backM (celA (true :: as.map fun _ => false) (some (.cell 0) :: as.map fun d => some (.dat d))) (vSs body (locA (true :: as.map fun _ => false) (some (.cell 0) :: as.map fun d => some (.dat d)) 0 ++ List.replicate (n - (some (R.cell 0) :: as.map fun d => some (R.dat d)).length) none) >>= fun f => flowR f) >>= fun r => endFn (List.length (pc p :: L)) r) (pc p :: L)) Q w
  rw [celA_t, hc, locA_t, hl, bind_ap, backM_pc, bind_ap]
  rw [show (some (R.cell 0) :: as.map fun d => some (R.dat d)).length = as.length + 1 by simp]
  rw [e]
  show wp (endFn (List.length (pc p :: L)) (.own d) (pc p' :: L)) Q w
  rw [endFn_own1]
  exact hq
/-- glyphs of no great size -/
def gOk (g : D) : Prop := pln g = true ∧ (match g with | .tup xs => decide (xs.length < 4000) | _ => true) = true
def gsOk (gs : List D) : Prop := gs.length ≤ 1000 ∧ ∀ g ∈ gs, gOk g
def thOk (d : D) : Prop := pln d = true ∧ smT d = true
theorem gOk_lot {l : List Int} (h : l.length < 4000) : gOk (lotD l) := ⟨pln_lot (by omega), decide_eq_true (by rw [List.length_map]; exact h)⟩
theorem gsOk_lots {b : Int} (hb : 0 ≤ b ∧ b ≤ 100) {ls : List (List Int)} (hl : ∀ l ∈ ls, Lot b l) (hz : ls.length ≤ 1000) : gsOk (ls.map lotD) := ⟨by rw [List.length_map]; exact hz, fun g hg => by
  obtain ⟨l, h, rfl⟩ := List.mem_map.mp hg
  exact gOk_lot (by have := (hl l h).len hb.1; omega)⟩
theorem th_pair {x : D} {gs : List D} (hx : pln x = true) (h : gsOk gs) : thOk (.tup [x, .tup gs]) := by
  refine ⟨?_, List.all_eq_true.mpr fun g hg => (h.2 g hg).2⟩
  have e : plns gs = true := by
    rw [plns_all]
    exact List.all_eq_true.mpr fun g hg => (h.2 g hg).1
  rw [pln_pair, hx, pln_tup, e, decide_eq_true (by have := h.1; omega)]
  rfl
theorem gs_pln {gs : List D} (h : gsOk gs) : pln (.tup gs) = true ∧ pln (.lst gs) = true := by
  have e : plns gs = true := by
    rw [plns_all]
    exact List.all_eq_true.mpr fun g hg => (h.2 g hg).1
  have := h.1
  exact ⟨by rw [pln_tup, e, decide_eq_true (by omega)]; rfl, by rw [pln_lst, e, decide_eq_true (by omega)]; rfl⟩
theorem bent {b : Int} {ls : List (List Int)} (ht : Tb 12 16 b ls) (p : PP) (L : Sto) {Q : R → Sto → Prop} {w : Wit Q} (h : ∀ ds p', (∀ d ∈ ds, thOk d) → ds.length ≤ 1000 → Q (.own (.lst ds)) (pc p' :: L)) : wp (runV F__law_bent_tables [.cell 0, .dat (tabD b ls)] (pc p :: L)) Q w := by
  refine wp_runO (as := [tabD b ls]) rfl ?_
  have b1 := ht.lo
  have b2 := ht.hi
  have b3 := ht.two
  have b4 := ht.most
  simp! [B__law_bent_tables]
  refine below (by omega) p _ fun i p h0 h1 => ?_
  have e := at_map lotD h0 h1
  have c1 : (List.take 1 ls).length ≤ 1 := by rw [List.length_take]; omega
  have c2 : b.natAbs.log2 < 1920 := (Nat.log2_lt (by omega)).mpr (Nat.lt_of_lt_of_le (show b.natAbs < 2 ^ 4 by omega) (Nat.pow_le_pow_right (by decide) (by decide)))
  have hL := ht.lot _ (nth_mem h0 h1)
  have c3 := hL.len (by omega)
  have c4 : (cutA (nth ls i) (some (-1)) none).length ≤ (nth ls i).length := ((List.take_sublist _ _).trans (List.drop_sublist _ _)).length_le
  have c5 : (List.take i.toNat ls).length ≤ 100 := by rw [List.length_take]; omega
  have c6 : (List.drop (i + 1).toNat ls).length ≤ 100 := by rw [List.length_drop]; omega
  simp! [e, dctkB, keyF, strB, c2]
  refine wp_mapP (g := fun x => .tup [.int b, .tup ((ls.take i.toNat).map lotD ++ [x] ++ (ls.drop (i + 1).toNat).map lotD)]) (fun x hx => ?_) fun ys hy hz => ?_
  · have c7 : (List.map lotD (List.take i.toNat ls) ++ [x]).length ≤ 2000 := by rw [List.length_append, List.length_map, List.length_singleton]; omega
    simp! []
  · have g0 := gsOk_lots (b := b) (by omega) ht.lot (by omega)
    have g1 : gsOk (ls.take 1 |>.map lotD) := gsOk_lots (b := b) (by omega) (fun l hl => ht.lot l (List.mem_of_mem_take hl)) (by omega)
    generalize hF : (tabD b ls :: D.lst [D.int b, D.tup (List.map lotD ls)] :: _ : List D) = fs
    have lf : fs.length = 22 := by rw [← hF]; rfl
    have ly : ys.length ≤ 10 := by rw [hz]; exact Nat.le_refl 10
    have fm : List.filterMap id (List.map some ys) = ys := by simp
    simp! [fm]
    refine ⟨_, p, _, rfl, rfl, h (fs ++ ys) p (fun d hd => ?_) (by rw [List.length_append]; omega)⟩
    rcases List.mem_append.mp hd with hd | hd
    · rw [← hF] at hd
      clear hF
      simp only [List.mem_cons, List.not_mem_nil, or_false] at hd
      have p0 := (gs_pln g0).1
      have p1 := (gs_pln g0).2
      have gn : gsOk [] := ⟨Nat.zero_le _, fun g hg => by cases hg⟩
      have ga : gsOk (ls.map lotD ++ (ls.take 1).map lotD) := ⟨by rw [List.length_append, List.length_map, List.length_map]; omega, fun g hg => by
        rcases List.mem_append.mp hg with hg | hg
        · exact g0.2 g hg
        · exact g1.2 g hg⟩
      have gc : ∀ n : Nat, gsOk (cut (List.replicate 9 (ls.map lotD)).flatten none (some 17)) := fun n => by
        have hs := (List.take_sublist (HT.sIx (List.replicate 9 (ls.map lotD)).flatten.length (List.replicate 9 (ls.map lotD)).flatten.length (some 17) - HT.sIx (List.replicate 9 (ls.map lotD)).flatten.length 0 none) ((List.replicate 9 (ls.map lotD)).flatten.drop (HT.sIx (List.replicate 9 (ls.map lotD)).flatten.length 0 none))).trans (List.drop_sublist _ _)
        refine ⟨Nat.le_trans hs.length_le ?_, fun g hg => ?_⟩
        · rw [List.length_flatten, List.map_replicate, List.length_map, List.sum_replicate_nat]
          omega
        · obtain ⟨m, hm, hg⟩ := List.mem_flatten.mp (hs.subset hg)
          rw [List.eq_of_mem_replicate hm] at hg
          exact g0.2 g hg
      have gc := gc 0
      have sb : PyData.strOk (Str.ofString (toString b)) = true := by
        have : b = 1 ∨ b = 2 ∨ b = 3 ∨ b = 4 ∨ b = 5 ∨ b = 6 ∨ b = 7 ∨ b = 8 ∨ b = 9 ∨ b = 10 ∨ b = 11 ∨ b = 12 := by omega
        rcases this with rfl | rfl | rfl | rfl | rfl | rfl | rfl | rfl | rfl | rfl | rfl | rfl <;> decide +kernel
      rcases hd with rfl | rfl | rfl | rfl | rfl | rfl | rfl | rfl | rfl | rfl | rfl | rfl | rfl | rfl | rfl | rfl | rfl | rfl | rfl | rfl | rfl | rfl
      all_goals first
        | exact th_pair (pln_int _) g0
        | exact th_pair (pln_bl _) g0
        | exact th_pair pln_non g0
        | exact th_pair (pln_int _) g1
        | exact th_pair (pln_int _) gn
        | exact th_pair (pln_int _) ga
        | exact th_pair (pln_int _) gc
        | exact ⟨by simp [pln_tup, pln_lst, plns_cons, plns_nil, pln_int, pln_bl, pln_non, pln_dct, p0, p1], rfl⟩
        | exact ⟨by rw [pln_str]; decide +kernel, rfl⟩
        | exact th_pair (by rw [pln_str]; exact sb) g0
    · obtain ⟨x, hx, rfl⟩ := hy d hd
      refine th_pair (pln_int _) ⟨by rw [List.length_append, List.length_append, List.length_map, List.length_map, List.length_singleton]; omega, fun g hg => ?_⟩
      have gx : gOk x := by
        clear hy hd
        simp only [List.mem_cons, List.not_mem_nil, or_false] at hx
        have q1 : ∀ l : List Int, plns (l.map D.int) = true := plns_ints
        have q2 : ∀ l : List Int, plns (l.map D.int).reverse = true := plns_rev
        rcases hx with rfl | rfl | rfl | rfl | rfl | rfl | rfl | rfl | rfl | rfl
        · exact ⟨by rw [pln_lst, q1, decide_eq_true (by rw [List.length_map]; omega)]; rfl, rfl⟩
        · exact ⟨by rw [pln_tup, q1, decide_eq_true (by rw [List.length_map, List.length_reverse]; omega)]; rfl, decide_eq_true (by rw [List.length_map, List.length_reverse]; omega)⟩
        · exact ⟨by rw [pln_tup, plns_app, q1, plns_cons, plns_nil, pln_int, decide_eq_true (by rw [List.length_append, List.length_map, List.length_singleton]; omega)]; rfl, decide_eq_true (by rw [List.length_append, List.length_map, List.length_singleton]; omega)⟩
        · exact ⟨by rw [pln_tup, plns_app, q1, q1, decide_eq_true (by rw [List.length_append, List.length_map, List.length_map]; omega)]; rfl, decide_eq_true (by rw [List.length_append, List.length_map, List.length_map]; omega)⟩
        · exact ⟨by simp [pln_tup, plns_cons, plns_nil, pln_int], by decide⟩
        · exact ⟨by simp [pln_tup, plns_cons, plns_nil, pln_bl], by decide⟩
        · exact ⟨pln_non, rfl⟩
        · exact ⟨pln_int _, rfl⟩
        · exact ⟨by rw [pln_tup, plns_cons, plns_nil, pln_str]; decide +kernel, by decide⟩
        · exact ⟨by rw [pln_tup, plns_app, q1, plns_cons, plns_nil, pln_non, decide_eq_true (by rw [List.length_append, List.length_map, List.length_singleton]; omega)]; rfl, decide_eq_true (by rw [List.length_append, List.length_map, List.length_singleton]; omega)⟩
      rcases List.mem_append.mp hg with hg | hg
      · rcases List.mem_append.mp hg with hg | hg
        · obtain ⟨l, hl, rfl⟩ := List.mem_map.mp hg
          exact gOk_lot (by have := (ht.lot l (List.mem_of_mem_take hl)).len (by omega); omega)
        · rw [List.mem_singleton.mp hg]
          exact gx
      · obtain ⟨l, hl, rfl⟩ := List.mem_map.mp hg
        exact gOk_lot (by have := (ht.lot l (List.mem_of_mem_drop hl)).len (by omega); omega)
theorem forM_nop {α : Type} {f : D → DB.Env → M DB.Flow} {enc : α → D} {E : DB.Env} {S : Sto} {xs : List α} (h : ∀ x ∈ xs, f (enc x) E S = .ok (.nx E) S) : DB.forM f (xs.map enc) E S = .ok (.nx E) S :=
  forM_fold (σ := Unit) (E := fun _ => E) (S := fun _ => S) (step := fun t _ => t) (t := ()) fun _ x hx => h x hx
theorem oneD {l : List D} (hl : l ≠ []) (hz : l.length ≤ 1000000) (p : PP) (L : Sto) {Q : R → Sto → Prop} {w : Wit Q} (h : ∀ x p', x ∈ l → Q (.dat x) (pc p' :: L)) : wp (runV F__law_one [.cell 0, .dat (.tup l)] (pc p :: L)) Q w := by
  have := one id hl hz p L (w := w) h
  rwa [List.map_id] at this
theorem th_all {l : List D} (h : l.all (fun d => pln d && smT d) = true) {d : D} (hd : d ∈ l) : thOk d := by
  have := List.all_eq_true.mp h d hd
  rw [Bool.and_eq_true] at this
  exact this
theorem thing (p : PP) (L : Sto) {Q : R → Sto → Prop} {w : Wit Q} (h : ∀ d p', thOk d → Q (.dat d) (pc p' :: L)) : wp (runV F__law_thing [.cell 0] (pc p :: L)) Q w := by
  refine wp_run (as := []) rfl ?_
  simp! [B__law_thing, dctkB, keyF]
  refine oneD (by simp) (by simp) p _ fun d p hd => ?_
  simp! []
  exact ⟨_, p, _, rfl, rfl, h d p (th_all (by decide +kernel) hd)⟩
theorem law_same (x : Bool) (s : Sto) : runV (F__law_same 12) [.dat (.bl x), .dat (.bl x)] s = .ok (.dat (.bl true)) s := same12 (by simp only [shp_bl]) s
end K06
end
section
set_option maxHeartbeats 1000000
open PySem DB
local macro_rules | `(tactic| simp! [$ls,*]) => `(tactic| simp -dsimp -implicitDefEqProofs (disch := first | assumption | omega | simp -implicitDefEqProofs only [isObj_non, isObj_bl, isObj_int, isObj_str, isObj_tup, isObj_lst, isObj_scr, isObj_dct, shp_non, shp_bl, shp_int, shp_tup, shp_lst, shps_nil, shps_cons, shps_ints, shps_bls, shps_lots, shps_fun, Bool.and_true]) only [↓vE_k, ↓vE_v, ↓vE_glob, ↓vE_bin, ↓vE_neg, ↓vE_cmp, ↓vE_dctk, ↓vE_repEq, ↓vE_chain, ↓vE_isN, ↓vE_and, ↓vE_or, ↓vE_not, ↓vE_ite, ↓vE_tup, ↓vE_lst, ↓vE_ix, ↓vE_sl, ↓vE_isI, ↓vE_call, ↓vE_callK, ↓vE_bi, ↓vE_comp, ↓vE_mth, ↓vE_lrng, ↓vE_compp, ↓vE_comp2, ↓vE_dcomp, ↓vE_dcomp2, ↓vE_tups, ↓vE_lsts, ↓vE_sls, ↓vE_isIs, ↓vE_isB, ↓vE_dct, ↓vE_setw, ↓vE_xorw, ↓vE_rm, ↓vE_rep, ↓vE_mk, ↓vE_fld, ↓vE_zip, ↓vEs_nil, ↓vEs_cons, ↓vDs_nil, ↓vDs_cons, ↓vStar_nil, ↓vStar_cons, ↓vStar_star, ↓vPart_nil, ↓vPart_cons, ↓vAnd_nil, ↓vAnd_cons, ↓vOr_nil, ↓vOr_cons, ↓vT_val, ↓vT_and, ↓vT_or, ↓vT_not, ↓vT_cmp, ↓vT_chain, ↓vT_isN, ↓vTAnd_nil, ↓vTAnd_cons, ↓vTOr_nil, ↓vTOr_cons, ↓vIt_seq, ↓vIt_rng, ↓vIt_enum, ↓vIt_zip, ↓vIt_zip3, ↓vTg_n, ↓vTg_t, ↓vTg_ix, ↓vTgs_nil, ↓vTgs_cons, ↓vS_asg, ↓vS_asgT, ↓vS_par, ↓vS_ex, ↓vS_ret, ↓vS_retN, ↓vS_iff, ↓vS_for, ↓vS_whl, ↓vS_rai, ↓vS_pass, ↓vS_brk, ↓vS_cont, ↓vSs_nil, ↓vSs_cons, ↓vSs_zr, ↓runV_mk, ↓runV_ini, ↓runV_no, stepL_rev, rev_map, lstG_lst, zip3B_t, zipD3_map, wp_ok, ↓wp_bnd, backM_pc, ↓bind_ap, pure_ap, ↓rbind_ok, rbind_err, rbind_no, opt_some, guard_true, guard_and, guard_dec, guard_len, guard_mul, guard_pow, use_dat, use_own, peek_dat, peek_own, peek_cel, live_cel, use_cel, celD_some, celL_some, celU_t, celU_f, write_ap, peeks_nil, ↓peeks_cons, uses_nil, ↓uses_cons, join_some, ↓ite_ap, ite_res, ite_dat, ite_own, ite_int, ite_bl, ite_tup, ite_lst, ite_some, ite_nx, ite_rt, ite_cons, ite_cel, ite_same, ite_map, ite_tf, ite_ft, ite_bf, ite_tb, thenF_nx, thenF_rt, thenF_bk, thenF_ct, thenF_ite, flowR_rt, flowR_nx, flowR_ite, isNonR_non, isNonR_int, isNonR_bl, isNonR_str, isNonR_tup, isNonR_lst, isNonR_dct, isNonR_own, isNonR_cell, isNonR_ite, negR_int, notR_bl, intR_int, blR_bl, isBR_bl, ↓fldR_obj, tgD_tup, bindA_nil, ↓bindA_dat, ↓bindA_own0, ↓bindA_cell, ↓bindA_own, celA_nil, celA_f, celA_t, locA_nil, locA_f, locA_t, backM_nil, backM_0, finL_dat, finL_own, finL_c0, finL_c1, finL_err, finL_ite, finP_dat, finP_own, finP_c1, finP_ite, endFn_dat, endFn_own, endFn_dat1, endFn_own1, endFn_dat2, endFn_own2, trim_nx, trim_ct, trim_bk, trim_rt, trim_ite, tk_t, below_nil, below_none, below_dat, below_cell, Nat.reduceLT, Nat.reduceLeDiff, Nat.zero_lt_succ, wipe_nil, wipe_cons, aftF_nx, aftF_ct, aftF_bk, aftF_rt, forM_nil, keep_ok, keep_ite, ↓mapP_map, ↓mapP_nil, seqO_mem, optS_some, fm_some, fm_ite, fm_ite', ↓flatB_mm, ↓flatB_mi, flat_map, ↓vzr_ap, ↓vcomp_ap, ↓vdcomp_ap, ↓vcomp2_ap, ↓vloop_ap, ↓vbody_ap, ty_obj, ty_int, ty_bool, ty_str, ty_tuple, ty_list, ty_dict, isW_non, isW_bl, isW_int, isW_str, isW_tup, isW_lst, isW_scr, isW_dct, isObj_non, isObj_bl, isObj_int, isObj_str, isObj_tup, isObj_lst, isObj_scr, isObj_dct, isInt_non, isInt_bl, isInt_int, isInt_str, isInt_tup, isInt_lst, isInt_scr, isInt_dct, isBl_non, isBl_bl, isBl_int, isBl_str, isBl_tup, isBl_lst, isBl_scr, isBl_dct, isStr_non, isStr_bl, isStr_int, isStr_str, isStr_tup, isStr_lst, isStr_scr, isStr_dct, isTup_non, isTup_bl, isTup_int, isTup_str, isTup_tup, isTup_lst, isTup_scr, isTup_dct, isLst_non, isLst_bl, isLst_int, isLst_str, isLst_tup, isLst_lst, isLst_scr, isLst_dct, isDct_non, isDct_bl, isDct_int, isDct_str, isDct_tup, isDct_lst, isDct_scr, isDct_dct, at_0, at_1, at_2, at_3, ix_tup, ix_lst, ix_scr, ix_dct, store1_dat, store1_cell, store1_own0, store1_own1, set3_0, set3_1, set3_2, isB_int, isT_tup, endFn_dat0, endFn_own0, cut_map, cutA_to, cutA_from, cutA_all, rng1, rng2, rngR_t, rngR_f, enumD_0, zipD_map, intsOf_map, intsOf_fun, intsOf_nil, blsOf_nil, setB_t, setB_l, blsOf_map, blsOf_fun, all_id, any_id, isEmpty_map, deq_int, deq_bl, deq_lot, deq_lots, deq_lint, deq_lbl, din_int, din_bl, din_lot, din_lots, din_lot0, din_lot1, deq_lot0, deq_lint0, bltn, arg1, arg2, lenB, allB, anyB, intB, absB, minB, maxB, tupB, lstB, dmB, sortB, sumB, minLB, maxLB, binop, cmpop, slB, truth, itemsOf, parM, ixSet, mthB, isTupD, stB, Tg.slots, Tgs.slots, permL, List.length_cons, List.length_nil, List.length_map, List.replicate, List.append_nil, List.cons_append, List.nil_append, List.getElem?_cons_zero, List.getElem?_cons_succ, List.set_cons_zero, List.set_cons_succ, List.filterMap_cons, List.filterMap_nil, List.any_cons, List.any_nil, List.map_cons, List.map_nil, List.map_map, Function.comp, List.map_append, List.take_succ_cons, List.take_zero, List.take_nil, Nat.sub_self, Nat.reduceAdd, Nat.reduceSub, Nat.add_zero, Nat.zero_add, if_true, if_false, Bool.false_eq_true, Bool.not_true, Bool.not_false, Bool.not_eq_true', decide_eq_true_eq, decide_eq_false_iff_not, decide_true, decide_false, Bool.and_true, Bool.true_and, Bool.and_false, Bool.false_and, Bool.or_true, Bool.true_or, Bool.or_false, Bool.false_or, Bool.and_eq_true, Bool.or_eq_true, beq_self_eq_true, Bool.decide_eq_true, Int.reduceLT, Int.reduceLE, Int.reduceEq, Int.reduceNe, Int.reduceNeg, Int.reduceAdd, Int.reduceSub, Int.reduceMul, Int.reduceToNat, Int.reducePow, Nat.reducePow, Int.toNat_natCast, Bool.decide_and, Bool.decide_or, decide_not, true_and, and_true, not_true, not_false_eq_true, Int.zero_add, Int.natCast_nonneg, Int.cast_ofNat_Int, List.all_nil, all_true, any_false, Bool.bne_false, Bool.bne_true, dec_self, or_self, and_self, false_and, and_false, or_false, false_or, $ls,*])
namespace K06
/-- a thing whose table, if it has one, has no great glyphs -/
def dsOk (d : D) : Prop := pln d = true ∧ ∀ t q, d = .tup [t, q] → smT t = true
theorem dsp_no {d : D} (h : ∀ b ls q, Ds b ls q → d ≠ dspD b ls q) : dspG d = false := by
  rw [Bool.eq_false_iff]
  intro z
  obtain ⟨b, ls, q, e, hd⟩ := dspG_iff.mp z
  exact h b ls q hd e
theorem dsp_two {xs : List D} (h : xs.length ≠ 2) : dspG (.tup xs) = false := dsp_no fun b ls q hd e => by
  have e' : D.tup xs = D.tup [tabD b ls, .int q] := e
  injection e' with e'
  subst e'
  exact h rfl
theorem dsp_tab {x y : D} (h : tabG x = false) : dspG (.tup [x, y]) = false := dsp_no fun b ls q hd e => by
  have e' : D.tup [x, y] = D.tup [tabD b ls, .int q] := e
  injection e' with e'
  injection e' with e1 e2
  subst e1
  rw [tabG_tab, tabB_iff.mpr hd.tb] at h
  cases h
theorem dsp_q {x y : D} (h : ¬ isB y 1 4 = true) : dspG (.tup [x, y]) = false := dsp_no fun b ls q hd e => by
  have e' : D.tup [x, y] = D.tup [tabD b ls, .int q] := e
  injection e' with e'
  injection e' with e1 e2
  injection e2 with e2
  subst e2
  have := hd.lo
  have := hd.hi
  exact h (by rw [isB_int]; simp; omega)
theorem dsp_r {b q : Int} {ls : List (List Int)} (ht : Tb 12 16 b ls) (hq : 1 ≤ q ∧ q ≤ 4) : dspG (.tup [tabD b ls, .int q]) = decide (powI ls.length q ≤ 4096) := by
  show (tabG (tabD b ls) && ((decide (1 ≤ q) && decide (q ≤ 4)) && decide (powI (glen (tabD b ls)) q ≤ 4096))) = _
  rw [tabG_tab, tabB_iff.mpr ht, decide_eq_true hq.1, decide_eq_true hq.2]
  simp [glen]
theorem is_display_ofG (d : D) (h : pln d = true) (s : Sto) : runV F_is_display_of [.dat d] s = .ok (.dat (.bl (dspG d))) s := by
  have h0 := pln_obj h
  cases d with
  | tup xs =>
    replace h := (pln_tupD h).2
    match xs, h with
    | [x, y], h =>
      have px := pln_mem h x (by simp)
      have py := pln_mem h y (by simp)
      have oy := pln_obj py
      have k1 := fun s => is_table_ofG x px s
      have k3 := fun s => is_between y 1 4 oy s
      by_cases hx : tabG x = true
      · obtain ⟨b, ls, rfl, ht⟩ := tabG_inv hx
        rw [hx] at k1
        by_cases hy : isB y 1 4 = true
        · obtain ⟨q, rfl, q1, q2⟩ := isB_inv hy
          rw [hy] at k3
          have k2 := fun s => reach_of b ls q (by omega) (by have := ht.most; omega) s
          have k2' : ∀ s, runV F_reach_of [.dat (.tup [tabD b ls, .int q])] s = .ok (.dat (.int (powI ls.length q))) s := k2
          rw [dsp_r ht ⟨q1, q2⟩]
          simp! [F_is_display_of, B_is_display_of, is_pair, k1, k3, k2', G_MOST_PLACES, G_MOST_REACH, or_self]
        · rw [dsp_q hy]
          rw [Bool.eq_false_iff.mpr hy] at k3
          simp! [F_is_display_of, B_is_display_of, is_pair, k1, k3, G_MOST_PLACES, or_self]
      · have hx' : tabG x = false := Bool.eq_false_iff.mpr hx
        rw [dsp_tab hx']
        rw [hx'] at k1
        simp! [F_is_display_of, B_is_display_of, is_pair, k1, or_self]
    | [], h => rw [dsp_two (by simp)]; simp! [F_is_display_of, B_is_display_of, is_pair]
    | [x], h => rw [dsp_two (by simp)]; simp! [F_is_display_of, B_is_display_of, is_pair]
    | x :: y :: z :: r, h =>
      rw [dsp_two (by simp)]
      have : (decide ((2 : Int) ≤ ((r.length + 1 + 1 + 1 : Nat) : Int)) && decide (((r.length + 1 + 1 + 1 : Nat) : Int) ≤ 2)) = false := by simp; omega
      simp! [F_is_display_of, B_is_display_of, is_pair, this]
  | obj _ _ => cases h0
  | fn _ => cases h0
  | itr _ => cases h0
  | _ => simp! [F_is_display_of, B_is_display_of, is_pair, isT, dspG]
theorem law_is_display (d : D) (h : dsOk d) (s : Sto) : runV F__law_is_display [.dat d] s = .ok (.dat (.bl (dspG d))) s := by
  obtain ⟨h, hz⟩ := h
  have h0 := pln_obj h
  cases d with
  | tup xs =>
    replace h := (pln_tupD h).2
    match xs, h, hz with
    | [x, y], h, hz =>
      have px := pln_mem h x (by simp)
      have py := pln_mem h y (by simp)
      have oy := pln_obj py
      have k1 := fun s => law_is_table x px (hz x y rfl) s
      have k3 := fun s => law_is_number y 1 4 oy s
      by_cases hx : tabG x = true
      · obtain ⟨b, ls, rfl, ht⟩ := tabG_inv hx
        rw [hx] at k1
        by_cases hy : isB y 1 4 = true
        · obtain ⟨q, rfl, q1, q2⟩ := isB_inv hy
          rw [hy] at k3
          have k2 := fun s => law_reach b ls q (by omega) (by have := ht.most; omega) s
          have k2' : ∀ s, runV F__law_reach [.dat (.tup [tabD b ls, .int q])] s = .ok (.dat (.int (powI ls.length q))) s := k2
          rw [dsp_r ht ⟨q1, q2⟩]
          simp! [F__law_is_display, B__law_is_display, k1, k3, k2']
        · rw [dsp_q hy]
          rw [Bool.eq_false_iff.mpr hy] at k3
          simp! [F__law_is_display, B__law_is_display, k1, k3]
      · have hx' : tabG x = false := Bool.eq_false_iff.mpr hx
        rw [dsp_tab hx']
        rw [hx'] at k1
        simp! [F__law_is_display, B__law_is_display, k1]
    | [], h, _ => rw [dsp_two (by simp)]; simp! [F__law_is_display, B__law_is_display]
    | [x], h, _ => rw [dsp_two (by simp)]; simp! [F__law_is_display, B__law_is_display]
    | x :: y :: z :: r, h, _ =>
      rw [dsp_two (by simp)]
      have : decide (((r.length + 1 + 1 + 1 : Nat) : Int) = 2) = false := decide_eq_false (by omega)
      simp! [F__law_is_display, B__law_is_display, this]
  | obj _ _ => cases h0
  | fn _ => cases h0
  | itr _ => cases h0
  | _ => simp! [F__law_is_display, B__law_is_display, dspG]
end K06
end
section
set_option maxHeartbeats 1000000
open PySem DB
local macro_rules | `(tactic| simp! [$ls,*]) => `(tactic| simp -dsimp -implicitDefEqProofs (disch := first | assumption | omega | simp -implicitDefEqProofs only [isObj_non, isObj_bl, isObj_int, isObj_str, isObj_tup, isObj_lst, isObj_scr, isObj_dct, shp_non, shp_bl, shp_int, shp_tup, shp_lst, shps_nil, shps_cons, shps_ints, shps_bls, shps_lots, shps_fun, Bool.and_true]) only [↓vE_k, ↓vE_v, ↓vE_glob, ↓vE_bin, ↓vE_neg, ↓vE_cmp, ↓vE_dctk, ↓vE_repEq, ↓vE_chain, ↓vE_isN, ↓vE_and, ↓vE_or, ↓vE_not, ↓vE_ite, ↓vE_tup, ↓vE_lst, ↓vE_ix, ↓vE_sl, ↓vE_isI, ↓vE_call, ↓vE_callK, ↓vE_bi, ↓vE_comp, ↓vE_mth, ↓vE_lrng, ↓vE_compp, ↓vE_comp2, ↓vE_dcomp, ↓vE_dcomp2, ↓vE_tups, ↓vE_lsts, ↓vE_sls, ↓vE_isIs, ↓vE_isB, ↓vE_dct, ↓vE_setw, ↓vE_xorw, ↓vE_rm, ↓vE_rep, ↓vE_mk, ↓vE_fld, ↓vE_zip, ↓vEs_nil, ↓vEs_cons, ↓vDs_nil, ↓vDs_cons, ↓vStar_nil, ↓vStar_cons, ↓vStar_star, ↓vPart_nil, ↓vPart_cons, ↓vAnd_nil, ↓vAnd_cons, ↓vOr_nil, ↓vOr_cons, ↓vT_val, ↓vT_and, ↓vT_or, ↓vT_not, ↓vT_cmp, ↓vT_chain, ↓vT_isN, ↓vTAnd_nil, ↓vTAnd_cons, ↓vTOr_nil, ↓vTOr_cons, ↓vIt_seq, ↓vIt_rng, ↓vIt_enum, ↓vIt_zip, ↓vIt_zip3, ↓vTg_n, ↓vTg_t, ↓vTg_ix, ↓vTgs_nil, ↓vTgs_cons, ↓vS_asg, ↓vS_asgT, ↓vS_par, ↓vS_ex, ↓vS_ret, ↓vS_retN, ↓vS_iff, ↓vS_for, ↓vS_whl, ↓vS_rai, ↓vS_pass, ↓vS_brk, ↓vS_cont, ↓vSs_nil, ↓vSs_cons, ↓vSs_zr, ↓runV_mk, ↓runV_ini, ↓runV_no, stepL_rev, rev_map, lstG_lst, zip3B_t, zipD3_map, wp_ok, ↓wp_bnd, backM_pc, ↓bind_ap, pure_ap, ↓rbind_ok, rbind_err, rbind_no, opt_some, guard_true, guard_and, guard_dec, guard_len, guard_mul, guard_pow, use_dat, use_own, peek_dat, peek_own, peek_cel, live_cel, use_cel, celD_some, celL_some, celU_t, celU_f, write_ap, peeks_nil, ↓peeks_cons, uses_nil, ↓uses_cons, join_some, ↓ite_ap, ite_res, ite_dat, ite_own, ite_int, ite_bl, ite_tup, ite_lst, ite_some, ite_nx, ite_rt, ite_cons, ite_cel, ite_same, ite_map, ite_tf, ite_ft, ite_bf, ite_tb, thenF_nx, thenF_rt, thenF_bk, thenF_ct, thenF_ite, flowR_rt, flowR_nx, flowR_ite, isNonR_non, isNonR_int, isNonR_bl, isNonR_str, isNonR_tup, isNonR_lst, isNonR_dct, isNonR_own, isNonR_cell, isNonR_ite, negR_int, notR_bl, intR_int, blR_bl, isBR_bl, ↓fldR_obj, tgD_tup, bindA_nil, ↓bindA_dat, ↓bindA_own0, ↓bindA_cell, ↓bindA_own, celA_nil, celA_f, celA_t, locA_nil, locA_f, locA_t, backM_nil, backM_0, finL_dat, finL_own, finL_c0, finL_c1, finL_err, finL_ite, finP_dat, finP_own, finP_c1, finP_ite, endFn_dat, endFn_own, endFn_dat1, endFn_own1, endFn_dat2, endFn_own2, trim_nx, trim_ct, trim_bk, trim_rt, trim_ite, tk_t, below_nil, below_none, below_dat, below_cell, Nat.reduceLT, Nat.reduceLeDiff, Nat.zero_lt_succ, wipe_nil, wipe_cons, aftF_nx, aftF_ct, aftF_bk, aftF_rt, forM_nil, keep_ok, keep_ite, ↓mapP_map, ↓mapP_nil, seqO_mem, optS_some, fm_some, fm_ite, fm_ite', ↓flatB_mm, ↓flatB_mi, flat_map, ↓vzr_ap, ↓vcomp_ap, ↓vdcomp_ap, ↓vcomp2_ap, ↓vloop_ap, ↓vbody_ap, ty_obj, ty_int, ty_bool, ty_str, ty_tuple, ty_list, ty_dict, isW_non, isW_bl, isW_int, isW_str, isW_tup, isW_lst, isW_scr, isW_dct, isObj_non, isObj_bl, isObj_int, isObj_str, isObj_tup, isObj_lst, isObj_scr, isObj_dct, isInt_non, isInt_bl, isInt_int, isInt_str, isInt_tup, isInt_lst, isInt_scr, isInt_dct, isBl_non, isBl_bl, isBl_int, isBl_str, isBl_tup, isBl_lst, isBl_scr, isBl_dct, isStr_non, isStr_bl, isStr_int, isStr_str, isStr_tup, isStr_lst, isStr_scr, isStr_dct, isTup_non, isTup_bl, isTup_int, isTup_str, isTup_tup, isTup_lst, isTup_scr, isTup_dct, isLst_non, isLst_bl, isLst_int, isLst_str, isLst_tup, isLst_lst, isLst_scr, isLst_dct, isDct_non, isDct_bl, isDct_int, isDct_str, isDct_tup, isDct_lst, isDct_scr, isDct_dct, at_0, at_1, at_2, at_3, ix_tup, ix_lst, ix_scr, ix_dct, store1_dat, store1_cell, store1_own0, store1_own1, set3_0, set3_1, set3_2, isB_int, isT_tup, endFn_dat0, endFn_own0, cut_map, cutA_to, cutA_from, cutA_all, rng1, rng2, rngR_t, rngR_f, enumD_0, zipD_map, intsOf_map, intsOf_fun, intsOf_nil, blsOf_nil, setB_t, setB_l, blsOf_map, blsOf_fun, all_id, any_id, isEmpty_map, deq_int, deq_bl, deq_lot, deq_lots, deq_lint, deq_lbl, din_int, din_bl, din_lot, din_lots, din_lot0, din_lot1, deq_lot0, deq_lint0, bltn, arg1, arg2, lenB, allB, anyB, intB, absB, minB, maxB, tupB, lstB, dmB, sortB, sumB, minLB, maxLB, binop, cmpop, slB, truth, itemsOf, parM, ixSet, mthB, isTupD, stB, Tg.slots, Tgs.slots, permL, List.length_cons, List.length_nil, List.length_map, List.replicate, List.append_nil, List.cons_append, List.nil_append, List.getElem?_cons_zero, List.getElem?_cons_succ, List.set_cons_zero, List.set_cons_succ, List.filterMap_cons, List.filterMap_nil, List.any_cons, List.any_nil, List.map_cons, List.map_nil, List.map_map, Function.comp, List.map_append, List.take_succ_cons, List.take_zero, List.take_nil, Nat.sub_self, Nat.reduceAdd, Nat.reduceSub, Nat.add_zero, Nat.zero_add, if_true, if_false, Bool.false_eq_true, Bool.not_true, Bool.not_false, Bool.not_eq_true', decide_eq_true_eq, decide_eq_false_iff_not, decide_true, decide_false, Bool.and_true, Bool.true_and, Bool.and_false, Bool.false_and, Bool.or_true, Bool.true_or, Bool.or_false, Bool.false_or, Bool.and_eq_true, Bool.or_eq_true, beq_self_eq_true, Bool.decide_eq_true, Int.reduceLT, Int.reduceLE, Int.reduceEq, Int.reduceNe, Int.reduceNeg, Int.reduceAdd, Int.reduceSub, Int.reduceMul, Int.reduceToNat, Int.reducePow, Nat.reducePow, Int.toNat_natCast, Bool.decide_and, Bool.decide_or, decide_not, true_and, and_true, not_true, not_false_eq_true, Int.zero_add, Int.natCast_nonneg, Int.cast_ofNat_Int, List.all_nil, all_true, any_false, Bool.bne_false, Bool.bne_true, dec_self, or_self, and_self, false_and, and_false, or_false, false_or, $ls,*])
namespace K06
def dsB (d : D) : Bool := pln d && (match d with | .tup [t, _] => smT t | _ => true)
theorem dsB_ok {d : D} (h : dsB d = true) : dsOk d := by
  unfold dsB at h
  rw [Bool.and_eq_true] at h
  refine ⟨h.1, fun t q e => ?_⟩
  subst e
  exact h.2
theorem ds_all {l : List D} (h : l.all dsB = true) {d : D} (hd : d ∈ l) : dsOk d := dsB_ok (List.all_eq_true.mp h d hd)
theorem thing2 (p : PP) (L : Sto) {Q : R → Sto → Prop} {w : Wit Q} (h : ∀ d p', dsOk d → Q (.dat d) (pc p' :: L)) : wp (runV F__law_thing [.cell 0] (pc p :: L)) Q w := by
  refine wp_run (as := []) rfl ?_
  simp! [B__law_thing, dctkB, keyF]
  refine oneD (by simp) (by simp) p _ fun d p hd => ?_
  simp! []
  exact ⟨_, p, _, rfl, rfl, h d p (ds_all (by decide +kernel) hd)⟩
theorem is_displayG (d : D) (h : dsOk d) (s : Sto) : runV F_is_display [.dat d] s = .ok (.dat (.bl (dspG d))) s := by
  simp! [F_is_display, B_is_display, is_display_ofG d h.1]
theorem ds_pair {t q : D} (h : thOk t) (hq : pln q = true) : dsOk (.tup [t, q]) := ⟨by rw [pln_pair, h.1, hq]; rfl, fun t' q' e => by
  injection e with e
  injection e with e1 e2
  subst e1
  exact h.2⟩
theorem compM_g {f : D → M (Option D)} {g : D → D} {xs : List D} {L : Sto} {Q : List D → Sto → Prop} {w : Wit Q} (p : PP) (h : ∀ y ∈ xs, ∀ p, f y (pc p :: L) = .ok (some (g y)) (pc p :: L))
    (k : ∀ zs p', (∀ z ∈ zs, ∃ y ∈ xs, z = g y) → zs.length = xs.length → Q zs (pc p' :: L)) : wp (DB.compM f xs (pc p :: L)) Q w := by
  have := compM_pool (enc := fun d : D => d) (dec := fun d : D => d) (xs := xs) (P := fun z => ∃ y ∈ xs, z = g y) (f := f) (Q := Q) (w := w) p (fun y hy p => by rw [h y hy p]; exact ⟨⟨p, rfl⟩, g y, rfl, y, hy, rfl⟩) (fun zs p hl hp => by rw [List.map_id']; exact k zs p hp hl)
  rwa [List.map_id'] at this
def pw (a : Int) : Int := if a = 0 then 1 else if a = 1 then 2 else 4
theorem right {l : List D} (hl : PoolL l) (s : Sto) : runV F__law_right [.own (.lst l)] s = .ok (.dat (.bl true)) s := by
  refine run_own hl (fun p => ?_) s
  simp! [B__law_right, ws__law_right_2]
  refine forM_pool p (fun x _ p => ?_) fun p => ?_
  · simp! [ft__law_right_2, fb__law_right_2]
    refine display (by decide) (by decide) (by decide) p _ fun b ls q p ht q1 q2 q3 => ?_
    have hD : Ds b ls q := ⟨ht, q1, q2, q3⟩
    have b1 := ht.lo
    have b2 := ht.hi
    have b3 := ht.most
    have b4 := ht.two
    have k1 := fun s => reach hD s
    have k2 := fun s => law_reach b ls q (by omega) (by omega) s
    have k3 : ∀ s, runV (F__law_same 12) [.dat (.int (powI ls.length q)), .dat (.int (powI ls.length q))] s = .ok (.dat (.bl true)) s := fun s => same12 (by simp only [shp_int]) s
    have g0 := gsOk_lots (b := b) (by omega) ht.lot (by omega)
    have tt : thOk (tabD b ls) := th_pair (pln_int _) g0
    by_cases hx : x = 1
    all_goals
      simp! [k1, k2, k3, hx]
      refine wp_mapP (g := fun y => .tup [tabD b ls, y]) (fun y hy => by simp! []) fun ys hy hz => ?_
      have fm : List.filterMap id (List.map some ys) = ys := by simp
      simp! [fm]
      refine bent ht p _ fun ds p hd hz2 => ?_
      simp! []
      refine compM_g (g := fun y => .tup [y, .int q]) p (fun y hy p => by simp! [tg__law_right_0, cd__law_right_0, el__law_right_0]) fun zs p hzs hzl => ?_
      have hyl : ys.length ≤ 10 := by rw [hz]; exact Nat.le_refl 10
      simp! [dctkB]
      refine thing2 p _ fun d p td => ?_
      have hyz : (ys ++ zs).length ≤ 2000 := by rw [List.length_append]; omega
      simp! [ws__law_right_1]
      refine forM_poolD p (fun u hu p => ?_) fun p => ?_
      · have tu : dsOk u := by
          have px := (gs_pln g0).1
          have pt : pln (.tup [.int b, .tup (ls.map lotD)]) = true := tt.1
          rcases List.mem_append.mp hu with hu | hu
          · rcases List.mem_append.mp hu with hu | hu
            · obtain ⟨y, hy2, rfl⟩ := hy u hu
              refine ds_pair tt (List.all_eq_true.mp (show ([.int 0, .int 1, .int 2, .int 3, .int 4, .int 5, .bl true, .non, .str (Str.ofString "1"), .int (-1)] : List D).all pln = true by decide +kernel) y hy2)
            · obtain ⟨y, hy2, rfl⟩ := hzs u hu
              exact ds_pair (hd y hy2) (pln_int _)
          · simp only [List.mem_cons, List.not_mem_nil, or_false] at hu
            rcases hu with rfl | rfl | rfl | rfl | rfl | rfl | rfl | rfl | rfl | rfl
            · exact ⟨by simp [pln_lst, plns_cons, plns_nil, pln_int, pt], fun t q e => by cases e⟩
            · exact ⟨by simp [pln_tup, plns_cons, plns_nil, pln_int, px], fun t q e => by cases e⟩
            · exact ⟨by simp [pln_tup, plns_cons, plns_nil, pln_int, px], fun t q e => by cases e⟩
            · exact ⟨by simp [pln_tup, plns_cons, plns_nil, pln_int, px], fun t q e => by cases e; rfl⟩
            · exact ⟨pt, fun t q e => by cases e; rfl⟩
            · exact ⟨pln_non, fun t q e => by cases e⟩
            · exact ⟨by simp [pln_tup, plns_nil], fun t q e => by cases e⟩
            · exact ⟨pln_int _, fun t q e => by cases e⟩
            · exact ⟨pln_dct _ _, fun t q e => by cases e⟩
            · exact td
        have k4 := fun s => is_displayG u tu s
        have k5 := fun s => law_is_display u tu s
        have k6 : ∀ s, runV (F__law_same 12) [.dat (.bl (dspG u)), .dat (.bl (dspG u))] s = .ok (.dat (.bl true)) s := fun s => same12 (by simp only [shp_bl]) s
        simp! [ft__law_right_1, fb__law_right_1, k4, k5, k6, hx]
        exact ⟨.inl trivial, p, rfl⟩
      · simp! []
        exact ⟨.inl trivial, p, rfl⟩
  · have a1 : ∀ a, a ∈ ir 0 3 → at? [D.int 1, .int 2, .int 4] a = some (.int (pw a)) := fun a ha => by
      have := mem_ir.mp ha
      have : a = 0 ∨ a = 1 ∨ a = 2 := by omega
      rcases this with rfl | rfl | rfl <;> rfl
    have a2 : ∀ a : Int, 0 < pw a := fun a => by unfold pw; split <;> (try split) <;> decide
    have a3 : ∀ a : Int, pw a < 1073741824 := fun a => by unfold pw; split <;> (try split) <;> decide
    have e8 : (ir 0 8).map (fun a => (ir 0 3).filter fun c => decide (a / pw c % 2 = 1)) = [[], [0], [1], [0, 1], [2], [0, 2], [1, 2], [0, 1, 2]] := by decide +kernel
    have ok8 : ∀ l ∈ ([[], [0], [1], [0, 1], [2], [0, 2], [1, 2], [0, 1, 2]] : List (List Int)), Lot 3 l := fun l hl => (lotB_iff (by decide)).mp (by revert l; decide)
    have ok9 : ∀ l ∈ ([[], [0], [1], [0, 1], [2], [0, 2], [1, 2], [0, 1, 2], [3]] : List (List Int)), Lot 4 l := fun l hl => (lotB_iff (by decide)).mp (by revert l; decide)
    have d8 : Ds 3 [[], [0], [1], [0, 1], [2], [0, 2], [1, 2], [0, 1, 2]] 4 := ⟨⟨by decide, by decide, by decide, by decide, by decide, ok8⟩, by decide, by decide, by decide⟩
    have t9 : Tb 12 16 4 [[], [0], [1], [0, 1], [2], [0, 2], [1, 2], [0, 1, 2], [3]] := ⟨by decide, by decide, by decide, by decide, by decide, ok9⟩
    have g8 := fun s => is_displayG (dspD 3 [[], [0], [1], [0, 1], [2], [0, 2], [1, 2], [0, 1, 2]] 4) (ds_all (l := [dspD 3 [[], [0], [1], [0, 1], [2], [0, 2], [1, 2], [0, 1, 2]] 4]) (by decide +kernel) (List.mem_singleton.mpr rfl)) s
    have g9 := fun s => is_displayG (dspD 4 [[], [0], [1], [0, 1], [2], [0, 2], [1, 2], [0, 1, 2], [3]] 4) (ds_all (l := [dspD 4 [[], [0], [1], [0, 1], [2], [0, 2], [1, 2], [0, 1, 2], [3]] 4]) (by decide +kernel) (List.mem_singleton.mpr rfl)) s
    have g9' := fun s => is_displayG (dspD 4 [[], [0], [1], [0, 1], [2], [0, 2], [1, 2], [0, 1, 2], [3]] 3) (ds_all (l := [dspD 4 [[], [0], [1], [0, 1], [2], [0, 2], [1, 2], [0, 1, 2], [3]] 3]) (by decide +kernel) (List.mem_singleton.mpr rfl)) s
    have r8 := fun s => reach d8 s
    have v1 : dspG (dspD 3 [[], [0], [1], [0, 1], [2], [0, 2], [1, 2], [0, 1, 2]] 4) = true := by decide +kernel
    have v2 : dspG (dspD 4 [[], [0], [1], [0, 1], [2], [0, 2], [1, 2], [0, 1, 2], [3]] 4) = false := by decide +kernel
    have v3 : dspG (dspD 4 [[], [0], [1], [0, 1], [2], [0, 2], [1, 2], [0, 1, 2], [3]] 3) = true := by decide +kernel
    rw [v1] at g8
    rw [v2] at g9
    rw [v3] at g9'
    obtain ⟨E8, hE⟩ : ∃ E8 : List (List Int), E8 = [[], [0], [1], [0, 1], [2], [0, 2], [1, 2], [0, 1, 2]] := ⟨_, rfl⟩
    have n9 : ([[], [0], [1], [0, 1], [2], [0, 2], [1, 2], [0, 1, 2], [3]] : List (List Int)) = E8 ++ [[3]] := by rw [hE]; rfl
    have p8 : powI (E8.length : Int) 4 = 4096 := by rw [hE]; decide +kernel
    have l8 : E8.length = 8 := by rw [hE]; rfl
    rw [← hE] at g8 r8 e8
    rw [n9] at g9 g9'
    rw [p8] at r8
    have f1 : ∀ s, runV F_is_display [.dat (.tup [.tup [.int 3, .tup (E8.map lotD)], .int 4])] s = .ok (.dat (.bl true)) s := g8
    have f2 : ∀ s, runV F_reach [.dat (.tup [.tup [.int 3, .tup (E8.map lotD)], .int 4])] s = .ok (.dat (.int 4096)) s := r8
    have en : (E8 ++ [[3]]).map lotD = E8.map lotD ++ [.tup [.int 3]] := by rw [List.map_append]; rfl
    have f3 : ∀ s, runV F_is_display [.dat (.tup [.tup [.int 4, .tup (E8.map lotD ++ [.tup [.int 3]])], .int 4])] s = .ok (.dat (.bl false)) s := fun s => by rw [← en]; exact g9 s
    have f4 : ∀ s, runV F_is_display [.dat (.tup [.tup [.int 4, .tup (E8.map lotD ++ [.tup [.int 3]])], .int 3])] s = .ok (.dat (.bl true)) s := fun s => by rw [← en]; exact g9' s
    have e9 : (ir 0 8).map (fun a => D.tup (((ir 0 3).filter fun c => decide (a / pw c % 2 = 1)).map D.int)) = E8.map lotD := by rw [← e8, List.map_map]; rfl
    have f5 : deq (.lst [.bl true, .int 4096, .bl false, .bl true]) (.lst [.bl true, .int 4096, .bl false, .bl true]) = some true := deq_self (by simp [shp_lst, shps_cons, shps_nil, shp_bl, shp_int])
    simp! [a1, a2, a3, e9, l8, f1, f2, f3, f4, f5]
theorem pool (ns : List Int) (lap : Int) (h0 : 0 ≤ lap) : ∃ l, PoolL l ∧ ∀ s, runV F__law_pool [.dat (.scr (ns.map D.int)), .dat (.int lap)] s = .ok (.own (.lst l)) s := by
  obtain ⟨r, ⟨l, hl, rfl⟩, hr⟩ := run_dat0 (n := 5) (body := B__law_pool) (as := [.scr (ns.map D.int), .int lap]) (P := fun r => ∃ l, PoolL l ∧ r = .own (.lst l)) rfl (by
    have fin : ∀ c x : Int, wp (vSs (match B__law_pool with | .cons _ (.cons _ (.cons _ t)) => t | t => t) [some (.dat (.scr (ns.map D.int))), some (.dat (.int lap)), some (.dat (.int c)), some (.dat (.int x)), none] []) (fun fl _ => (∃ d, fl = .rt (.dat d) ∧ ∃ l, PoolL l ∧ R.dat d = .own (.lst l)) ∨ ∃ d, fl = .rt (.own d) ∧ ∃ l, PoolL l ∧ R.own d = .own (.lst l)) ⟨⟩ := by
      intro c x
      by_cases h1 : c < 0
      · simp! [B__law_pool, h1]
        exact .inr ⟨_, rfl, _, ⟨_, _, _, rfl, Int.emod_nonneg _ (by decide)⟩, rfl⟩
      · by_cases h2 : 1000000000000000 ≤ c
        · simp! [B__law_pool, h1, h2]
          exact .inr ⟨_, rfl, _, ⟨_, _, _, rfl, Int.emod_nonneg _ (by decide)⟩, rfl⟩
        · simp! [B__law_pool, h1, h2]
          exact .inr ⟨_, rfl, _, ⟨_, _, _, rfl, Int.le_refl _⟩, rfl⟩
    by_cases hl : lap < (ns.length : Int) <;> simp! [B__law_pool, ws__law_pool_0, hl, at_scr] <;>
      refine forM_env2 (fun c t : Int => [some (.dat (.scr (ns.map D.int))), some (.dat (.int lap)), some (.dat (.int c)), some (.dat (.int t)), none]) _ _ (fun a _ t => ?_) fun t => ?_
    · simp! [ft__law_pool_0, fb__law_pool_0]
      exact ⟨_, rfl⟩
    · exact fin _ _
    · simp! [ft__law_pool_0, fb__law_pool_0]
      exact ⟨_, rfl⟩
    · exact fin _ _)
  exact ⟨l, hl, hr⟩
theorem law (ns : List Int) (h : ns.length ≤ 63) : ∃ st', runV F_law [.dat (.scr (ns.map D.int))] [] = .ok (.dat (.bl true)) st' := by
  obtain ⟨g, hg⟩ := Classical.skolem.mp (show ∀ lap : Int, ∃ l, 0 ≤ lap → PoolL l ∧ ∀ s, runV F__law_pool [.dat (.scr (ns.map D.int)), .dat (.int lap)] s = .ok (.own (.lst l)) s from fun lap => by
    by_cases h0 : 0 ≤ lap
    · obtain ⟨l, h1, h2⟩ := pool ns lap h0
      exact ⟨l, fun _ => ⟨h1, h2⟩⟩
    · exact ⟨[], fun z => absurd z h0⟩)
  have hp : ∀ x, x ∈ ir 0 (if (if (2 : Int) < (ns.length : Int) then 2 else (ns.length : Int)) > 1 then (if (2 : Int) < (ns.length : Int) then 2 else (ns.length : Int)) else 1) → ∀ s, runV F__law_pool [.dat (.scr (ns.map D.int)), .dat (.int x)] s = .ok (.own (.lst (g x))) s := fun x hx => (hg x (mem_ir.mp hx).1).2
  have hr : ∀ x, x ∈ ir 0 (if (if (2 : Int) < (ns.length : Int) then 2 else (ns.length : Int)) > 1 then (if (2 : Int) < (ns.length : Int) then 2 else (ns.length : Int)) else 1) → ∀ s, runV F__law_right [.own (.lst (g x))] s = .ok (.dat (.bl true)) s := fun x hx s => right (hg x (mem_ir.mp hx).1).1 s
  exact ⟨[], by simp! [F_law, B_law, hp, hr]⟩
end K06
end
set_option maxHeartbeats 0
namespace K06
open PySem PySem.Spec PyProof.Rows L2 DB
def d__law_below : Dn := ⟨"_law_below", defArgs (top 31), defBody (top 31), defScope (top 31), ["pool", "many"], ["pool", "many", "figure", "stirred"], []⟩
def d__law_lot : Dn := ⟨"_law_lot", defArgs (top 33), defBody (top 33), defScope (top 33), ["pool", "bars"], ["pool", "bars", "bar"], []⟩
def d__law_order : Dn := ⟨"_law_order", defArgs (top 35), defBody (top 35), defScope (top 35), ["pool", "some"], ["pool", "some", "left", "found", "lap"], []⟩
def d__law_table : Dn := ⟨"_law_table", defArgs (top 34), defBody (top 34), defScope (top 34), ["pool", "most", "glyphs"], ["pool", "most", "glyphs", "bars", "found", "lap", "lot"], []⟩
def d__law_display : Dn := ⟨"_law_display", defArgs (top 36), defBody (top 36), defScope (top 36), ["pool", "most", "glyphs", "high"], ["pool", "most", "glyphs", "high", "table", "places", "lap", "width", "place"], []⟩
def d_power : Dn := ⟨"power", defArgs (top 20), defBody (top 20), defScope (top 20), ["base", "number"], ["base", "number", "found", "_"], []⟩
def d_reach_of : Dn := ⟨"reach_of", defArgs (top 21), defBody (top 21), defScope (top 21), ["display"], ["display", "table", "places"], []⟩
def d_is_tuple_up_to : Dn := ⟨"is_tuple_up_to", defArgs (top 7), defBody (top 7), defScope (top 7), ["value", "low", "high"], ["value", "low", "high"], []⟩
def d_is_tuple_of : Dn := ⟨"is_tuple_of", defArgs (top 8), defBody (top 8), defScope (top 8), ["value", "many"], ["value", "many"], []⟩
def d_is_pair : Dn := ⟨"is_pair", defArgs (top 9), defBody (top 9), defScope (top 9), ["value"], ["value"], []⟩
def d_are_unlike : Dn := ⟨"are_unlike", defArgs (top 11), defBody (top 11), defScope (top 11), ["values"], ["values", "at", "value"], []⟩
def d_is_whole : Dn := ⟨"is_whole", defArgs (top 4), defBody (top 4), defScope (top 4), ["value"], ["value"], []⟩
def d_is_between : Dn := ⟨"is_between", defArgs (top 5), defBody (top 5), defScope (top 5), ["value", "low", "high"], ["value", "low", "high"], []⟩
def d_are_rising : Dn := ⟨"are_rising", defArgs (top 10), defBody (top 10), defScope (top 10), ["values"], ["values", "one", "two"], []⟩
def d_is_up_to : Dn := ⟨"is_up_to", defArgs (top 6), defBody (top 6), defScope (top 6), ["value", "most"], ["value", "most"], []⟩
def d_is_lot_of : Dn := ⟨"is_lot_of", defArgs (top 18), defBody (top 18), defScope (top 18), ["bars", "value"], ["bars", "value", "bar"], []⟩
def d_is_table_of : Dn := ⟨"is_table_of", defArgs (top 19), defBody (top 19), defScope (top 19), ["value"], ["value", "glyph"], []⟩
def d_is_display_of : Dn := ⟨"is_display_of", defArgs (top 22), defBody (top 22), defScope (top 22), ["value"], ["value"], []⟩
def d_check_display : Dn := ⟨"check_display", defArgs (top 23), defBody (top 23), defScope (top 23), ["display"], ["display"], []⟩
def d_reach_by : Dn := ⟨"reach_by", defArgs (top 25), defBody (top 25), defScope (top 25), ["display"], ["display"], []⟩
def d_reach : Dn := ⟨"reach", defArgs (top 28), defBody (top 28), defScope (top 28), ["display"], ["display"], [⟨0, ["display"], [], [0]⟩]⟩
def d__law_same : Dn := ⟨"_law_same", defArgs (top 44), defBody (top 44), defScope (top 44), ["told", "due"], ["told", "due", "key", "x", "y"], []⟩
def d_is_display : Dn := ⟨"is_display", defArgs (top 27), defBody (top 27), defScope (top 27), ["value"], ["value"], [⟨0, ["value"], [], [0]⟩]⟩
def d__law_reach : Dn := ⟨"_law_reach", defArgs (top 37), defBody (top 37), defScope (top 37), ["display"], ["display", "found", "place"], []⟩
def d__law_one : Dn := ⟨"_law_one", defArgs (top 32), defBody (top 32), defScope (top 32), ["pool", "some"], ["pool", "some"], []⟩
def d__law_thing : Dn := ⟨"_law_thing", defArgs (top 43), defBody (top 43), defScope (top 43), ["pool"], ["pool"], []⟩
def d__law_bent_tables : Dn := ⟨"_law_bent_tables", defArgs (top 42), defBody (top 42), defScope (top 42), ["pool", "table"], ["pool", "table", "bars", "glyphs", "at", "lot", "found", "odd", "each"], []⟩
def d__law_is_number : Dn := ⟨"_law_is_number", defArgs (top 38), defBody (top 38), defScope (top 38), ["thing", "low", "high"], ["thing", "low", "high"], []⟩
def d__law_is_lot : Dn := ⟨"_law_is_lot", defArgs (top 39), defBody (top 39), defScope (top 39), ["bars", "thing"], ["bars", "thing", "each"], []⟩
def d__law_is_table : Dn := ⟨"_law_is_table", defArgs (top 40), defBody (top 40), defScope (top 40), ["thing"], ["thing", "each"], []⟩
def d__law_is_display : Dn := ⟨"_law_is_display", defArgs (top 41), defBody (top 41), defScope (top 41), ["thing"], ["thing"], []⟩
def d__law_right : Dn := ⟨"_law_right", defArgs (top 45), defBody (top 45), defScope (top 45), ["pool"], ["pool", "lap", "display", "table", "places", "told", "things", "each", "thing", "eight", "number", "bar", "nine"], []⟩
def d__law_pool : Dn := ⟨"_law_pool", defArgs (top 30), defBody (top 30), defScope (top 30), ["script", "lap"], ["script", "lap", "cell", "stirred", "each"], []⟩
def d_law : Dn := ⟨"law", defArgs (top 46), defBody (top 46), defScope (top 46), ["script"], ["script", "lap"], []⟩
def DS : List Dn := [d__law_below, d__law_lot, d__law_order, d__law_table, d__law_display, d_power, d_reach_of, d_is_tuple_up_to, d_is_tuple_of, d_is_pair, d_are_unlike, d_is_whole, d_is_between, d_are_rising, d_is_up_to, d_is_lot_of, d_is_table_of, d_is_display_of, d_check_display, d_reach_by, d_reach, d__law_same, d_is_display, d__law_reach, d__law_one, d__law_thing, d__law_bent_tables, d__law_is_number, d__law_is_lot, d__law_is_table, d__law_is_display, d__law_right, d__law_pool, d_law]
def GL : List (Str × D) := [("MOST_BARS", G_MOST_BARS), ("LEAST_GLYPHS", G_LEAST_GLYPHS), ("MOST_GLYPHS", G_MOST_GLYPHS), ("MOST_PLACES", G_MOST_PLACES), ("MOST_REACH", G_MOST_REACH)]
def NS0 : List Str := ["_law_below", "_law_lot", "_law_order", "_law_table", "_law_display", "power", "reach_of", "is_tuple_up_to", "is_tuple_of", "is_pair", "are_unlike", "is_whole", "is_between", "are_rising", "is_up_to", "is_lot_of", "is_table_of", "is_display_of", "check_display", "reach_by", "reach", "_law_same", "is_display", "_law_reach"]
def NS1 : List Str := ["_law_one", "_law_thing", "_law_bent_tables", "_law_is_number", "_law_is_lot", "_law_is_table", "_law_is_display", "_law_right", "_law_pool", "law"]
def NS : List Str := NS0 ++ NS1
theorem gl_MOST_BARS : (("MOST_BARS" : Str), G_MOST_BARS) ∈ GL := List.mem_of_getElem? (i := 0) rfl
theorem gl_LEAST_GLYPHS : (("LEAST_GLYPHS" : Str), G_LEAST_GLYPHS) ∈ GL := List.mem_of_getElem? (i := 1) rfl
theorem gl_MOST_GLYPHS : (("MOST_GLYPHS" : Str), G_MOST_GLYPHS) ∈ GL := List.mem_of_getElem? (i := 2) rfl
theorem gl_MOST_PLACES : (("MOST_PLACES" : Str), G_MOST_PLACES) ∈ GL := List.mem_of_getElem? (i := 3) rfl
theorem gl_MOST_REACH : (("MOST_REACH" : Str), G_MOST_REACH) ∈ GL := List.mem_of_getElem? (i := 4) rfl
theorem kw_reach_0 : kwOk DS 20 0 ["display"] [] [0] := ⟨d_reach, rfl, List.mem_of_getElem? (i := 0) rfl⟩
theorem kw_is_display_0 : kwOk DS 22 0 ["value"] [] [0] := ⟨d_is_display, rfl, List.mem_of_getElem? (i := 0) rfl⟩
theorem sc__law_below : C8.scC d__law_below.N d__law_below.ps d__law_below.scope = true := by decide +kernel
theorem ag__law_below : agSs ⟨d__law_below.N, d__law_below.scope, none, NS⟩ B__law_below d__law_below.body = true := by kernel_rfl
theorem good__law_below (k : Nat) (h : 1 ≤ k) : GoodF DS GL k 0 F__law_below := by
  obtain ⟨k, rfl⟩ : ∃ j, k = j + 1 := ⟨k - 1, by omega⟩
  refine ⟨d__law_below, rfl, rfl, rfl, sc__law_below, ag__law_below, ?_⟩
  simp only [B__law_below, KnSs, KnS, KnE, KnEs, KnT, KnTs, KnIt, KnTg, KnTgs, and_true, true_and, and_true]
theorem sc__law_lot : C8.scC d__law_lot.N d__law_lot.ps d__law_lot.scope = true := by decide +kernel
theorem ag__law_lot : agSs ⟨d__law_lot.N, d__law_lot.scope, none, NS⟩ B__law_lot d__law_lot.body = true := by kernel_rfl
theorem good__law_lot (k : Nat) (h : 2 ≤ k) : GoodF DS GL k 1 F__law_lot := by
  obtain ⟨k, rfl⟩ : ∃ j, k = j + 1 := ⟨k - 1, by omega⟩
  refine ⟨d__law_lot, rfl, rfl, rfl, sc__law_lot, ag__law_lot, ?_⟩
  simp only [B__law_lot, KnSs, KnS, KnE, KnEs, KnT, KnTs, KnIt, KnTg, KnTgs, and_true, true_and, good__law_below k (by omega), tg__law_lot_0, cd__law_lot_0, el__law_lot_0]
theorem sc__law_order : C8.scC d__law_order.N d__law_order.ps d__law_order.scope = true := by decide +kernel
theorem ag__law_order : agSs ⟨d__law_order.N, d__law_order.scope, none, NS⟩ B__law_order d__law_order.body = true := by kernel_rfl
theorem good__law_order (k : Nat) (h : 2 ≤ k) : GoodF DS GL k 2 F__law_order := by
  obtain ⟨k, rfl⟩ : ∃ j, k = j + 1 := ⟨k - 1, by omega⟩
  refine ⟨d__law_order, rfl, rfl, rfl, sc__law_order, ag__law_order, ?_⟩
  simp only [B__law_order, KnSs, KnS, KnE, KnEs, KnT, KnTs, KnIt, KnTg, KnTgs, and_true, true_and, good__law_below k (by omega), ft__law_order_0, fb__law_order_0]
theorem sc__law_table : C8.scC d__law_table.N d__law_table.ps d__law_table.scope = true := by decide +kernel
theorem ag__law_table : agSs ⟨d__law_table.N, d__law_table.scope, none, NS⟩ B__law_table d__law_table.body = true := by kernel_rfl
theorem good__law_table (k : Nat) (h : 3 ≤ k) : GoodF DS GL k 3 F__law_table := by
  obtain ⟨k, rfl⟩ : ∃ j, k = j + 1 := ⟨k - 1, by omega⟩
  refine ⟨d__law_table, rfl, rfl, rfl, sc__law_table, ag__law_table, ?_⟩
  simp only [B__law_table, KnSs, KnS, KnE, KnEs, KnT, KnTs, KnIt, KnTg, KnTgs, and_true, true_and, good__law_below k (by omega), good__law_lot k (by omega), good__law_order k (by omega), ft__law_table_0, fb__law_table_0, ft__law_table_1, fb__law_table_1]
theorem sc__law_display : C8.scC d__law_display.N d__law_display.ps d__law_display.scope = true := by decide +kernel
theorem ag__law_display : agSs ⟨d__law_display.N, d__law_display.scope, none, NS⟩ B__law_display d__law_display.body = true := by kernel_rfl
theorem good__law_display (k : Nat) (h : 4 ≤ k) : GoodF DS GL k 4 F__law_display := by
  obtain ⟨k, rfl⟩ : ∃ j, k = j + 1 := ⟨k - 1, by omega⟩
  refine ⟨d__law_display, rfl, rfl, rfl, sc__law_display, ag__law_display, ?_⟩
  simp only [B__law_display, KnSs, KnS, KnE, KnEs, KnT, KnTs, KnIt, KnTg, KnTgs, and_true, true_and, good__law_table k (by omega), good__law_below k (by omega), ft__law_display_0, fb__law_display_0, ft__law_display_1, fb__law_display_1]
theorem sc_power : C8.scC d_power.N d_power.ps d_power.scope = true := by decide +kernel
theorem ag_power : agSs ⟨d_power.N, d_power.scope, none, NS⟩ B_power d_power.body = true := by kernel_rfl
theorem good_power (k : Nat) (h : 1 ≤ k) : GoodF DS GL k 5 F_power := by
  obtain ⟨k, rfl⟩ : ∃ j, k = j + 1 := ⟨k - 1, by omega⟩
  refine ⟨d_power, rfl, rfl, rfl, sc_power, ag_power, ?_⟩
  simp only [B_power, KnSs, KnS, KnE, KnEs, KnT, KnTs, KnIt, KnTg, KnTgs, and_true, true_and, ft_power_0, fb_power_0]
theorem sc_reach_of : C8.scC d_reach_of.N d_reach_of.ps d_reach_of.scope = true := by decide +kernel
theorem ag_reach_of : agSs ⟨d_reach_of.N, d_reach_of.scope, none, NS⟩ B_reach_of d_reach_of.body = true := by kernel_rfl
theorem good_reach_of (k : Nat) (h : 2 ≤ k) : GoodF DS GL k 6 F_reach_of := by
  obtain ⟨k, rfl⟩ : ∃ j, k = j + 1 := ⟨k - 1, by omega⟩
  refine ⟨d_reach_of, rfl, rfl, rfl, sc_reach_of, ag_reach_of, ?_⟩
  simp only [B_reach_of, KnSs, KnS, KnE, KnEs, KnT, KnTs, KnIt, KnTg, KnTgs, and_true, true_and, good_power k (by omega)]
theorem sc_is_tuple_up_to : C8.scC d_is_tuple_up_to.N d_is_tuple_up_to.ps d_is_tuple_up_to.scope = true := by decide +kernel
theorem ag_is_tuple_up_to : agSs ⟨d_is_tuple_up_to.N, d_is_tuple_up_to.scope, none, NS⟩ B_is_tuple_up_to d_is_tuple_up_to.body = true := by kernel_rfl
theorem good_is_tuple_up_to (k : Nat) (h : 1 ≤ k) : GoodF DS GL k 7 F_is_tuple_up_to := by
  obtain ⟨k, rfl⟩ : ∃ j, k = j + 1 := ⟨k - 1, by omega⟩
  refine ⟨d_is_tuple_up_to, rfl, rfl, rfl, sc_is_tuple_up_to, ag_is_tuple_up_to, ?_⟩
  simp only [B_is_tuple_up_to, KnSs, KnS, KnE, KnEs, KnT, KnTs, KnIt, KnTg, KnTgs, and_true, true_and, and_true]
theorem sc_is_tuple_of : C8.scC d_is_tuple_of.N d_is_tuple_of.ps d_is_tuple_of.scope = true := by decide +kernel
theorem ag_is_tuple_of : agSs ⟨d_is_tuple_of.N, d_is_tuple_of.scope, none, NS⟩ B_is_tuple_of d_is_tuple_of.body = true := by kernel_rfl
theorem good_is_tuple_of (k : Nat) (h : 2 ≤ k) : GoodF DS GL k 8 F_is_tuple_of := by
  obtain ⟨k, rfl⟩ : ∃ j, k = j + 1 := ⟨k - 1, by omega⟩
  refine ⟨d_is_tuple_of, rfl, rfl, rfl, sc_is_tuple_of, ag_is_tuple_of, ?_⟩
  simp only [B_is_tuple_of, KnSs, KnS, KnE, KnEs, KnT, KnTs, KnIt, KnTg, KnTgs, and_true, true_and, good_is_tuple_up_to k (by omega)]
theorem sc_is_pair : C8.scC d_is_pair.N d_is_pair.ps d_is_pair.scope = true := by decide +kernel
theorem ag_is_pair : agSs ⟨d_is_pair.N, d_is_pair.scope, none, NS⟩ B_is_pair d_is_pair.body = true := by kernel_rfl
theorem good_is_pair (k : Nat) (h : 3 ≤ k) : GoodF DS GL k 9 F_is_pair := by
  obtain ⟨k, rfl⟩ : ∃ j, k = j + 1 := ⟨k - 1, by omega⟩
  refine ⟨d_is_pair, rfl, rfl, rfl, sc_is_pair, ag_is_pair, ?_⟩
  simp only [B_is_pair, KnSs, KnS, KnE, KnEs, KnT, KnTs, KnIt, KnTg, KnTgs, and_true, true_and, good_is_tuple_of k (by omega)]
theorem sc_are_unlike : C8.scC d_are_unlike.N d_are_unlike.ps d_are_unlike.scope = true := by decide +kernel
theorem ag_are_unlike : agSs ⟨d_are_unlike.N, d_are_unlike.scope, none, NS⟩ B_are_unlike d_are_unlike.body = true := by kernel_rfl
theorem good_are_unlike (k : Nat) (h : 1 ≤ k) : GoodF DS GL k 10 F_are_unlike := by
  obtain ⟨k, rfl⟩ : ∃ j, k = j + 1 := ⟨k - 1, by omega⟩
  refine ⟨d_are_unlike, rfl, rfl, rfl, sc_are_unlike, ag_are_unlike, ?_⟩
  simp only [B_are_unlike, KnSs, KnS, KnE, KnEs, KnT, KnTs, KnIt, KnTg, KnTgs, and_true, true_and, and_true]
theorem sc_is_whole : C8.scC d_is_whole.N d_is_whole.ps d_is_whole.scope = true := by decide +kernel
theorem ag_is_whole : agSs ⟨d_is_whole.N, d_is_whole.scope, none, NS⟩ B_is_whole d_is_whole.body = true := by kernel_rfl
theorem good_is_whole (k : Nat) (h : 1 ≤ k) : GoodF DS GL k 11 F_is_whole := by
  obtain ⟨k, rfl⟩ : ∃ j, k = j + 1 := ⟨k - 1, by omega⟩
  refine ⟨d_is_whole, rfl, rfl, rfl, sc_is_whole, ag_is_whole, ?_⟩
  simp only [B_is_whole, KnSs, KnS, KnE, KnEs, KnT, KnTs, KnIt, KnTg, KnTgs, and_true, true_and, and_true]
theorem sc_is_between : C8.scC d_is_between.N d_is_between.ps d_is_between.scope = true := by decide +kernel
theorem ag_is_between : agSs ⟨d_is_between.N, d_is_between.scope, none, NS⟩ B_is_between d_is_between.body = true := by kernel_rfl
theorem good_is_between (k : Nat) (h : 2 ≤ k) : GoodF DS GL k 12 F_is_between := by
  obtain ⟨k, rfl⟩ : ∃ j, k = j + 1 := ⟨k - 1, by omega⟩
  refine ⟨d_is_between, rfl, rfl, rfl, sc_is_between, ag_is_between, ?_⟩
  simp only [B_is_between, KnSs, KnS, KnE, KnEs, KnT, KnTs, KnIt, KnTg, KnTgs, and_true, true_and, good_is_whole k (by omega)]
theorem sc_are_rising : C8.scC d_are_rising.N d_are_rising.ps d_are_rising.scope = true := by decide +kernel
theorem ag_are_rising : agSs ⟨d_are_rising.N, d_are_rising.scope, none, NS⟩ B_are_rising d_are_rising.body = true := by kernel_rfl
theorem good_are_rising (k : Nat) (h : 1 ≤ k) : GoodF DS GL k 13 F_are_rising := by
  obtain ⟨k, rfl⟩ : ∃ j, k = j + 1 := ⟨k - 1, by omega⟩
  refine ⟨d_are_rising, rfl, rfl, rfl, sc_are_rising, ag_are_rising, ?_⟩
  simp only [B_are_rising, KnSs, KnS, KnE, KnEs, KnT, KnTs, KnIt, KnTg, KnTgs, and_true, true_and, and_true]
theorem sc_is_up_to : C8.scC d_is_up_to.N d_is_up_to.ps d_is_up_to.scope = true := by decide +kernel
theorem ag_is_up_to : agSs ⟨d_is_up_to.N, d_is_up_to.scope, none, NS⟩ B_is_up_to d_is_up_to.body = true := by kernel_rfl
theorem good_is_up_to (k : Nat) (h : 3 ≤ k) : GoodF DS GL k 14 F_is_up_to := by
  obtain ⟨k, rfl⟩ : ∃ j, k = j + 1 := ⟨k - 1, by omega⟩
  refine ⟨d_is_up_to, rfl, rfl, rfl, sc_is_up_to, ag_is_up_to, ?_⟩
  simp only [B_is_up_to, KnSs, KnS, KnE, KnEs, KnT, KnTs, KnIt, KnTg, KnTgs, and_true, true_and, good_is_between k (by omega)]
theorem sc_is_lot_of : C8.scC d_is_lot_of.N d_is_lot_of.ps d_is_lot_of.scope = true := by decide +kernel
theorem ag_is_lot_of : agSs ⟨d_is_lot_of.N, d_is_lot_of.scope, none, NS⟩ B_is_lot_of d_is_lot_of.body = true := by kernel_rfl
theorem good_is_lot_of (k : Nat) (h : 4 ≤ k) : GoodF DS GL k 15 F_is_lot_of := by
  obtain ⟨k, rfl⟩ : ∃ j, k = j + 1 := ⟨k - 1, by omega⟩
  refine ⟨d_is_lot_of, rfl, rfl, rfl, sc_is_lot_of, ag_is_lot_of, ?_⟩
  simp only [B_is_lot_of, KnSs, KnS, KnE, KnEs, KnT, KnTs, KnIt, KnTg, KnTgs, and_true, true_and, good_is_tuple_up_to k (by omega), good_is_up_to k (by omega), good_are_rising k (by omega)]
theorem sc_is_table_of : C8.scC d_is_table_of.N d_is_table_of.ps d_is_table_of.scope = true := by decide +kernel
theorem ag_is_table_of : agSs ⟨d_is_table_of.N, d_is_table_of.scope, none, NS⟩ B_is_table_of d_is_table_of.body = true := by kernel_rfl
theorem good_is_table_of (k : Nat) (h : 5 ≤ k) : GoodF DS GL k 16 F_is_table_of := by
  obtain ⟨k, rfl⟩ : ∃ j, k = j + 1 := ⟨k - 1, by omega⟩
  refine ⟨d_is_table_of, rfl, rfl, rfl, sc_is_table_of, ag_is_table_of, ?_⟩
  simp only [B_is_table_of, KnSs, KnS, KnE, KnEs, KnT, KnTs, KnIt, KnTg, KnTgs, and_true, true_and, good_is_pair k (by omega), good_is_between k (by omega), good_is_tuple_up_to k (by omega), good_is_lot_of k (by omega), good_are_unlike k (by omega), gl_MOST_BARS, gl_LEAST_GLYPHS, gl_MOST_GLYPHS]
theorem sc_is_display_of : C8.scC d_is_display_of.N d_is_display_of.ps d_is_display_of.scope = true := by decide +kernel
theorem ag_is_display_of : agSs ⟨d_is_display_of.N, d_is_display_of.scope, none, NS⟩ B_is_display_of d_is_display_of.body = true := by kernel_rfl
theorem good_is_display_of (k : Nat) (h : 6 ≤ k) : GoodF DS GL k 17 F_is_display_of := by
  obtain ⟨k, rfl⟩ : ∃ j, k = j + 1 := ⟨k - 1, by omega⟩
  refine ⟨d_is_display_of, rfl, rfl, rfl, sc_is_display_of, ag_is_display_of, ?_⟩
  simp only [B_is_display_of, KnSs, KnS, KnE, KnEs, KnT, KnTs, KnIt, KnTg, KnTgs, and_true, true_and, good_is_pair k (by omega), good_is_table_of k (by omega), good_is_between k (by omega), good_reach_of k (by omega), gl_MOST_PLACES, gl_MOST_REACH]
theorem sc_check_display : C8.scC d_check_display.N d_check_display.ps d_check_display.scope = true := by decide +kernel
theorem ag_check_display : agSs ⟨d_check_display.N, d_check_display.scope, none, NS⟩ B_check_display d_check_display.body = true := by kernel_rfl
theorem good_check_display (k : Nat) (h : 7 ≤ k) : GoodF DS GL k 18 F_check_display := by
  obtain ⟨k, rfl⟩ : ∃ j, k = j + 1 := ⟨k - 1, by omega⟩
  refine ⟨d_check_display, rfl, rfl, rfl, sc_check_display, ag_check_display, ?_⟩
  simp only [B_check_display, KnSs, KnS, KnE, KnEs, KnT, KnTs, KnIt, KnTg, KnTgs, and_true, true_and, good_is_display_of k (by omega)]
theorem sc_reach_by : C8.scC d_reach_by.N d_reach_by.ps d_reach_by.scope = true := by decide +kernel
theorem ag_reach_by : agSs ⟨d_reach_by.N, d_reach_by.scope, none, NS⟩ B_reach_by d_reach_by.body = true := by kernel_rfl
theorem good_reach_by (k : Nat) (h : 3 ≤ k) : GoodF DS GL k 19 F_reach_by := by
  obtain ⟨k, rfl⟩ : ∃ j, k = j + 1 := ⟨k - 1, by omega⟩
  refine ⟨d_reach_by, rfl, rfl, rfl, sc_reach_by, ag_reach_by, ?_⟩
  simp only [B_reach_by, KnSs, KnS, KnE, KnEs, KnT, KnTs, KnIt, KnTg, KnTgs, and_true, true_and, good_reach_of k (by omega)]
theorem sc_reach : C8.scC d_reach.N d_reach.ps d_reach.scope = true := by decide +kernel
theorem ag_reach : agSs ⟨d_reach.N, d_reach.scope, none, NS⟩ B_reach d_reach.body = true := by kernel_rfl
theorem good_reach (k : Nat) (h : 8 ≤ k) : GoodF DS GL k 20 F_reach := by
  obtain ⟨k, rfl⟩ : ∃ j, k = j + 1 := ⟨k - 1, by omega⟩
  refine ⟨d_reach, rfl, rfl, rfl, sc_reach, ag_reach, ?_⟩
  simp only [B_reach, KnSs, KnS, KnE, KnEs, KnT, KnTs, KnIt, KnTg, KnTgs, and_true, true_and, good_check_display k (by omega), good_reach_by k (by omega)]
theorem sc__law_same : C8.scC d__law_same.N d__law_same.ps d__law_same.scope = true := by decide +kernel
theorem ag__law_same (self : Fn) : agSs ⟨d__law_same.N, d__law_same.scope, none, NS⟩ (B__law_same self) d__law_same.body = true := by kernel_rfl
theorem good__law_same : ∀ (n k : Nat), n + 0 ≤ k → GoodF DS GL k 21 (F__law_same n)
  | 0, 0, _ => ⟨d__law_same, rfl⟩
  | 0, _ + 1, _ => ⟨d__law_same, rfl⟩
  | n + 1, 0, h => absurd h (by omega)
  | n + 1, k + 1, h => by
    have hself := good__law_same n k (by omega)
    refine ⟨d__law_same, rfl, rfl, rfl, sc__law_same, ag__law_same _, ?_⟩
    simp only [B__law_same, KnSs, KnS, KnE, KnEs, KnT, KnTs, KnIt, KnTg, KnTgs, and_true, true_and, hself]
theorem sc_is_display : C8.scC d_is_display.N d_is_display.ps d_is_display.scope = true := by decide +kernel
theorem ag_is_display : agSs ⟨d_is_display.N, d_is_display.scope, none, NS⟩ B_is_display d_is_display.body = true := by kernel_rfl
theorem good_is_display (k : Nat) (h : 7 ≤ k) : GoodF DS GL k 22 F_is_display := by
  obtain ⟨k, rfl⟩ : ∃ j, k = j + 1 := ⟨k - 1, by omega⟩
  refine ⟨d_is_display, rfl, rfl, rfl, sc_is_display, ag_is_display, ?_⟩
  simp only [B_is_display, KnSs, KnS, KnE, KnEs, KnT, KnTs, KnIt, KnTg, KnTgs, and_true, true_and, good_is_display_of k (by omega)]
theorem sc__law_reach : C8.scC d__law_reach.N d__law_reach.ps d__law_reach.scope = true := by decide +kernel
theorem ag__law_reach : agSs ⟨d__law_reach.N, d__law_reach.scope, none, NS⟩ B__law_reach d__law_reach.body = true := by kernel_rfl
theorem good__law_reach (k : Nat) (h : 1 ≤ k) : GoodF DS GL k 23 F__law_reach := by
  obtain ⟨k, rfl⟩ : ∃ j, k = j + 1 := ⟨k - 1, by omega⟩
  refine ⟨d__law_reach, rfl, rfl, rfl, sc__law_reach, ag__law_reach, ?_⟩
  simp only [B__law_reach, KnSs, KnS, KnE, KnEs, KnT, KnTs, KnIt, KnTg, KnTgs, and_true, true_and, ft__law_reach_0, fb__law_reach_0]
theorem sc__law_one : C8.scC d__law_one.N d__law_one.ps d__law_one.scope = true := by decide +kernel
theorem ag__law_one : agSs ⟨d__law_one.N, d__law_one.scope, none, NS⟩ B__law_one d__law_one.body = true := by kernel_rfl
theorem good__law_one (k : Nat) (h : 2 ≤ k) : GoodF DS GL k 24 F__law_one := by
  obtain ⟨k, rfl⟩ : ∃ j, k = j + 1 := ⟨k - 1, by omega⟩
  refine ⟨d__law_one, rfl, rfl, rfl, sc__law_one, ag__law_one, ?_⟩
  simp only [B__law_one, KnSs, KnS, KnE, KnEs, KnT, KnTs, KnIt, KnTg, KnTgs, and_true, true_and, good__law_below k (by omega)]
theorem sc__law_thing : C8.scC d__law_thing.N d__law_thing.ps d__law_thing.scope = true := by decide +kernel
theorem ag__law_thing : agSs ⟨d__law_thing.N, d__law_thing.scope, none, NS⟩ B__law_thing d__law_thing.body = true := by kernel_rfl
theorem good__law_thing (k : Nat) (h : 3 ≤ k) : GoodF DS GL k 25 F__law_thing := by
  obtain ⟨k, rfl⟩ : ∃ j, k = j + 1 := ⟨k - 1, by omega⟩
  refine ⟨d__law_thing, rfl, rfl, rfl, sc__law_thing, ag__law_thing, ?_⟩
  simp only [B__law_thing, KnSs, KnS, KnE, KnEs, KnT, KnTs, KnIt, KnTg, KnTgs, and_true, true_and, good__law_one k (by omega)]
theorem sc__law_bent_tables : C8.scC d__law_bent_tables.N d__law_bent_tables.ps d__law_bent_tables.scope = true := by decide +kernel
theorem ag__law_bent_tables : agSs ⟨d__law_bent_tables.N, d__law_bent_tables.scope, none, NS⟩ B__law_bent_tables d__law_bent_tables.body = true := by kernel_rfl
theorem good__law_bent_tables (k : Nat) (h : 2 ≤ k) : GoodF DS GL k 26 F__law_bent_tables := by
  obtain ⟨k, rfl⟩ : ∃ j, k = j + 1 := ⟨k - 1, by omega⟩
  refine ⟨d__law_bent_tables, rfl, rfl, rfl, sc__law_bent_tables, ag__law_bent_tables, ?_⟩
  simp only [B__law_bent_tables, KnSs, KnS, KnE, KnEs, KnT, KnTs, KnIt, KnTg, KnTgs, and_true, true_and, good__law_below k (by omega)]
theorem sc__law_is_number : C8.scC d__law_is_number.N d__law_is_number.ps d__law_is_number.scope = true := by decide +kernel
theorem ag__law_is_number : agSs ⟨d__law_is_number.N, d__law_is_number.scope, none, NS⟩ B__law_is_number d__law_is_number.body = true := by kernel_rfl
theorem good__law_is_number (k : Nat) (h : 1 ≤ k) : GoodF DS GL k 27 F__law_is_number := by
  obtain ⟨k, rfl⟩ : ∃ j, k = j + 1 := ⟨k - 1, by omega⟩
  refine ⟨d__law_is_number, rfl, rfl, rfl, sc__law_is_number, ag__law_is_number, ?_⟩
  simp only [B__law_is_number, KnSs, KnS, KnE, KnEs, KnT, KnTs, KnIt, KnTg, KnTgs, and_true, true_and, and_true]
theorem sc__law_is_lot : C8.scC d__law_is_lot.N d__law_is_lot.ps d__law_is_lot.scope = true := by decide +kernel
theorem ag__law_is_lot : agSs ⟨d__law_is_lot.N, d__law_is_lot.scope, none, NS⟩ B__law_is_lot d__law_is_lot.body = true := by kernel_rfl
theorem good__law_is_lot (k : Nat) (h : 2 ≤ k) : GoodF DS GL k 28 F__law_is_lot := by
  obtain ⟨k, rfl⟩ : ∃ j, k = j + 1 := ⟨k - 1, by omega⟩
  refine ⟨d__law_is_lot, rfl, rfl, rfl, sc__law_is_lot, ag__law_is_lot, ?_⟩
  simp only [B__law_is_lot, KnSs, KnS, KnE, KnEs, KnT, KnTs, KnIt, KnTg, KnTgs, and_true, true_and, good__law_is_number k (by omega)]
theorem sc__law_is_table : C8.scC d__law_is_table.N d__law_is_table.ps d__law_is_table.scope = true := by decide +kernel
theorem ag__law_is_table : agSs ⟨d__law_is_table.N, d__law_is_table.scope, none, NS⟩ B__law_is_table d__law_is_table.body = true := by kernel_rfl
theorem good__law_is_table (k : Nat) (h : 3 ≤ k) : GoodF DS GL k 29 F__law_is_table := by
  obtain ⟨k, rfl⟩ : ∃ j, k = j + 1 := ⟨k - 1, by omega⟩
  refine ⟨d__law_is_table, rfl, rfl, rfl, sc__law_is_table, ag__law_is_table, ?_⟩
  simp only [B__law_is_table, KnSs, KnS, KnE, KnEs, KnT, KnTs, KnIt, KnTg, KnTgs, and_true, true_and, good__law_is_number k (by omega), good__law_is_lot k (by omega)]
theorem sc__law_is_display : C8.scC d__law_is_display.N d__law_is_display.ps d__law_is_display.scope = true := by decide +kernel
theorem ag__law_is_display : agSs ⟨d__law_is_display.N, d__law_is_display.scope, none, NS⟩ B__law_is_display d__law_is_display.body = true := by kernel_rfl
theorem good__law_is_display (k : Nat) (h : 4 ≤ k) : GoodF DS GL k 30 F__law_is_display := by
  obtain ⟨k, rfl⟩ : ∃ j, k = j + 1 := ⟨k - 1, by omega⟩
  refine ⟨d__law_is_display, rfl, rfl, rfl, sc__law_is_display, ag__law_is_display, ?_⟩
  simp only [B__law_is_display, KnSs, KnS, KnE, KnEs, KnT, KnTs, KnIt, KnTg, KnTgs, and_true, true_and, good__law_is_table k (by omega), good__law_is_number k (by omega), good__law_reach k (by omega)]
theorem sc__law_right : C8.scC d__law_right.N d__law_right.ps d__law_right.scope = true := by decide +kernel
theorem ag__law_right : agSs ⟨d__law_right.N, d__law_right.scope, none, NS⟩ B__law_right d__law_right.body = true := by kernel_rfl
theorem good__law_right (k : Nat) (h : 13 ≤ k) : GoodF DS GL k 31 F__law_right := by
  obtain ⟨k, rfl⟩ : ∃ j, k = j + 1 := ⟨k - 1, by omega⟩
  refine ⟨d__law_right, rfl, rfl, rfl, sc__law_right, ag__law_right, ?_⟩
  simp only [B__law_right, KnSs, KnS, KnE, KnEs, KnT, KnTs, KnIt, KnTg, KnTgs, and_true, true_and, good__law_display k (by omega), good_reach k (by omega), good__law_same 12 k (by omega), good__law_reach k (by omega), good__law_bent_tables k (by omega), good__law_thing k (by omega), good_is_display k (by omega), good__law_is_display k (by omega), tg__law_right_0, cd__law_right_0, el__law_right_0, ft__law_right_1, fb__law_right_1, ft__law_right_2, fb__law_right_2, kw_reach_0, kw_is_display_0]
theorem sc__law_pool : C8.scC d__law_pool.N d__law_pool.ps d__law_pool.scope = true := by decide +kernel
theorem ag__law_pool : agSs ⟨d__law_pool.N, d__law_pool.scope, none, NS⟩ B__law_pool d__law_pool.body = true := by kernel_rfl
theorem good__law_pool (k : Nat) (h : 1 ≤ k) : GoodF DS GL k 32 F__law_pool := by
  obtain ⟨k, rfl⟩ : ∃ j, k = j + 1 := ⟨k - 1, by omega⟩
  refine ⟨d__law_pool, rfl, rfl, rfl, sc__law_pool, ag__law_pool, ?_⟩
  simp only [B__law_pool, KnSs, KnS, KnE, KnEs, KnT, KnTs, KnIt, KnTg, KnTgs, and_true, true_and, ft__law_pool_0, fb__law_pool_0]
theorem sc_law : C8.scC d_law.N d_law.ps d_law.scope = true := by decide +kernel
theorem ag_law : agSs ⟨d_law.N, d_law.scope, none, NS⟩ B_law d_law.body = true := by kernel_rfl
theorem good_law (k : Nat) (h : 14 ≤ k) : GoodF DS GL k 33 F_law := by
  obtain ⟨k, rfl⟩ : ∃ j, k = j + 1 := ⟨k - 1, by omega⟩
  refine ⟨d_law, rfl, rfl, rfl, sc_law, ag_law, ?_⟩
  simp only [B_law, KnSs, KnS, KnE, KnEs, KnT, KnTs, KnIt, KnTg, KnTgs, and_true, true_and, good__law_right k (by omega), good__law_pool k (by omega)]
theorem wo {K : PySem.W.Frag} {h : Heap} {mg : Str → Option Value} (X : K.In h) (G : h.Ns mainGlobals mg) (c : He.SaysD hfa hfn K) : Wo K mg DS GL := by
  refine ⟨?_, ?_, ?_⟩
  · intro x hx
    simp only [freeNames, List.mem_cons, List.not_mem_nil, or_false] at hx
    rcases hx with rfl | rfl | rfl | rfl | rfl | rfl | rfl | rfl | rfl | rfl | rfl | rfl | rfl | rfl | rfl | rfl | rfl | rfl | rfl | rfl | rfl
    · exact He.free_ok X G (c.fact 34 (f := .free "len") rfl)
    · exact He.free_ok X G (c.fact 35 (f := .free "all") rfl)
    · exact He.free_ok X G (c.fact 36 (f := .free "any") rfl)
    · exact He.free_ok X G (c.fact 37 (f := .free "int") rfl)
    · exact He.free_ok X G (c.fact 38 (f := .free "abs") rfl)
    · exact He.free_ok X G (c.fact 39 (f := .free "min") rfl)
    · exact He.free_ok X G (c.fact 40 (f := .free "max") rfl)
    · exact He.free_ok X G (c.fact 41 (f := .free "tuple") rfl)
    · exact He.free_ok X G (c.fact 42 (f := .free "list") rfl)
    · exact He.free_ok X G (c.fact 43 (f := .free "range") rfl)
    · exact He.free_ok X G (c.fact 44 (f := .free "enumerate") rfl)
    · exact He.free_ok X G (c.fact 45 (f := .free "zip") rfl)
    · exact He.free_ok X G (c.fact 46 (f := .free "isinstance") rfl)
    · exact He.free_ok X G (c.fact 47 (f := .free "bool") rfl)
    · exact He.free_ok X G (c.fact 48 (f := .free "str") rfl)
    · exact He.free_ok X G (c.fact 49 (f := .free "dict") rfl)
    · exact He.free_ok X G (c.fact 50 (f := .free "divmod") rfl)
    · exact He.free_ok X G (c.fact 51 (f := .free "sorted") rfl)
    · exact He.free_ok X G (c.fact 52 (f := .free "sum") rfl)
    · exact He.free_ok X G (c.fact 53 (f := .free "set") rfl)
    · exact He.free_ok X G (c.fact 54 (f := .free "repr") rfl)
  · intro p hp
    simp only [GL, List.mem_cons, List.not_mem_nil, or_false] at hp
    rcases hp with rfl | rfl | rfl | rfl | rfl
    · obtain ⟨t, e⟩ := He.int_ok X G (c.fact 55 (f := .int "MOST_BARS" 12) rfl)
      exact ⟨_, .int 12, e, ⟨t, rfl⟩, fun F => .int _⟩
    · obtain ⟨t, e⟩ := He.int_ok X G (c.fact 56 (f := .int "LEAST_GLYPHS" 2) rfl)
      exact ⟨_, .int 2, e, ⟨t, rfl⟩, fun F => .int _⟩
    · obtain ⟨t, e⟩ := He.int_ok X G (c.fact 57 (f := .int "MOST_GLYPHS" 16) rfl)
      exact ⟨_, .int 16, e, ⟨t, rfl⟩, fun F => .int _⟩
    · obtain ⟨t, e⟩ := He.int_ok X G (c.fact 58 (f := .int "MOST_PLACES" 4) rfl)
      exact ⟨_, .int 4, e, ⟨t, rfl⟩, fun F => .int _⟩
    · obtain ⟨t, e⟩ := He.int_ok X G (c.fact 59 (f := .int "MOST_REACH" 4096) rfl)
      exact ⟨_, .int 4096, e, ⟨t, rfl⟩, fun F => .int _⟩
  · intro d hd
    simp only [DS, List.mem_cons, List.not_mem_nil, or_false] at hd
    rcases hd with rfl | rfl | rfl | rfl | rfl | rfl | rfl | rfl | rfl | rfl | rfl | rfl | rfl | rfl | rfl | rfl | rfl | rfl | rfl | rfl | rfl | rfl | rfl | rfl | rfl | rfl | rfl | rfl | rfl | rfl | rfl | rfl | rfl | rfl
    · obtain ⟨fd, FD⟩ := c.def_ 0 (d := mkD "_law_below" (top 31) []) rfl
      refine ⟨_, fd, [], [], _, He.glo_ok X G (c.fact 0 (f := .glo "_law_below") rfl), FD, FunD.bindsN FD fun _ _ _ _ _ _ us hl => match us, hl with | [_, _], _ => rfl, fun z => absurd z (by decide +kernel), fun q hq => ?_⟩
      cases hq
    · obtain ⟨fd, FD⟩ := c.def_ 1 (d := mkD "_law_lot" (top 33) []) rfl
      refine ⟨_, fd, [], [], _, He.glo_ok X G (c.fact 1 (f := .glo "_law_lot") rfl), FD, FunD.bindsN FD fun _ _ _ _ _ _ us hl => match us, hl with | [_, _], _ => rfl, fun z => absurd z (by decide +kernel), fun q hq => ?_⟩
      cases hq
    · obtain ⟨fd, FD⟩ := c.def_ 2 (d := mkD "_law_order" (top 35) []) rfl
      refine ⟨_, fd, [], [], _, He.glo_ok X G (c.fact 2 (f := .glo "_law_order") rfl), FD, FunD.bindsN FD fun _ _ _ _ _ _ us hl => match us, hl with | [_, _], _ => rfl, fun z => absurd z (by decide +kernel), fun q hq => ?_⟩
      cases hq
    · obtain ⟨fd, FD⟩ := c.def_ 3 (d := mkD "_law_table" (top 34) []) rfl
      refine ⟨_, fd, [], [], _, He.glo_ok X G (c.fact 3 (f := .glo "_law_table") rfl), FD, FunD.bindsN FD fun _ _ _ _ _ _ us hl => match us, hl with | [_, _, _], _ => rfl, fun z => absurd z (by decide +kernel), fun q hq => ?_⟩
      cases hq
    · obtain ⟨fd, FD⟩ := c.def_ 4 (d := mkD "_law_display" (top 36) []) rfl
      refine ⟨_, fd, [], [], _, He.glo_ok X G (c.fact 4 (f := .glo "_law_display") rfl), FD, FunD.bindsN FD fun _ _ _ _ _ _ us hl => match us, hl with | [_, _, _, _], _ => rfl, fun z => absurd z (by decide +kernel), fun q hq => ?_⟩
      cases hq
    · obtain ⟨fd, FD⟩ := c.def_ 5 (d := mkD "power" (top 20) []) rfl
      refine ⟨_, fd, [], [], _, He.glo_ok X G (c.fact 5 (f := .glo "power") rfl), FD, FunD.bindsN FD fun _ _ _ _ _ _ us hl => match us, hl with | [_, _], _ => rfl, fun z => absurd z (by decide +kernel), fun q hq => ?_⟩
      cases hq
    · obtain ⟨fd, FD⟩ := c.def_ 6 (d := mkD "reach_of" (top 21) []) rfl
      refine ⟨_, fd, [], [], _, He.glo_ok X G (c.fact 6 (f := .glo "reach_of") rfl), FD, FunD.bindsN FD fun _ _ _ _ _ _ us hl => match us, hl with | [_], _ => rfl, fun z => absurd z (by decide +kernel), fun q hq => ?_⟩
      cases hq
    · obtain ⟨fd, FD⟩ := c.def_ 7 (d := mkD "is_tuple_up_to" (top 7) []) rfl
      refine ⟨_, fd, [], [], _, He.glo_ok X G (c.fact 7 (f := .glo "is_tuple_up_to") rfl), FD, FunD.bindsN FD fun _ _ _ _ _ _ us hl => match us, hl with | [_, _, _], _ => rfl, fun z => absurd z (by decide +kernel), fun q hq => ?_⟩
      cases hq
    · obtain ⟨fd, FD⟩ := c.def_ 8 (d := mkD "is_tuple_of" (top 8) []) rfl
      refine ⟨_, fd, [], [], _, He.glo_ok X G (c.fact 8 (f := .glo "is_tuple_of") rfl), FD, FunD.bindsN FD fun _ _ _ _ _ _ us hl => match us, hl with | [_, _], _ => rfl, fun z => absurd z (by decide +kernel), fun q hq => ?_⟩
      cases hq
    · obtain ⟨fd, FD⟩ := c.def_ 9 (d := mkD "is_pair" (top 9) []) rfl
      refine ⟨_, fd, [], [], _, He.glo_ok X G (c.fact 9 (f := .glo "is_pair") rfl), FD, FunD.bindsN FD fun _ _ _ _ _ _ us hl => match us, hl with | [_], _ => rfl, fun z => absurd z (by decide +kernel), fun q hq => ?_⟩
      cases hq
    · obtain ⟨fd, FD⟩ := c.def_ 10 (d := mkD "are_unlike" (top 11) []) rfl
      refine ⟨_, fd, [], [], _, He.glo_ok X G (c.fact 10 (f := .glo "are_unlike") rfl), FD, FunD.bindsN FD fun _ _ _ _ _ _ us hl => match us, hl with | [_], _ => rfl, fun z => absurd z (by decide +kernel), fun q hq => ?_⟩
      cases hq
    · obtain ⟨fd, FD⟩ := c.def_ 11 (d := mkD "is_whole" (top 4) []) rfl
      refine ⟨_, fd, [], [], _, He.glo_ok X G (c.fact 11 (f := .glo "is_whole") rfl), FD, FunD.bindsN FD fun _ _ _ _ _ _ us hl => match us, hl with | [_], _ => rfl, fun z => absurd z (by decide +kernel), fun q hq => ?_⟩
      cases hq
    · obtain ⟨fd, FD⟩ := c.def_ 12 (d := mkD "is_between" (top 5) []) rfl
      refine ⟨_, fd, [], [], _, He.glo_ok X G (c.fact 12 (f := .glo "is_between") rfl), FD, FunD.bindsN FD fun _ _ _ _ _ _ us hl => match us, hl with | [_, _, _], _ => rfl, fun z => absurd z (by decide +kernel), fun q hq => ?_⟩
      cases hq
    · obtain ⟨fd, FD⟩ := c.def_ 13 (d := mkD "are_rising" (top 10) []) rfl
      refine ⟨_, fd, [], [], _, He.glo_ok X G (c.fact 13 (f := .glo "are_rising") rfl), FD, FunD.bindsN FD fun _ _ _ _ _ _ us hl => match us, hl with | [_], _ => rfl, fun z => absurd z (by decide +kernel), fun q hq => ?_⟩
      cases hq
    · obtain ⟨fd, FD⟩ := c.def_ 14 (d := mkD "is_up_to" (top 6) []) rfl
      refine ⟨_, fd, [], [], _, He.glo_ok X G (c.fact 14 (f := .glo "is_up_to") rfl), FD, FunD.bindsN FD fun _ _ _ _ _ _ us hl => match us, hl with | [_, _], _ => rfl, fun z => absurd z (by decide +kernel), fun q hq => ?_⟩
      cases hq
    · obtain ⟨fd, FD⟩ := c.def_ 15 (d := mkD "is_lot_of" (top 18) []) rfl
      refine ⟨_, fd, [], [], _, He.glo_ok X G (c.fact 15 (f := .glo "is_lot_of") rfl), FD, FunD.bindsN FD fun _ _ _ _ _ _ us hl => match us, hl with | [_, _], _ => rfl, fun z => absurd z (by decide +kernel), fun q hq => ?_⟩
      cases hq
    · obtain ⟨fd, FD⟩ := c.def_ 16 (d := mkD "is_table_of" (top 19) []) rfl
      refine ⟨_, fd, [], [], _, He.glo_ok X G (c.fact 16 (f := .glo "is_table_of") rfl), FD, FunD.bindsN FD fun _ _ _ _ _ _ us hl => match us, hl with | [_], _ => rfl, fun z => absurd z (by decide +kernel), fun q hq => ?_⟩
      cases hq
    · obtain ⟨fd, FD⟩ := c.def_ 17 (d := mkD "is_display_of" (top 22) []) rfl
      refine ⟨_, fd, [], [], _, He.glo_ok X G (c.fact 17 (f := .glo "is_display_of") rfl), FD, FunD.bindsN FD fun _ _ _ _ _ _ us hl => match us, hl with | [_], _ => rfl, fun z => absurd z (by decide +kernel), fun q hq => ?_⟩
      cases hq
    · obtain ⟨fd, FD⟩ := c.def_ 18 (d := mkD "check_display" (top 23) []) rfl
      refine ⟨_, fd, [], [], _, He.glo_ok X G (c.fact 18 (f := .glo "check_display") rfl), FD, FunD.bindsN FD fun _ _ _ _ _ _ us hl => match us, hl with | [_], _ => rfl, fun z => absurd z (by decide +kernel), fun q hq => ?_⟩
      cases hq
    · obtain ⟨fd, FD⟩ := c.def_ 19 (d := mkD "reach_by" (top 25) []) rfl
      refine ⟨_, fd, [], [], _, He.glo_ok X G (c.fact 19 (f := .glo "reach_by") rfl), FD, FunD.bindsN FD fun _ _ _ _ _ _ us hl => match us, hl with | [_], _ => rfl, fun z => absurd z (by decide +kernel), fun q hq => ?_⟩
      cases hq
    · obtain ⟨fd, FD⟩ := c.def_ 20 (d := mkD "reach" (top 28) []) rfl
      refine ⟨_, fd, [], [], _, He.glo_ok X G (c.fact 20 (f := .glo "reach") rfl), FD, FunD.bindsN FD fun _ _ _ _ _ _ us hl => match us, hl with | [_], _ => rfl, fun z => absurd z (by decide +kernel), fun q hq => ?_⟩
      simp only [d_reach, List.mem_cons, List.not_mem_nil, or_false] at hq
      subst hq
      exact kbn_simple FD 0 ["display"] [0] fun _ _ _ _ _ _ us ws l1 l2 => match us, ws, l1, l2 with | [], [_], _, _ => rfl
    · obtain ⟨fd, FD⟩ := c.def_ 21 (d := mkD "_law_same" (top 44) []) rfl
      refine ⟨_, fd, [], [], _, He.glo_ok X G (c.fact 21 (f := .glo "_law_same") rfl), FD, FunD.bindsN FD fun _ _ _ _ _ _ us hl => match us, hl with | [_, _], _ => rfl, fun z => absurd z (by decide +kernel), fun q hq => ?_⟩
      cases hq
    · obtain ⟨fd, FD⟩ := c.def_ 22 (d := mkD "is_display" (top 27) []) rfl
      refine ⟨_, fd, [], [], _, He.glo_ok X G (c.fact 22 (f := .glo "is_display") rfl), FD, FunD.bindsN FD fun _ _ _ _ _ _ us hl => match us, hl with | [_], _ => rfl, fun z => absurd z (by decide +kernel), fun q hq => ?_⟩
      simp only [d_is_display, List.mem_cons, List.not_mem_nil, or_false] at hq
      subst hq
      exact kbn_simple FD 0 ["value"] [0] fun _ _ _ _ _ _ us ws l1 l2 => match us, ws, l1, l2 with | [], [_], _, _ => rfl
    · obtain ⟨fd, FD⟩ := c.def_ 23 (d := mkD "_law_reach" (top 37) []) rfl
      refine ⟨_, fd, [], [], _, He.glo_ok X G (c.fact 23 (f := .glo "_law_reach") rfl), FD, FunD.bindsN FD fun _ _ _ _ _ _ us hl => match us, hl with | [_], _ => rfl, fun z => absurd z (by decide +kernel), fun q hq => ?_⟩
      cases hq
    · obtain ⟨fd, FD⟩ := c.def_ 24 (d := mkD "_law_one" (top 32) []) rfl
      refine ⟨_, fd, [], [], _, He.glo_ok X G (c.fact 24 (f := .glo "_law_one") rfl), FD, FunD.bindsN FD fun _ _ _ _ _ _ us hl => match us, hl with | [_, _], _ => rfl, fun z => absurd z (by decide +kernel), fun q hq => ?_⟩
      cases hq
    · obtain ⟨fd, FD⟩ := c.def_ 25 (d := mkD "_law_thing" (top 43) []) rfl
      refine ⟨_, fd, [], [], _, He.glo_ok X G (c.fact 25 (f := .glo "_law_thing") rfl), FD, FunD.bindsN FD fun _ _ _ _ _ _ us hl => match us, hl with | [_], _ => rfl, fun z => absurd z (by decide +kernel), fun q hq => ?_⟩
      cases hq
    · obtain ⟨fd, FD⟩ := c.def_ 26 (d := mkD "_law_bent_tables" (top 42) []) rfl
      refine ⟨_, fd, [], [], _, He.glo_ok X G (c.fact 26 (f := .glo "_law_bent_tables") rfl), FD, FunD.bindsN FD fun _ _ _ _ _ _ us hl => match us, hl with | [_, _], _ => rfl, fun z => absurd z (by decide +kernel), fun q hq => ?_⟩
      cases hq
    · obtain ⟨fd, FD⟩ := c.def_ 27 (d := mkD "_law_is_number" (top 38) []) rfl
      refine ⟨_, fd, [], [], _, He.glo_ok X G (c.fact 27 (f := .glo "_law_is_number") rfl), FD, FunD.bindsN FD fun _ _ _ _ _ _ us hl => match us, hl with | [_, _, _], _ => rfl, fun z => absurd z (by decide +kernel), fun q hq => ?_⟩
      cases hq
    · obtain ⟨fd, FD⟩ := c.def_ 28 (d := mkD "_law_is_lot" (top 39) []) rfl
      refine ⟨_, fd, [], [], _, He.glo_ok X G (c.fact 28 (f := .glo "_law_is_lot") rfl), FD, FunD.bindsN FD fun _ _ _ _ _ _ us hl => match us, hl with | [_, _], _ => rfl, fun z => absurd z (by decide +kernel), fun q hq => ?_⟩
      cases hq
    · obtain ⟨fd, FD⟩ := c.def_ 29 (d := mkD "_law_is_table" (top 40) []) rfl
      refine ⟨_, fd, [], [], _, He.glo_ok X G (c.fact 29 (f := .glo "_law_is_table") rfl), FD, FunD.bindsN FD fun _ _ _ _ _ _ us hl => match us, hl with | [_], _ => rfl, fun z => absurd z (by decide +kernel), fun q hq => ?_⟩
      cases hq
    · obtain ⟨fd, FD⟩ := c.def_ 30 (d := mkD "_law_is_display" (top 41) []) rfl
      refine ⟨_, fd, [], [], _, He.glo_ok X G (c.fact 30 (f := .glo "_law_is_display") rfl), FD, FunD.bindsN FD fun _ _ _ _ _ _ us hl => match us, hl with | [_], _ => rfl, fun z => absurd z (by decide +kernel), fun q hq => ?_⟩
      cases hq
    · obtain ⟨fd, FD⟩ := c.def_ 31 (d := mkD "_law_right" (top 45) []) rfl
      refine ⟨_, fd, [], [], _, He.glo_ok X G (c.fact 31 (f := .glo "_law_right") rfl), FD, FunD.bindsN FD fun _ _ _ _ _ _ us hl => match us, hl with | [_], _ => rfl, fun z => absurd z (by decide +kernel), fun q hq => ?_⟩
      cases hq
    · obtain ⟨fd, FD⟩ := c.def_ 32 (d := mkD "_law_pool" (top 30) []) rfl
      refine ⟨_, fd, [], [], _, He.glo_ok X G (c.fact 32 (f := .glo "_law_pool") rfl), FD, FunD.bindsN FD fun _ _ _ _ _ _ us hl => match us, hl with | [_, _], _ => rfl, fun z => absurd z (by decide +kernel), fun q hq => ?_⟩
      cases hq
    · obtain ⟨fd, FD⟩ := c.def_ 33 (d := mkD "law" (top 46) []) rfl
      refine ⟨_, fd, [], [], _, He.glo_ok X G (c.fact 33 (f := .glo "law") rfl), FD, FunD.bindsN FD fun _ _ _ _ _ _ us hl => match us, hl with | [_], _ => rfl, fun _ s us hl => FunD.bindsA FD (fun _ _ _ _ _ _ us hl => match us, hl with | [_], _ => rfl) s us hl, fun q hq => ?_⟩
      cases hq
end K06
open PySem PySem.W PySem.Calls PyProof.Rows
theorem K06.fin (plain : ∀ ns : List Int, ns.length ≤ 63 → ∃ st', DB.runFn K06.F_law [.dat (.scr (ns.map DB.D.int))] [] = .ok (.dat (.bl true)) st') : PySem.Challenge.rw_darkbars_k06_whole_displays_of_anything.Holds := by
  w_on; o_law
  refine HandSHeadRun.head_any (r := OpenLaw.row PySem.Challenge.rw_darkbars_k06_whole_displays_of_anything) (q := view (OpenLaw.row PySem.Challenge.rw_darkbars_k06_whole_displays_of_anything).prog [46]) (H := K06.hk) (ob := K06.ob) (M := 20000) (loose := K06.loose) (d := HandSHeadRun.topDef (OpenLaw.row PySem.Challenge.rw_darkbars_k06_whole_displays_of_anything).prog 46) (kwd := []) K06.ob_eq
    (by kernel_rfl) (fun s => by kernel_rfl) K06.run (by kernel_rfl) (by kernel_rfl) (by kernel_rfl) (by rfl) (by first | assumption | decide +kernel) (by decide +kernel) ⟨rfl, rfl, rfl, rfl, rfl, by decide +kernel⟩ ?hw ?hc
  case hw => w_witness2
  case hc =>
    refine DB.walk_G (l := PySem.Challenge.rw_darkbars_k06_whole_displays_of_anything) (n := 63) (k := 14) (x := "script") rfl (by decide) (by kernel_rfl) ⟨rfl, by decide, by decide⟩ ?F
    intro w mg fa h Y G hmg0
    obtain ⟨K, KX, c⟩ := Y
    have hmg : mg ("law" : PySem.Str) = some (.ref fa) := by
      have e : (HandSHeadRun.topDef (OpenLaw.row PySem.Challenge.rw_darkbars_k06_whole_displays_of_anything).prog 46).name = ("law" : PySem.Str) := by kernel_rfl
      rw [← e]
      exact hmg0
    obtain ⟨fd, hb, hF⟩ := DB.law_of (P := (PySem.Challenge.rw_darkbars_k06_whole_displays_of_anything).prog) (w := w) (K06.wo KX G c) (id := 33) (d := K06.d_law) rfl rfl rfl hmg (K06.good_law 14 (Nat.le_refl _))
    exact ⟨K, fd, DB.spF K K06.F_law, KX, fun s v => hb s v, fun H a ns hl hS => DB.law_sp plain (by decide) H a ns hl hS, fun base _ _ => hF base⟩
theorem PySem.Challenge.cw_darkbars_k06_whole_displays_of_anything_holds : PySem.Challenge.rw_darkbars_k06_whole_displays_of_anything.Holds := by
  exact K06.fin fun ns h => by
    have e := K06.law ns h
    rw [DB.runV_eq] at e
    exact e
