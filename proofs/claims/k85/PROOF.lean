import PyProof.Rows.All
import Wide.All
import OpenK.AllK
import Wide.FinOn
import HandS.ForMost
import HandS.Zip
import HandS.Rev
import HandS.Conv
import HandS.Deep
import HandS.SortInts
import HandS.IsInst
import HandS.TupAny
import HandS.Wide
import HandS.WideBits
import HandS.More
import KE.GoesMore
import HandS.Walk
import HandS.NoneIn
import HandS.WordsExc
import HandS.Defaults
import HandS.HeadHook2
import HandS.HeadEnd
import KE.KStateDown
import HandS.Head0
import HandS.Head1
import HandS.Head2
import KE.OsArith
import KE.BitLaws
import Lean
import HandS.Base
import HandS.HeadHook1
import PySem.Challenge.RW_sketchkeep_k85_whole_joined_sketches
section
set_option Elab.async false
set_option linter.all false
/-! Dv1: abstract data, the intermediate form, its meaning. -/
namespace Dv
open PySem L2

/-- what may be kept: in a name, a container -/
inductive S where
  | non | bl (b : Bool) | int (i : Int) | str (x : Str) | tup (xs : List S) | loc (n : Nat)
  /-- a list that nobody changes: the script -/
  | rol (xs : List S)
  /-- a tuple of the text's own -/
  | ktu (xs : List S)
  deriving Inhabited
mutual
def S.beq : S → S → Bool
  | .non, .non => true
  | .bl a, .bl b => a == b
  | .int a, .int b => a == b
  | .str a, .str b => decide (a = b)
  | .tup xs, .tup ys => S.beqs xs ys
  | .rol xs, .rol ys => S.beqs xs ys
  | .ktu xs, .ktu ys => S.beqs xs ys
  | .loc a, .loc b => a == b
  | _, _ => false
def S.beqs : List S → List S → Bool
  | [], [] => true
  | x :: xs, y :: ys => S.beq x y && S.beqs xs ys
  | _, _ => false
end
mutual
theorem S.beq_eq : ∀ (a b : S), S.beq a b = true ↔ a = b
  | .non, b => by cases b <;> simp [S.beq]
  | .bl a, b => by cases b <;> simp [S.beq]
  | .int a, b => by cases b <;> simp [S.beq]
  | .str a, b => by cases b <;> simp [S.beq]
  | .loc a, b => by cases b <;> simp [S.beq]
  | .tup xs, b => by
    cases b <;> simp only [S.beq, Bool.false_eq_true, reduceCtorEq, S.tup.injEq]
    exact S.beqs_eq xs _
  | .rol xs, b => by
    cases b <;> simp only [S.beq, Bool.false_eq_true, reduceCtorEq, S.rol.injEq]
    exact S.beqs_eq xs _
  | .ktu xs, b => by
    cases b <;> simp only [S.beq, Bool.false_eq_true, reduceCtorEq, S.ktu.injEq]
    exact S.beqs_eq xs _
theorem S.beqs_eq : ∀ (a b : List S), S.beqs a b = true ↔ a = b
  | [], b => by cases b <;> simp [S.beqs]
  | x :: xs, b => by
    cases b with
    | nil => simp [S.beqs]
    | cons y ys => simp [S.beqs, S.beq_eq x y, S.beqs_eq xs ys]
end
instance : DecidableEq S := fun a b => if h : S.beq a b = true then isTrue ((S.beq_eq a b).mp h) else isFalse fun e => h ((S.beq_eq a b).mpr e)

/-- what stands at a place of the store -/
inductive Ob where
  | lst (xs : List S) | dK (kvs : List (Key × S)) | dT (kvs : List (List Key × S)) | ins (C : Nat) (fs : List (Str × S))
  deriving DecidableEq
/-- what an expression gives: a thing that may be kept, or a new object that nobody holds -/
inductive D where
  | s (x : S) | new (o : Ob)
abbrev Sig := List (Option S)
abbrev Sto := List Ob
abbrev LINE : Nat := 16777216

mutual
def S.und (n : Nat) : S → Bool
  | .loc k => decide (k < n)
  | .tup xs => S.unds n xs
  | .rol xs => S.unds n xs
  | .ktu xs => S.unds n xs
  | _ => true
def S.unds (n : Nat) : List S → Bool
  | [] => true
  | x :: xs => S.und n x && S.unds n xs
end
def kvBelow {κ : Type} (n : Nat) : List (κ × S) → Bool
  | [] => true
  | p :: r => S.und n p.2 && kvBelow n r
def Ob.und (n : Nat) : Ob → Bool
  | .lst xs => S.unds n xs
  | .dK kvs => kvBelow n kvs
  | .dT kvs => kvBelow n kvs
  | .ins _ fs => kvBelow n fs
def sigBelow (n : Nat) : Sig → Bool
  | [] => true
  | none :: r => sigBelow n r
  | some x :: r => S.und n x && sigBelow n r

/-- the old objects that were changed hold no new places -/
def GCok (μ μ' : Sto) : Prop := ∀ i, i < μ.length → ∀ o, μ'[i]? = some o → μ[i]? = some o ∨ o.und μ.length = true
def gcB (n : Nat) : Sto → Sto → Bool
  | [], _ => true
  | _ :: _, [] => true
  | o :: r, p :: q => (decide (o = p) || p.und n) && gcB n r q
theorem gcB_iff (n : Nat) : ∀ (μ μ' : Sto), gcB n μ μ' = true ↔ ∀ i, i < μ.length → ∀ o, μ'[i]? = some o → μ[i]? = some o ∨ o.und n = true
  | [], μ' => by simp [gcB]
  | o :: r, [] => by simp [gcB]
  | o :: r, p :: q => by
    simp only [gcB, Bool.and_eq_true, Bool.or_eq_true, decide_eq_true_eq, gcB_iff n r q, List.length_cons]
    constructor
    · rintro ⟨h1, h2⟩ i hi x hx
      cases i with
      | zero =>
        simp only [List.getElem?_cons_zero, Option.some.injEq] at hx ⊢
        subst hx
        rcases h1 with h | h
        · exact .inl h
        · exact .inr h
      | succ i =>
        simp only [List.getElem?_cons_succ] at hx ⊢
        exact h2 i (by omega) x hx
    · intro h
      refine ⟨?_, fun i hi x hx => ?_⟩
      · have := h 0 (by omega) p (by simp)
        simpa using this
      · have := h (i + 1) (by omega) x (by simpa using hx)
        simpa using this
instance (μ μ' : Sto) : Decidable (GCok μ μ') := decidable_of_iff (gcB μ.length μ μ' = true) (gcB_iff μ.length μ μ')

def get (g : Sig) (i : Nat) : Option S := (g[i]?).join
def kill (g : Sig) : List Nat → Sig
  | [] => g
  | i :: r => (kill g r).set i none

/-- a new object is laid -/
def toS : D → Sto → S × Sto
  | .s x, μ => (x, μ)
  | .new o, μ => (.loc μ.length, μ ++ [o])
/-- drop what was laid since n places stood -/
def fin (gc : Bool) (μ : Sto) (d : D) (μ' : Sto) : Option (D × Sto) :=
  if gc = true then
    if GCok μ μ' then
      match d with
      | .s (.loc k) => if k < μ.length then some (.s (.loc k), μ'.take μ.length) else
          (μ'[k]?).bind fun o => if o.und μ.length then some (.new o, μ'.take μ.length) else none
      | .s x => if x.und μ.length then some (.s x, μ'.take μ.length) else none
      | .new o => if o.und μ.length then some (.new o, μ'.take μ.length) else none
    else none
  else some (d, μ')

/-! ### reading data -/
/-- a list that may be changed -/
def lstOf (μ : Sto) : D → Option (List S)
  | .new (.lst xs) => some xs
  | .s (.loc n) => match μ[n]? with | some (.lst xs) => some xs | _ => none
  | _ => none
/-- a list that is read -/
def seqL (μ : Sto) : D → Option (List S)
  | .new (.lst xs) => some xs
  | .s (.loc n) => match μ[n]? with | some (.lst xs) => some xs | _ => none
  | .s (.rol xs) => some xs
  | _ => none
def tupOf : D → Option (List S)
  | .s (.tup xs) => some xs
  | _ => none
def intOf : D → Option Int
  | .s (.int i) => some i
  | _ => none
def blOf : D → Option Bool
  | .s (.bl b) => some b
  | _ => none
def asInts : List S → Option (List Int)
  | [] => some []
  | .int i :: r => (asInts r).map (i :: ·)
  | _ => none
def asBls : List S → Option (List Bool)
  | [] => some []
  | .bl i :: r => (asBls r).map (i :: ·)
  | _ => none
mutual
/-- plain data -/
def S.py : S → Option PyData
  | .non => some .none
  | .bl b => some (.bool b)
  | .int i => some (.int i)
  | .str x => some (.str x)
  | .tup xs => (S.pys xs).map .tuple
  | .loc _ => none
  | .rol _ => none
  | .ktu _ => none
def S.pys : List S → Option (List PyData)
  | [] => some []
  | x :: xs => (S.py x).bind fun d => (S.pys xs).map (d :: ·)
end
def pyD (μ : Sto) : D → Option PyData
  | .new (.lst xs) => (S.pys xs).map .list
  | .s (.loc n) => match μ[n]? with | some (.lst xs) => (S.pys xs).map .list | _ => none
  | .s x => x.py
  | _ => none
def flat : S → Bool
  | .non => true | .bl _ => true | .int _ => true | .str _ => true | _ => false
/-- == of flat things -/
def feq : S → S → Bool
  | .non, .non => true
  | .bl a, .bl b => a == b
  | .bl a, .int b => (if a then 1 else 0) == b
  | .int a, .bl b => a == (if b then 1 else 0)
  | .int a, .int b => a == b
  | .str a, .str b => a == b
  | _, _ => false
def keyOf : S → Option Key
  | .int i => some (.inl i)
  | .str x => some (.inr x)
  | _ => none
def keysOf : List S → Option (List Key)
  | [] => some []
  | x :: r => (keyOf x).bind fun k => (keysOf r).map (k :: ·)
def kS : Key → S
  | .inl i => .int i
  | .inr x => .str x
section
variable {κ : Type} [DecidableEq κ] {α : Type}
def look (kvs : List (κ × α)) (k : κ) : Option α := (kvs.find? fun kv => decide (kv.1 = k)).map (·.2)
def put (kvs : List (κ × α)) (k : κ) (v : α) : List (κ × α) :=
  if (kvs.any fun kv => decide (kv.1 = k)) = true then kvs.map (fun kv => if kv.1 = k then (kv.1, v) else kv) else kvs ++ [(k, v)]
def drop (kvs : List (κ × α)) (k : κ) : List (κ × α) := kvs.filter fun kv => decide (kv.1 ≠ k)
end
def dictOf (μ : Sto) : D → Option Ob
  | .new o => some o
  | .s (.loc n) => μ[n]?
  | _ => none
/-- d[k], d.get(k) -/
def dlook (o : Ob) (k : D) : Option (Option S) :=
  match o, k with
  | .dK kvs, .s x => (keyOf x).map fun k => look kvs k
  | .dT kvs, .s (.tup xs) => (keysOf xs).map fun k => look kvs k
  | _, _ => none

/-! ### operators -/
inductive Bop where
  | add | sub | mul | fdiv | mod | pow | shl | shr | band | bor | bxor
  deriving DecidableEq
inductive Cop where
  | eq | ne | lt | le | gt | ge | isN | notN | mem | nmem
  deriving DecidableEq
def small64 (i : Int) : Bool := decide (-(2 ^ 64) < i) && decide (i < 2 ^ 64)
def iop (op : Bop) (i j : Int) : Option Int :=
  match op with
  | .add => some (i + j)
  | .sub => some (i - j)
  | .mul => if small64 i || small64 j || decide (i.natAbs.log2 + j.natAbs.log2 < 1000000) then some (i * j) else none
  | .fdiv => if 0 < j then (if j < 1073741824 ∨ j.natAbs.log2 < 9000 then some (i / j) else none) else if j ≠ 0 ∧ j.natAbs < 1073741824 then some (i.fdiv j) else none
  | .mod => if 0 < j then some (i % j) else if j ≠ 0 then some (i.fmod j) else none
  | .pow => if 0 ≤ j ∧ j ≤ 1000000 ∧ i.natAbs < 2 ^ 64 then some (i ^ j.toNat) else none
  | .shl => if 0 ≤ j ∧ j ≤ 1000000 ∧ i.natAbs < 2 ^ 64 then some (i * 2 ^ j.toNat) else none
  | .shr => if 0 ≤ j then some (i / 2 ^ j.toNat) else none
  | .band => some (Builtin.bitAnd i j)
  | .bor => some (Builtin.bitOr i j)
  | .bxor => some (Builtin.bitXor i j)
def bop (op : Bop) (a b : D) (μ : Sto) : Option D :=
  match a, b with
  | .s (.int i), .s (.int j) => (iop op i j).map fun k => .s (.int k)
  | .s (.tup xs), .s (.tup ys) => if op = .add ∧ xs.length + ys.length ≤ LINE then some (.s (.tup (xs ++ ys))) else none
  | .s (.str x), .s (.str y) => if op = .add ∧ x.length + y.length ≤ LINE then some (.s (.str (x ++ y))) else none
  | a, .s (.int k) => if op = .mul then (lstOf μ a).bind fun xs => if k < 2 ^ 63 ∧ -(2 ^ 63) ≤ k ∧ xs.length * k.toNat ≤ LINE then some (.new (.lst (List.replicate k.toNat xs).flatten)) else none else none
  | a, b => if op = .add then (lstOf μ a).bind fun xs => (lstOf μ b).bind fun ys => if xs.length + ys.length ≤ LINE then some (.new (.lst (xs ++ ys))) else none else none
def pyEq (μ : Sto) (a b : D) : Option Bool := (pyD μ a).bind fun x => (pyD μ b).bind fun y => if SeqAt.shaped x = true ∧ SeqAt.shaped y = true then some (PyData.eqv x y) else none
def isNon : D → Bool
  | .s .non => true
  | _ => false
def memB (x : D) (c : D) (μ : Sto) : Option Bool :=
  match dictOf μ c with
  | some (.dK kvs) => (dlook (.dK kvs) x).map (·.isSome)
  | some (.dT kvs) => (dlook (.dT kvs) x).map (·.isSome)
  | _ => match x, (match seqL μ c with | some xs => some xs | none => tupOf c) with
    | .s x, some xs => if flat x = true ∧ xs.all flat = true then some (xs.any fun y => feq y x) else none
    | _, _ => none
def cop (op : Cop) (a b : D) (μ : Sto) : Option Bool :=
  match op with
  | .eq => pyEq μ a b
  | .ne => (pyEq μ a b).map (!·)
  | .isN => if isNon b then some (isNon a) else none
  | .notN => if isNon b then some (!isNon a) else none
  | .mem => memB a b μ
  | .nmem => (memB a b μ).map (!·)
  | .lt => match a, b with
    | .s (.int i), .s (.int j) => some (decide (i < j))
    | .s (.tup xs), .s (.tup ys) => (asInts xs).bind fun xs => (asInts ys).map fun ys => HT.lexLt xs ys
    | _, _ => none
  | .le => match a, b with
    | .s (.int i), .s (.int j) => some (decide (i ≤ j))
    | _, _ => none
  | .gt => match a, b with
    | .s (.int i), .s (.int j) => some (decide (j < i))
    | _, _ => none
  | .ge => match a, b with
    | .s (.int i), .s (.int j) => some (decide (j ≤ i))
    | _, _ => none
/-- truth -/
def tru (d : D) (μ : Sto) : Option Bool :=
  match d with
  | .s .non => some false
  | .s (.bl b) => some b
  | .s (.int i) => some (i != 0)
  | .s (.str y) => if y.length ≤ LINE then some ((y.length : Int) != 0) else none
  | .s (.tup xs) => some (!xs.isEmpty)
  | d => match dictOf μ d with
    | some (.lst xs) => some (!xs.isEmpty)
    | some (.dK kvs) => some (!kvs.isEmpty)
    | _ => none
/-- a place in a row of n -/
def idx (a i : D) (μ : Sto) : Option S :=
  match a, i with
  | .s (.tup xs), .s (.int i) => atI xs i
  | .s (.ktu xs), .s (.int i) => atI xs i
  | a, i => match dictOf μ a with
    | some (.dK kvs) => (dlook (.dK kvs) i).join
    | some (.dT kvs) => (dlook (.dT kvs) i).join
    | _ => (seqL μ a).bind fun xs => (intOf i).bind fun i => atI xs i
def cut (xs : List S) (lo hi : Option Int) : List S := (xs.drop (HT.sIx xs.length 0 lo)).take (HT.sIx xs.length xs.length hi - HT.sIx xs.length 0 lo)
def slc (a : D) (lo hi : Option Int) (μ : Sto) : Option D :=
  match a with
  | .s (.tup xs) => some (.s (.tup (cut xs lo hi)))
  | a => (seqL μ a).map fun xs => .new (.lst (cut xs lo hi))

/-! ### the intermediate form -/
inductive Tg where
  | nm (i : Nat) | tp (ts : List Tg)
mutual
def asg : Tg → S → Sig → Option Sig
  | .nm i, x, g => some (g.set i (some x))
  | .tp ts, .tup xs, g => asgs ts xs g
  | .tp _, _, _ => none
def asgs : List Tg → List S → Sig → Option Sig
  | [], [], g => some g
  | t :: ts, x :: xs, g => (asg t x g).bind fun g => asgs ts xs g
  | _, _, _ => none
end
inductive Bi where
  | len | int | sum | tuple | list | sorted | min2 | max2 | minL | maxL | abs | any | all | divmod
  deriving DecidableEq
inductive Mt where
  | pop | popAt | rev | get1 | get2 | bitlen
  deriving DecidableEq
inductive Ty where
  | int | bool | str | tuple | list | dict
  deriving DecidableEq
mutual
inductive E where
  | var (i : Nat)
  | k (c : S)
  | gl (j : Nat)
  | bin (op : Bop) (a b : E)
  | neg (a : E)
  | cmp (op : Cop) (a b : E)
  | chn (o1 o2 : Cop) (a b c : E)
  | and (a b : E) | or (a b : E) | not (a : E) | tru (a : E)
  | ife (c a b : E)
  | ix (a b : E)
  | slc (a lo hi : E)
  | tup (es : Es) | lst (es : Es) | dnK | dnT
  | call (f : Nat) (gc : Bool) (es : Es)
  | bi (b : Bi) (es : Es)
  | mt (m : Mt) (a : E) (es : Es)
  | app (a e : E)
  | isi (a : E) (one : Bool) (ts : List Ty)
  | rg1 (t : Bool) (a : E) | rg2 (t : Bool) (a b : E)
  | lc (elt : E) (own : List Nat) (t : Tg) (it : It) (cond : E)
inductive Es where
  | nil | cons (e : E) (r : Es)
inductive It where
  | seq (e : E) | rng1 (a : E) | rng2 (a b : E) | rngD (a b : E) | enum (e : E) | zip (a b : E) | rev (e : E)
  | keys (e : E) | items (e : E) | values (e : E)
end
inductive C where
  | skip
  | seq (a b : C)
  | asg (i : Nat) (e : E)
  | asgT (t : Tg) (e : E)
  | asgL (ts : List Tg) (e : E)
  | par (i j : Nat) (a b : E)
  | sub (a i e : E)
  | aug (i : Nat) (op : Bop) (e : E)
  | augS (op : Bop) (a i e : E)
  | exp (e : E) | ret (e : E) | retN
  | ife (c : E) (a b : C)
  | whl (c : E) (b : C)
  | fr (t : Tg) (it : It) (b : C)
  | brk | cont
  | gc (ks : List Nat) (b : C)
  | kl (ks : List Nat) (b : C)
  | kill (ks : List Nat)
  | del (a i : E)

/-! ### its meaning -/
def E.isNone : E → Bool
  | .k .non => true
  | _ => false
/-- a part of a slice: left out, or an int -/
def part (e : E) (d : D) : Option (Option Int) := if e.isNone = true then some none else (intOf d).map some
abbrev Cal := Nat → List S → Sto → Option (D × Sto)
def mergeI (l : List Int) : List Int := l.mergeSort (fun a b => decide (a ≤ b))
def tyIs (μ : Sto) (d : D) (t : Ty) : Option Bool :=
  match d with
  | .s .non => some false
  | .s (.bl _) => some (t = .bool || t = .int)
  | .s (.int _) => some (t = .int)
  | .s (.str _) => some (t = .str)
  | .s (.tup _) => some (t = .tuple)
  | d => match dictOf μ d with
    | some (.lst _) => some (t = .list)
    | some (.dK _) => some (t = .dict)
    | some (.dT _) => some (t = .dict)
    | _ => none
def tyAny (μ : Sto) (d : D) : List Ty → Option Bool
  | [] => some false
  | t :: r => (tyIs μ d t).bind fun b => if b then some true else tyAny μ d r
def seqOf (μ : Sto) (d : D) : Option (List S) :=
  match d with
  | .s (.tup xs) => some xs
  | d => seqL μ d
def extr (f : Int → Int → Int) : List Int → Option Int
  | [] => none
  | x :: r => some (r.foldl f x)
def Ob.asK : Ob → Option (List (Key × S))
  | .dK kvs => some kvs
  | .lst _ => none
  | .dT _ => none
  | .ins _ _ => none
def Ob.asT : Ob → Option (List (List Key × S))
  | .dT kvs => some kvs
  | .lst _ => none
  | .dK _ => none
  | .ins _ _ => none
def kInts : List (Key × S) → Option (List Int)
  | [] => some []
  | (.inl i, _) :: r => (kInts r).map (i :: ·)
  | _ => none
def bfn (b : Bi) (ds : List D) (μ : Sto) : Option D :=
  match b, ds with
  | .len, [d] => (match d with
    | .s (.str x) => if x.length ≤ LINE then some (x.length : Int) else none
    | d => match seqOf μ d with
      | some xs => some (xs.length : Int)
      | none => match dictOf μ d with
        | some (.dK kvs) => some (kvs.length : Int)
        | _ => none).map fun n => .s (.int n)
  | .int, [.s (.int i)] => some (.s (.int i))
  | .int, [.s (.bl b)] => some (.s (.int (if b then 1 else 0)))
  | .sum, [d] => (seqL μ d).bind fun xs => (asInts xs).map fun ns => .s (.int ns.sum)
  | .tuple, [d] => (seqOf μ d).map fun xs => .s (.tup xs)
  | .list, [d] => (seqOf μ d).map fun xs => .new (.lst xs)
  | .sorted, [d] => match (dictOf μ d).bind Ob.asK with
    | some kvs => (kInts kvs).bind fun ns => if ns.length < 64 then some (.new (.lst ((mergeI ns).map S.int))) else none
    | none => (seqL μ d).bind fun xs => (asInts xs).map fun ns => .new (.lst ((mergeI ns).map S.int))
  | .min2, [.s (.int i), .s (.int j)] => some (.s (.int (if j < i then j else i)))
  | .max2, [.s (.int i), .s (.int j)] => some (.s (.int (if j > i then j else i)))
  | .minL, [d] => (seqL μ d).bind fun xs => (asInts xs).bind fun ns => (extr min ns).map fun n => .s (.int n)
  | .maxL, [d] => (seqL μ d).bind fun xs => (asInts xs).bind fun ns => (extr max ns).map fun n => .s (.int n)
  | .abs, [.s (.int i)] => some (.s (.int (if i < 0 then -i else i)))
  | .any, [d] => (seqL μ d).bind fun xs => (asBls xs).map fun ns => .s (.bl (ns.any id))
  | .all, [d] => (seqL μ d).bind fun xs => (asBls xs).map fun ns => .s (.bl (ns.all id))
  | .divmod, [.s (.int i), .s (.int j)] => if 0 < j ∧ j < 1073741824 then some (.s (.tup [.int (i / j), .int (i % j)])) else none
  | _, _ => none
def bitLen (i : Int) : Int := (Builtin.Int.intBits i : Nat)
def mtd (m : Mt) (r : D) (ds : List D) (μ : Sto) : Option (D × Sto) :=
  match m, r, ds with
  | .pop, .s (.loc n), [] => match μ[n]? with
    | some (.lst xs) => (xs[xs.length - 1]?).map fun x => (.s x, μ.set n (.lst xs.dropLast))
    | _ => none
  | .popAt, .s (.loc n), [.s (.int i)] => match μ[n]? with
    | some (.lst xs) => if 0 ≤ i ∧ i < xs.length ∧ xs.length ≤ LINE then (xs[i.toNat]?).map fun x => (.s x, μ.set n (.lst (xs.eraseIdx i.toNat))) else none
    | _ => none
  | .rev, .s (.loc n), [] => match μ[n]? with
    | some (.lst xs) => some (.s .non, μ.set n (.lst xs.reverse))
    | _ => none
  | .get1, r, [k] => (dictOf μ r).bind fun o => (dlook o k).map fun v => (.s (v.getD .non), μ)
  | .get2, r, [k, .s x] => (dictOf μ r).bind fun o => (dlook o k).map fun v => (.s (v.getD x), μ)
  | .bitlen, .s (.int i), [] => some (.s (.int (bitLen i)), μ)
  | _, _, _ => none
/-- the receiver's kind -/
def rcv (m : Mt) (r : D) (μ : Sto) : Bool :=
  match m with
  | .get1 | .get2 => match dictOf μ r with
    | some (.dK _) => true
    | some (.dT _) => true
    | _ => false
  | .bitlen => (intOf r).isSome
  | _ => (lstOf μ r).isSome
/-- a[i] = x -/
def setIx (a i : D) (x : S) (μ : Sto) : Option Sto :=
  match a, i with
  | .s (.loc n), i => match μ[n]?, i with
    | some (.lst xs), .s (.int k) => (ixN xs.length k).map fun j => μ.set n (.lst (xs.set j x))
    | some (.dK kvs), .s y => (keyOf y).bind fun k => if kvs.length < LINE then some (μ.set n (.dK (put kvs k x))) else none
    | some (.dT kvs), .s (.tup ys) => (keysOf ys).bind fun k => if kvs.length < LINE then some (μ.set n (.dT (put kvs k x))) else none
    | _, _ => none
  | _, _ => none
def delIx (a i : D) (μ : Sto) : Option Sto :=
  match a, i with
  | .s (.loc n), .s y => match μ[n]? with
    | some (.dK kvs) => (keyOf y).bind fun k => if (look kvs k).isSome then some (μ.set n (.dK (drop kvs k))) else none
    | _ => none
  | _, _ => none
def appD (a : D) (x : S) (μ : Sto) : Option Sto :=
  match a with
  | .s (.loc n) => match μ[n]? with
    | some (.lst xs) => if xs.length < LINE then some (μ.set n (.lst (xs ++ [x]))) else none
    | _ => none
  | _ => none

/-- the lists that a loop reads must stay as they are -/
abbrev Grd := List (Nat × Ob)
def gOk (gs : Grd) (μ : Sto) : Bool := gs.all fun p => decide (μ[p.1]? = some p.2)
def grd (d : D) (μ : Sto) : Grd :=
  match d with
  | .s (.loc n) => match μ[n]? with | some o => [(n, o)] | none => []
  | _ => []
def rngI (lo : Int) (c : Int) (n : Nat) : List S := (List.range n).map fun i => S.int (lo + (i : Nat) * c)
def rgD (t : Bool) (a b : Int) : Option D :=
  if -(2 ^ 62) ≤ a ∧ a < 2 ^ 62 ∧ -(2 ^ 62) ≤ b ∧ b < 2 ^ 62 ∧ (b - a).toNat ≤ 2 ^ 24 then some (if t then .s (.tup (rngI a 1 (b - a).toNat)) else .new (.lst (rngI a 1 (b - a).toNat))) else none
def b62 (i : Int) : Bool := decide (-(2 ^ 62) ≤ i) && decide (i < 2 ^ 62)
def enumS : Nat → List S → List S
  | _, [] => []
  | n, x :: r => .tup [.int (n : Nat), x] :: enumS (n + 1) r
def zipS : List S → List S → List S
  | x :: r, y :: q => .tup [x, y] :: zipS r q
  | _, _ => []

/-- a comprehension's walk -/
def lcGo (gs : Grd) (body : S → Sto → Option (Option S × Sto)) : List S → List S → Sto → Option (List S × Sto)
  | [], acc, μ => if gOk gs μ then some (acc, μ) else none
  | x :: r, acc, μ => if gOk gs μ then (body x μ).bind fun p => match p.1 with
      | some y => if acc.length < LINE then lcGo gs body r (acc ++ [y]) p.2 else none
      | none => lcGo gs body r acc p.2
    else none

mutual
def evE (c : Cal) (gl : List S) : E → Sig → Sto → Option (D × Sto)
  | .var i, g, μ => (get g i).map fun x => (.s x, μ)
  | .k x, _, μ => some (.s x, μ)
  | .gl j, _, μ => (gl[j]?).map fun x => (.s x, μ)
  | .bin op a b, g, μ => (evE c gl a g μ).bind fun p => (evE c gl b g p.2).bind fun q => (bop op p.1 q.1 q.2).map fun d => (d, q.2)
  | .neg a, g, μ => (evE c gl a g μ).bind fun p => (intOf p.1).map fun i => (.s (.int (-i)), p.2)
  | .cmp op a b, g, μ => (evE c gl a g μ).bind fun p => (evE c gl b g p.2).bind fun q => (cop op p.1 q.1 q.2).map fun d => (.s (.bl d), q.2)
  | .chn o1 o2 a b e, g, μ => (evE c gl a g μ).bind fun p => (evE c gl b g p.2).bind fun q => (cop o1 p.1 q.1 q.2).bind fun d =>
      if d = true then (evE c gl e g q.2).bind fun r => (cop o2 q.1 r.1 r.2).map fun d => (.s (.bl d), r.2) else some (.s (.bl false), q.2)
  | .and a b, g, μ => (evE c gl a g μ).bind fun p => (blOf p.1).bind fun t => if t = true then evE c gl b g p.2 else some (.s (.bl false), p.2)
  | .or a b, g, μ => (evE c gl a g μ).bind fun p => (blOf p.1).bind fun t => if t = true then some (.s (.bl true), p.2) else evE c gl b g p.2
  | .not a, g, μ => (evE c gl a g μ).bind fun p => (blOf p.1).map fun t => (.s (.bl (!t)), p.2)
  | .tru a, g, μ => (evE c gl a g μ).bind fun p => (tru p.1 p.2).map fun t => (.s (.bl t), p.2)
  | .ife t a b, g, μ => (evE c gl t g μ).bind fun p => (blOf p.1).bind fun t => if t = true then evE c gl a g p.2 else evE c gl b g p.2
  | .ix a b, g, μ => (evE c gl a g μ).bind fun p => (evE c gl b g p.2).bind fun q => (idx p.1 q.1 q.2).map fun d => (.s d, q.2)
  | .slc a lo hi, g, μ => (evE c gl a g μ).bind fun p => (evE c gl lo g p.2).bind fun q => (evE c gl hi g q.2).bind fun r => (part lo q.1).bind fun l => (part hi r.1).bind fun h => (slc p.1 l h r.2).map fun d => (d, r.2)
  | .tup es, g, μ => (evS c gl es g μ).bind fun p => if p.1.length ≤ LINE then some (.s (.tup p.1), p.2) else none
  | .lst es, g, μ => (evS c gl es g μ).bind fun p => if p.1.length ≤ LINE then some (.new (.lst p.1), p.2) else none
  | .dnK, _, μ => some (.new (.dK []), μ)
  | .dnT, _, μ => some (.new (.dT []), μ)
  | .call f gc es, g, μ => (evS c gl es g μ).bind fun p => (c f p.1 p.2).bind fun q => fin gc μ q.1 q.2
  | .bi b es, g, μ => (evD c gl es g μ).bind fun p => (bfn b p.1 p.2).map fun d => (d, p.2)
  | .mt m a es, g, μ => (evE c gl a g μ).bind fun p => if rcv m p.1 p.2 = true then (evD c gl es g p.2).bind fun q => mtd m p.1 q.1 q.2 else none
  | .app a e, g, μ => (evE c gl a g μ).bind fun p => if (lstOf p.2 p.1).isSome = true then (evE c gl e g p.2).bind fun q => (appD p.1 (toS q.1 q.2).1 (toS q.1 q.2).2).map fun μ => (.s .non, μ) else none
  | .isi a _ ts, g, μ => (evE c gl a g μ).bind fun p => (tyAny p.2 p.1 ts).map fun b => (.s (.bl b), p.2)
  | .rg1 t a, g, μ => (evE c gl a g μ).bind fun p => (intOf p.1).bind fun j => (rgD t 0 j).map fun d => (d, p.2)
  | .rg2 t a b, g, μ => (evE c gl a g μ).bind fun p => (evE c gl b g p.2).bind fun q => (intOf p.1).bind fun i => (intOf q.1).bind fun j => (rgD t i j).map fun d => (d, q.2)
  | .lc elt own t it cond, g, μ => (evI c gl it g μ).bind fun p =>
      (lcGo p.2.1 (fun x μ => (asg t x (kill g own)).bind fun g2 => (evE c gl cond g2 μ).bind fun q => (blOf q.1).bind fun t =>
        if t = true then (evE c gl elt g2 q.2).map fun r => (some (toS r.1 r.2).1, (toS r.1 r.2).2) else some (none, q.2)) p.1 [] p.2.2).map fun r => (.new (.lst r.1), r.2)
/-- arguments, each laid -/
def evS (c : Cal) (gl : List S) : Es → Sig → Sto → Option (List S × Sto)
  | .nil, _, μ => some ([], μ)
  | .cons e r, g, μ => (evE c gl e g μ).bind fun p => (evS c gl r g (toS p.1 p.2).2).map fun q => ((toS p.1 p.2).1 :: q.1, q.2)
/-- arguments as they are -/
def evD (c : Cal) (gl : List S) : Es → Sig → Sto → Option (List D × Sto)
  | .nil, _, μ => some ([], μ)
  | .cons e r, g, μ => (evE c gl e g μ).bind fun p => (evD c gl r g p.2).map fun q => (p.1 :: q.1, q.2)
/-- what is walked -/
def evI (c : Cal) (gl : List S) : It → Sig → Sto → Option (List S × Grd × Sto)
  | .seq e, g, μ => (evE c gl e g μ).bind fun p => (seqOf p.2 p.1).map fun xs => (xs, grd p.1 p.2, p.2)
  | .rng1 a, g, μ => (evE c gl a g μ).bind fun p => (intOf p.1).bind fun j => if b62 j then some (rngI 0 1 j.toNat, [], p.2) else none
  | .rng2 a b, g, μ => (evE c gl a g μ).bind fun p => (evE c gl b g p.2).bind fun q => (intOf p.1).bind fun i => (intOf q.1).bind fun j => if b62 i && b62 j then some (rngI i 1 (j - i).toNat, [], q.2) else none
  | .rngD a b, g, μ => (evE c gl a g μ).bind fun p => (evE c gl b g p.2).bind fun q => (intOf p.1).bind fun i => (intOf q.1).bind fun j => if b62 i && b62 j then some (rngI i (-1) (i - j).toNat, [], q.2) else none
  | .enum e, g, μ => (evE c gl e g μ).bind fun p => (seqOf p.2 p.1).map fun xs => (enumS 0 xs, grd p.1 p.2, p.2)
  | .zip a b, g, μ => (evE c gl a g μ).bind fun p => (evE c gl b g p.2).bind fun q => if (tupOf p.1).isSome ≠ (tupOf q.1).isSome then none else (seqOf q.2 p.1).bind fun xs => (seqOf q.2 q.1).map fun ys => (zipS xs ys, grd p.1 q.2 ++ grd q.1 q.2, q.2)
  | .rev e, g, μ => (evE c gl e g μ).bind fun p => (seqOf p.2 p.1).map fun xs => (xs.reverse, grd p.1 p.2, p.2)
  | .keys e, g, μ => (evE c gl e g μ).bind fun p => (dictOf p.2 p.1).bind fun o => match o.asK with
      | some kvs => some (kvs.map fun q => kS q.1, grd p.1 p.2, p.2)
      | none => o.asT.map fun kvs => (kvs.map fun q => S.tup (q.1.map kS), grd p.1 p.2, p.2)
  | .items e, g, μ => (evE c gl e g μ).bind fun p => (dictOf p.2 p.1).bind fun o => o.asK.map fun kvs => (kvs.map fun q => S.tup [kS q.1, q.2], grd p.1 p.2, p.2)
  | .values e, g, μ => (evE c gl e g μ).bind fun p => (dictOf p.2 p.1).bind fun o => o.asK.map fun kvs => (kvs.map fun q => q.2, grd p.1 p.2, p.2)
end

/-- how a statement ends -/
inductive Fl where
  | nx | ret (d : D) | bk | ct
abbrev Rs := Option (Fl × Sig × Sto)
def whileN (c : Sig → Sto → Option (D × Sto)) (b : Sig → Sto → Rs) : Nat → Sig → Sto → Rs
  | 0, _, _ => none
  | n + 1, g, μ => (c g μ).bind fun p => (blOf p.1).bind fun t => if t = true then (b g p.2).bind fun r => match r.1 with
      | .nx => whileN c b n r.2.1 r.2.2
      | .ct => whileN c b n r.2.1 r.2.2
      | .bk => some (.nx, r.2)
      | .ret d => some (.ret d, r.2)
    else some (.nx, g, p.2)
def whileD (c : Sig → Sto → Option (D × Sto)) (b : Sig → Sto → Rs) (g : Sig) (μ : Sto) : Rs :=
  c g μ >>= fun p => blOf p.1 >>= fun t => if t = true then b g p.2 >>= fun r => match r.1 with
      | .nx => whileD c b r.2.1 r.2.2
      | .ct => whileD c b r.2.1 r.2.2
      | .bk => some (.nx, r.2)
      | .ret d => some (.ret d, r.2)
    else some (.nx, g, p.2)
partial_fixpoint
def forGo (gs : Grd) (body : S → Sig → Sto → Rs) : List S → Sig → Sto → Rs
  | [], g, μ => if gOk gs μ then some (.nx, g, μ) else none
  | x :: r, g, μ => if gOk gs μ then (body x g μ).bind fun q => match q.1 with
      | .nx => forGo gs body r q.2.1 q.2.2
      | .ct => forGo gs body r q.2.1 q.2.2
      | .bk => some (.nx, q.2)
      | .ret d => some (.ret d, q.2)
    else none
def gcR (ks : List Nat) (μ : Sto) (r : Fl × Sig × Sto) : Rs :=
  match r.1 with
  | .ret d => some (.ret d, r.2)
  | f => if sigBelow μ.length (kill r.2.1 ks) = true ∧ GCok μ r.2.2 then some (f, kill r.2.1 ks, r.2.2.take μ.length) else none
def run (c : Cal) (gl : List S) : C → Sig → Sto → Rs
  | .skip, g, μ => some (.nx, g, μ)
  | .seq a b, g, μ => (run c gl a g μ).bind fun r => match r.1 with
      | .nx => run c gl b r.2.1 r.2.2
      | f => some (f, r.2)
  | .asg i e, g, μ => (evE c gl e g μ).map fun p => (.nx, g.set i (some (toS p.1 p.2).1), (toS p.1 p.2).2)
  | .asgT t e, g, μ => (evE c gl e g μ).bind fun p => match p.1 with
      | .s x => (asg t x g).map fun g => (.nx, g, p.2)
      | _ => none
  | .asgL ts e, g, μ => (evE c gl e g μ).bind fun p => (seqL p.2 p.1).bind fun xs => (asgs ts xs g).map fun g => (.nx, g, p.2)
  | .par i j a b, g, μ => (evS c gl (.cons a (.cons b .nil)) g μ).bind fun p => match p.1 with
      | [x, y] => some (.nx, (g.set i (some x)).set j (some y), p.2)
      | _ => none
  | .sub a i e, g, μ => (evE c gl e g μ).bind fun p => (evE c gl a g (toS p.1 p.2).2).bind fun q => (evE c gl i g q.2).bind fun r => (setIx q.1 r.1 (toS p.1 p.2).1 r.2).map fun μ => (.nx, g, μ)
  | .aug i op e, g, μ => (get g i).bind fun x => (evE c gl e g μ).bind fun p => (intOf (.s x)).bind fun x => (intOf p.1).bind fun y => (iop op x y).map fun z => (.nx, g.set i (some (.int z)), p.2)
  | .augS op a i e, g, μ => (evE c gl a g μ).bind fun p => (evE c gl i g p.2).bind fun q => (idx p.1 q.1 q.2).bind fun x => (evE c gl e g q.2).bind fun r =>
      (intOf (.s x)).bind fun x => (intOf r.1).bind fun y => (iop op x y).bind fun z => (setIx p.1 q.1 (.int z) r.2).map fun μ => (.nx, g, μ)
  | .exp e, g, μ => (evE c gl e g μ).map fun p => (.nx, g, p.2)
  | .ret e, g, μ => (evE c gl e g μ).map fun p => (.ret p.1, g, p.2)
  | .retN, g, μ => some (.ret (.s .non), g, μ)
  | .ife t a b, g, μ => (evE c gl t g μ).bind fun p => (blOf p.1).bind fun t => if t = true then run c gl a g p.2 else run c gl b g p.2
  | .whl t b, g, μ => whileD (evE c gl t) (run c gl b) g μ
  | .fr t it b, g, μ => (evI c gl it g μ).bind fun p => forGo p.2.1 (fun x g μ => (asg t x g).bind fun g => run c gl b g μ) p.1 g p.2.2
  | .brk, g, μ => some (.bk, g, μ)
  | .cont, g, μ => some (.ct, g, μ)
  | .gc ks b, g, μ => (run c gl b g μ).bind fun r => gcR ks μ r
  | .kl ks b, g, μ => (run c gl b g μ).map fun r => (r.1, kill r.2.1 ks, r.2.2)
  | .kill ks, g, μ => some (.nx, kill g ks, μ)
  | .del a i, g, μ => (evE c gl a g μ).bind fun p => (evE c gl i g p.2).bind fun q => (delIx p.1 q.1 q.2).map fun μ => (.nx, g, μ)
/-- a def: its parameters, names, whether what it lays goes with it, its body -/
structure Fn where
  np : Nat
  ns : Nat
  gc : Bool
  body : C
def callK (tb : List Fn) (gl : List S) : Nat → Cal
  | 0, _, _, _ => none
  | k + 1, f, xs, μ => (tb[f]?).bind fun fn => if xs.length = fn.np then
      (run (callK tb gl k) gl fn.body (xs.map some ++ List.replicate (fn.ns - fn.np) none) μ).bind fun r => match r.1 with
        | .ret d => fin fn.gc μ d r.2.2
        | .nx => fin fn.gc μ (.s .non) r.2.2
        | _ => none
    else none
end Dv
end
section
set_option Elab.async false
set_option linter.all false
/-! Dv2: how the layer's heap stands for the store. -/
namespace Dv
open PySem PySem.Spec PyProof.Rows L2

/-- a tuple of the text's own -/
def SqK (K : PySem.W.Frag) (a : Addr) (xs : List V) : Prop := ∃ (o : Obj) (its : Array Value) (n : Nat), K.lookup a = some o ∧ o.cls = .type "tuple" ∧ o.data = .seq its n ∧ its.size ≤ sizeLine ∧ Vals xs its.toList
/-- a list that stays: locked, or of the text's own -/
def SqF (K : PySem.W.Frag) (H : Hp) (a : Addr) (xs : List V) : Prop :=
  (∃ ob, H a = some (.frz ob (.lst xs))) ∨
    ∃ (o : Obj) (its : Array Value) (n : Nat), K.lookup a = some o ∧ o.cls = .type "list" ∧ o.dict = none ∧ o.data = .seq its n ∧ its.size ≤ sizeLine ∧ Vals xs its.toList
theorem SqF.sql {K : PySem.W.Frag} {H : Hp} {a : Addr} {xs : List V} (h : SqF K H a xs) : SqL K H a xs := by
  rcases h with ⟨ob, h⟩ | h
  · exact .inl (.inr ⟨ob, h⟩)
  · exact .inr h
mutual
def Rep (K : PySem.W.Frag) (ι : List Addr) (H : Hp) : S → V → Prop
  | .non, v => v = .non
  | .bl b, v => v = .bl b
  | .int i, v => v = .int i
  | .str x, v => v = .str x
  | .loc n, v => ∃ a, ι[n]? = some a ∧ v = .ref a
  | .tup xs, v => ∃ a vs, v = .ref a ∧ H a = some (.tup vs) ∧ Reps K ι H xs vs
  | .ktu xs, v => ∃ a vs, v = .ref a ∧ SqK K a vs ∧ Reps K ι H xs vs
  | .rol xs, v => ∃ a vs, v = .ref a ∧ SqF K H a vs ∧ Reps K ι H xs vs
def Reps (K : PySem.W.Frag) (ι : List Addr) (H : Hp) : List S → List V → Prop
  | [], vs => vs = []
  | x :: xs, vs => ∃ v r, vs = v :: r ∧ Rep K ι H x v ∧ Reps K ι H xs r
end
def RepKV {κ : Type} (K : PySem.W.Frag) (ι : List Addr) (H : Hp) (kvs : List (κ × S)) (ws : List (κ × V)) : Prop :=
  ws.map (·.1) = kvs.map (·.1) ∧ Reps K ι H (kvs.map (·.2)) (ws.map (·.2))
def RepO (K : PySem.W.Frag) (ι : List Addr) (H : Hp) (a : Addr) : Ob → Prop
  | .lst xs => ∃ vs, H a = some (.lst vs) ∧ Reps K ι H xs vs
  | .dK kvs => ∃ ws, H a = some (.dK ws) ∧ RepKV K ι H kvs ws
  | .dT kvs => ∃ ws, H a = some (.dT ws) ∧ RepKV K ι H kvs ws
  | .ins _ _ => False
structure Rl (K : PySem.W.Frag) (ι : List Addr) (μ : Sto) (H : Hp) : Prop where
  len : ι.length = μ.length
  nd : ι.Nodup
  at_ : ∀ (n : Nat) (o : Ob), μ[n]? = some o → ∃ a, ι[n]? = some a ∧ RepO K ι H a o
/-- later: more places, the rest kept -/
structure Ext (ι ι' : List Addr) (H H' : Hp) : Prop where
  pre : ∃ t, ι' = ι ++ t
  keep : ∀ a o, H a = some o → a ∉ ι → H' a = some o
  new : ∀ a, a ∈ ι' → a ∉ ι → H a = none
theorem Ext.refl {ι : List Addr} {H : Hp} : Ext ι ι H H := ⟨⟨[], by simp⟩, fun _ _ h _ => h, fun _ h n => absurd h n⟩
theorem Ext.trans {ι ι1 ι2 : List Addr} {H H1 H2 : Hp} (a : Ext ι ι1 H H1) (b : Ext ι1 ι2 H1 H2) : Ext ι ι2 H H2 := by
  obtain ⟨t, rfl⟩ := a.pre
  obtain ⟨u, rfl⟩ := b.pre
  refine ⟨⟨t ++ u, by simp⟩, fun x o h n => ?_, fun x h n => ?_⟩
  · refine b.keep x o (a.keep x o h n) fun z => ?_
    have := a.new x z n
    rw [h] at this; cases this
  · by_cases hx : x ∈ ι ++ t
    · exact a.new x hx n
    · have := b.new x h hx
      cases q : H x with
      | none => rfl
      | some o => rw [a.keep x o q n] at this; cases this
theorem Ext.get {ι ι' : List Addr} {H H' : Hp} (e : Ext ι ι' H H') {n : Nat} {a : Addr} (h : ι[n]? = some a) : ι'[n]? = some a := by
  obtain ⟨t, rfl⟩ := e.pre
  obtain ⟨hn, _⟩ := List.getElem?_eq_some_iff.mp h
  rw [List.getElem?_append_left hn]; exact h
section
variable {K : PySem.W.Frag} {ι ι' : List Addr} {μ μ' : Sto} {H H' : Hp}
theorem Rl.mem (r : Rl K ι μ H) {a : Addr} (h : a ∈ ι) : ∃ (n : Nat) (o : Ob), μ[n]? = some o ∧ ι[n]? = some a ∧ RepO K ι H a o := by
  obtain ⟨n, hn, e⟩ := List.getElem_of_mem h
  have hn' : n < μ.length := by rw [← r.len]; exact hn
  obtain ⟨b, hb, ro⟩ := r.at_ n μ[n] (by simp [hn'])
  have e' : ι[n]? = some a := by rw [List.getElem?_eq_getElem hn, e]
  rw [e'] at hb; cases hb
  exact ⟨n, _, by simp [hn'], e', ro⟩
theorem RepO.there {a : Addr} {o : Ob} (r : RepO K ι H a o) : ∃ u, H a = some u ∧ (∀ ob v, u ≠ .frz ob v) ∧ ∀ v, u ≠ .tup v := by
  cases o with
  | lst xs => obtain ⟨vs, h, _⟩ := r; exact ⟨_, h, by simp, by simp⟩
  | dK xs => obtain ⟨vs, h, _⟩ := r; exact ⟨_, h, by simp, by simp⟩
  | dT xs => obtain ⟨vs, h, _⟩ := r; exact ⟨_, h, by simp, by simp⟩
  | ins => exact r.elim
theorem Ext.tup (e : Ext ι ι' H H') (r : Rl K ι μ H) {a : Addr} {vs : List V} (h : H a = some (.tup vs)) : H' a = some (.tup vs) :=
  e.keep a _ h fun z => by
    obtain ⟨n, o, _, _, ro⟩ := r.mem z
    obtain ⟨u, hu, _, q⟩ := ro.there
    rw [h] at hu; cases hu
    exact q _ rfl
theorem Ext.frz (e : Ext ι ι' H H') (r : Rl K ι μ H) {a : Addr} {vs : List V} (h : SqF K H a vs) : SqF K H' a vs := by
  rcases h with ⟨ob, h⟩ | h
  · refine .inl ⟨ob, e.keep a _ h fun z => ?_⟩
    obtain ⟨n, o, _, _, ro⟩ := r.mem z
    obtain ⟨u, hu, q, _⟩ := ro.there
    rw [h] at hu; cases hu
    exact q _ _ rfl
  · exact .inr h
mutual
theorem Rep.ext (e : Ext ι ι' H H') (r : Rl K ι μ H) : ∀ {x : S} {v : V}, Rep K ι H x v → Rep K ι' H' x v
  | .non, _, h => h
  | .bl _, _, h => h
  | .int _, _, h => h
  | .str _, _, h => h
  | .loc n, v, h => by
    simp only [Rep] at h ⊢
    obtain ⟨a, h1, h2⟩ := h
    exact ⟨a, e.get h1, h2⟩
  | .tup xs, v, h => by
    simp only [Rep] at h ⊢
    obtain ⟨a, vs, h1, h2, h4⟩ := h
    exact ⟨a, vs, h1, e.tup r h2, Reps.ext e r h4⟩
  | .rol xs, v, h => by
    simp only [Rep] at h ⊢
    obtain ⟨a, vs, h1, h2, h4⟩ := h
    exact ⟨a, vs, h1, e.frz r h2, Reps.ext e r h4⟩
  | .ktu xs, v, h => by
    simp only [Rep] at h ⊢
    obtain ⟨a, vs, h1, h2, h4⟩ := h
    exact ⟨a, vs, h1, h2, Reps.ext e r h4⟩
theorem Reps.ext (e : Ext ι ι' H H') (r : Rl K ι μ H) : ∀ {xs : List S} {vs : List V}, Reps K ι H xs vs → Reps K ι' H' xs vs
  | [], _, h => h
  | x :: xs, vs, h => by
    simp only [Reps] at h ⊢
    obtain ⟨v, q, h1, h2, h3⟩ := h
    exact ⟨v, q, h1, Rep.ext e r h2, Reps.ext e r h3⟩
end
mutual
theorem Rep.more (hp : ∀ {n : Nat} {b : Addr}, ι[n]? = some b → ι'[n]? = some b) : ∀ {x : S} {v : V}, Rep K ι H x v → Rep K ι' H x v
  | .non, _, h => h
  | .bl _, _, h => h
  | .int _, _, h => h
  | .str _, _, h => h
  | .loc n, v, h => by
    simp only [Rep] at h ⊢
    obtain ⟨a, h1, h2⟩ := h
    exact ⟨a, hp h1, h2⟩
  | .tup xs, v, h => by
    simp only [Rep] at h ⊢
    obtain ⟨a, vs, h1, h2, h4⟩ := h
    exact ⟨a, vs, h1, h2, Reps.more hp h4⟩
  | .rol xs, v, h => by
    simp only [Rep] at h ⊢
    obtain ⟨a, vs, h1, h2, h4⟩ := h
    exact ⟨a, vs, h1, h2, Reps.more hp h4⟩
  | .ktu xs, v, h => by
    simp only [Rep] at h ⊢
    obtain ⟨a, vs, h1, h2, h4⟩ := h
    exact ⟨a, vs, h1, h2, Reps.more hp h4⟩
theorem Reps.more (hp : ∀ {n : Nat} {b : Addr}, ι[n]? = some b → ι'[n]? = some b) : ∀ {xs : List S} {vs : List V}, Reps K ι H xs vs → Reps K ι' H xs vs
  | [], _, h => h
  | x :: xs, vs, h => by
    simp only [Reps] at h ⊢
    obtain ⟨v, q, h1, h2, h3⟩ := h
    exact ⟨v, q, h1, Rep.more hp h2, Reps.more hp h3⟩
end
theorem RepO.more (hp : ∀ {n : Nat} {b : Addr}, ι[n]? = some b → ι'[n]? = some b) {a : Addr} {o : Ob} (h : RepO K ι H a o) : RepO K ι' H a o := by
  cases o with
  | lst xs => obtain ⟨vs, h1, h2⟩ := h; exact ⟨vs, h1, h2.more hp⟩
  | dK kvs => obtain ⟨vs, h1, h2, h3⟩ := h; exact ⟨vs, h1, h2, h3.more hp⟩
  | dT kvs => obtain ⟨vs, h1, h2, h3⟩ := h; exact ⟨vs, h1, h2, h3.more hp⟩
  | ins => exact h.elim
theorem RepKV.ext {κ : Type} (e : Ext ι ι' H H') (r : Rl K ι μ H) {kvs : List (κ × S)} {ws : List (κ × V)} (h : RepKV K ι H kvs ws) : RepKV K ι' H' kvs ws := ⟨h.1, Reps.ext e r h.2⟩
theorem Reps.length : ∀ {xs : List S} {vs : List V}, Reps K ι H xs vs → xs.length = vs.length
  | [], vs, h => by simp only [Reps] at h; subst h; rfl
  | x :: xs, vs, h => by
    simp only [Reps] at h
    obtain ⟨v, q, rfl, _, h3⟩ := h
    simp [Reps.length h3]
theorem Reps.get : ∀ {xs : List S} {vs : List V} {i : Nat} {x : S}, Reps K ι H xs vs → xs[i]? = some x → ∃ v, vs[i]? = some v ∧ Rep K ι H x v
  | [], _, _, _, _, e => by simp at e
  | y :: xs, vs, i, x, h, e => by
    simp only [Reps] at h
    obtain ⟨v, q, rfl, h2, h3⟩ := h
    cases i with
    | zero => simp at e; subst e; exact ⟨v, rfl, h2⟩
    | succ i =>
      obtain ⟨u, h4, h5⟩ := Reps.get (i := i) h3 (by simpa using e)
      exact ⟨u, by simpa using h4, h5⟩
theorem Reps.get' {xs : List S} {vs : List V} {i : Nat} {v : V} (h : Reps K ι H xs vs) (e : vs[i]? = some v) : ∃ x, xs[i]? = some x ∧ Rep K ι H x v := by
  obtain ⟨hi, _⟩ := List.getElem?_eq_some_iff.mp e
  have hi' : i < xs.length := by rw [h.length]; exact hi
  obtain ⟨u, h1, h2⟩ := h.get (i := i) (x := xs[i]) (by simp [hi'])
  rw [e] at h1; cases h1
  exact ⟨_, by simp [hi'], h2⟩
theorem Reps.append : ∀ {xs ys : List S} {vs ws : List V}, Reps K ι H xs vs → Reps K ι H ys ws → Reps K ι H (xs ++ ys) (vs ++ ws)
  | [], _, _, _, h, q => by simp only [Reps] at h; subst h; exact q
  | x :: xs, ys, vs, ws, h, q => by
    simp only [Reps] at h
    obtain ⟨v, r, rfl, h2, h3⟩ := h
    simp only [List.cons_append, Reps]
    exact ⟨v, r ++ ws, rfl, h2, Reps.append h3 q⟩
theorem Reps.of_get : ∀ {xs : List S} {vs : List V}, xs.length = vs.length → (∀ (i : Nat) (x : S) (v : V), xs[i]? = some x → vs[i]? = some v → Rep K ι H x v) → Reps K ι H xs vs
  | [], [], _, _ => by simp [Reps]
  | [], _ :: _, h, _ => by simp at h
  | _ :: _, [], h, _ => by simp at h
  | x :: xs, v :: vs, h, q => by
    simp only [Reps]
    exact ⟨v, vs, rfl, q 0 x v rfl rfl, Reps.of_get (by simpa using h) fun i y u h1 h2 => q (i + 1) y u (by simpa using h1) (by simpa using h2)⟩
theorem Reps.sub {xs : List S} {vs : List V} (f : Nat → Nat) {ys : List S} {ws : List V} (h : Reps K ι H xs vs) (hl : ys.length = ws.length)
    (h1 : ∀ (i : Nat) (y : S), ys[i]? = some y → xs[f i]? = some y) (h2 : ∀ (i : Nat) (w : V), ws[i]? = some w → vs[f i]? = some w) : Reps K ι H ys ws :=
  Reps.of_get hl fun i x v e1 e2 => by
    obtain ⟨u, h3, h4⟩ := h.get (h1 i x e1)
    rw [h2 i v e2] at h3; cases h3; exact h4
theorem Reps.take {xs : List S} {vs : List V} (h : Reps K ι H xs vs) (n : Nat) : Reps K ι H (xs.take n) (vs.take n) :=
  h.sub id (by simp [h.length]) (fun i y e => by rw [List.getElem?_take] at e; split at e; exact e; cases e) (fun i y e => by rw [List.getElem?_take] at e; split at e; exact e; cases e)
theorem Reps.drop {xs : List S} {vs : List V} (h : Reps K ι H xs vs) (n : Nat) : Reps K ι H (xs.drop n) (vs.drop n) :=
  h.sub (n + ·) (by simp [h.length]) (fun i y e => by rw [List.getElem?_drop] at e; exact e) (fun i y e => by rw [List.getElem?_drop] at e; exact e)
theorem Reps.set {xs : List S} {vs : List V} (h : Reps K ι H xs vs) (n : Nat) {x : S} {v : V} (r : Rep K ι H x v) : Reps K ι H (xs.set n x) (vs.set n v) :=
  Reps.of_get (by simp [h.length]) fun i y u e1 e2 => by
    rw [List.getElem?_set] at e1 e2
    by_cases hn : n = i
    · subst hn
      simp only [if_true] at e1 e2
      split at e1
      · split at e2
        · cases e1; cases e2; exact r
        · cases e2
      · cases e1
    · rw [if_neg hn] at e1 e2
      obtain ⟨w, h1, h2⟩ := h.get e1
      rw [e2] at h1; cases h1; exact h2
theorem Reps.reverse : ∀ {xs : List S} {vs : List V}, Reps K ι H xs vs → Reps K ι H xs.reverse vs.reverse
  | [], vs, h => by simp only [Reps] at h; subst h; simp [Reps]
  | x :: xs, vs, h => by
    simp only [Reps] at h
    obtain ⟨v, r, rfl, h2, h3⟩ := h
    simp only [List.reverse_cons]
    exact (Reps.reverse h3).append ⟨v, [], rfl, h2, rfl⟩
theorem Reps.erase : ∀ {xs : List S} {vs : List V}, Reps K ι H xs vs → ∀ n, Reps K ι H (xs.eraseIdx n) (vs.eraseIdx n)
  | [], vs, h, n => by simp only [Reps] at h; subst h; simp [Reps]
  | x :: xs, vs, h, n => by
    simp only [Reps] at h
    obtain ⟨v, r, rfl, h2, h3⟩ := h
    cases n with
    | zero => simpa using h3
    | succ n => simp only [List.eraseIdx_cons_succ, Reps]; exact ⟨v, _, rfl, h2, Reps.erase h3 n⟩
theorem Reps.dropLast {xs : List S} {vs : List V} (h : Reps K ι H xs vs) : Reps K ι H xs.dropLast vs.dropLast := by
  rw [List.dropLast_eq_take, List.dropLast_eq_take, h.length]; exact h.take _
theorem Reps.rep {xs : List S} {vs : List V} (h : Reps K ι H xs vs) : ∀ k : Nat, Reps K ι H (List.replicate k xs).flatten (List.replicate k vs).flatten
  | 0 => by simp [Reps]
  | k + 1 => by
    rw [List.replicate_succ, List.replicate_succ, List.flatten_cons, List.flatten_cons]
    exact h.append (Reps.rep h k)
/-- what is below n needs but the first n places -/
theorem take_get {n i : Nat} {a : Addr} (h : ι[i]? = some a) (hi : i < n) : (ι.take n)[i]? = some a := by rw [List.getElem?_take, if_pos hi]; exact h
mutual
theorem Rep.und {n : Nat} : ∀ {x : S} {v : V}, Rep K ι H x v → x.und n = true → Rep K (ι.take n) H x v
  | .non, _, h, _ => h
  | .bl _, _, h, _ => h
  | .int _, _, h, _ => h
  | .str _, _, h, _ => h
  | .loc k, v, h, u => by
    simp only [Rep, S.und, decide_eq_true_eq] at h u ⊢
    obtain ⟨a, h1, h2⟩ := h
    exact ⟨a, take_get h1 u, h2⟩
  | .tup xs, v, h, u => by
    simp only [Rep, S.und] at h u ⊢
    obtain ⟨a, vs, h1, h2, h4⟩ := h
    exact ⟨a, vs, h1, h2, Reps.und h4 u⟩
  | .rol xs, v, h, u => by
    simp only [Rep, S.und] at h u ⊢
    obtain ⟨a, vs, h1, h2, h4⟩ := h
    exact ⟨a, vs, h1, h2, Reps.und h4 u⟩
  | .ktu xs, v, h, u => by
    simp only [Rep, S.und] at h u ⊢
    obtain ⟨a, vs, h1, h2, h4⟩ := h
    exact ⟨a, vs, h1, h2, Reps.und h4 u⟩
theorem Reps.und {n : Nat} : ∀ {xs : List S} {vs : List V}, Reps K ι H xs vs → S.unds n xs = true → Reps K (ι.take n) H xs vs
  | [], _, h, _ => h
  | x :: xs, vs, h, u => by
    simp only [Reps, S.unds, Bool.and_eq_true] at h u ⊢
    obtain ⟨v, q, h1, h2, h3⟩ := h
    exact ⟨v, q, h1, Rep.und h2 u.1, Reps.und h3 u.2⟩
end
theorem kvUnd {κ : Type} {n : Nat} : ∀ {kvs : List (κ × S)}, kvBelow n kvs = S.unds n (kvs.map (·.2))
  | [] => rfl
  | p :: r => by simp only [kvBelow, List.map_cons, S.unds, kvUnd (kvs := r)]
theorem RepO.und {n : Nat} {a : Addr} {o : Ob} (h : RepO K ι H a o) (u : o.und n = true) : RepO K (ι.take n) H a o := by
  cases o with
  | lst xs => obtain ⟨vs, h1, h2⟩ := h; exact ⟨vs, h1, h2.und u⟩
  | dK kvs => obtain ⟨ws, h1, h2, h3⟩ := h; exact ⟨ws, h1, h2, h3.und (by rw [← kvUnd]; exact u)⟩
  | dT kvs => obtain ⟨ws, h1, h2, h3⟩ := h; exact ⟨ws, h1, h2, h3.und (by rw [← kvUnd]; exact u)⟩
  | ins => exact h.elim
/-- other objects may change, tuples stay: an object's standing -/
theorem RepO.ext (e : Ext ι ι' H H') (r : Rl K ι μ H) {a : Addr} {o : Ob} (h : RepO K ι H a o) (ha : a ∉ ι) : RepO K ι' H' a o := by
  cases o with
  | lst xs => obtain ⟨vs, h1, h2⟩ := h; exact ⟨vs, e.keep a _ h1 ha, h2.ext e r⟩
  | dK kvs => obtain ⟨vs, h1, h2⟩ := h; exact ⟨vs, e.keep a _ h1 ha, h2.ext e r⟩
  | dT kvs => obtain ⟨vs, h1, h2⟩ := h; exact ⟨vs, e.keep a _ h1 ha, h2.ext e r⟩
  | ins => exact h.elim
end

/-! ### the state, what an expression gives -/
structure St_ (K : PySem.W.Frag) (ι : List Addr) (g : Sig) (μ : Sto) (σ : L2.St) (H : Hp) : Prop where
  rl : Rl K ι μ H
  len : g.length = σ.length
  at_ : ∀ (i : Nat) (x : S), g[i]? = some (some x) → ∃ v, σ[i]? = some (some v) ∧ Rep K ι H x v
def RepD (K : PySem.W.Frag) (ι : List Addr) (H : Hp) : D → V → Prop
  | .s x, v => Rep K ι H x v
  | .new o, v => ∃ a, v = .ref a ∧ a ∉ ι ∧ RepO K ι H a o
def RepDs (K : PySem.W.Frag) (ι : List Addr) (H : Hp) : List D → List V → Prop
  | [], vs => vs = []
  | x :: xs, vs => ∃ v r, vs = v :: r ∧ RepD K ι H x v ∧ RepDs K ι H xs r
section
variable {K : PySem.W.Frag} {ι ι' : List Addr} {μ μ' : Sto} {H H' : Hp} {g : Sig} {σ : L2.St}
theorem St_.ext (s : St_ K ι g μ σ H) (e : Ext ι ι' H H') (r : Rl K ι' μ' H') : St_ K ι' g μ' σ H' :=
  ⟨r, s.len, fun i x h => let ⟨v, h1, h2⟩ := s.at_ i x h; ⟨v, h1, h2.ext e s.rl⟩⟩
theorem St_.get (s : St_ K ι g μ σ H) {i : Nat} {x : S} (h : get g i = some x) : ∃ v, σ[i]? = some (some v) ∧ Rep K ι H x v := by
  unfold Dv.get at h
  cases q : g[i]? with
  | none => rw [q] at h; cases h
  | some y => rw [q] at h; exact s.at_ i x (by rw [q]; simpa using h)
theorem St_.set (s : St_ K ι g μ σ H) {i : Nat} {x : S} {v : V} (h : Rep K ι H x v) : St_ K ι (g.set i (some x)) μ (σ.set i (some v)) H := by
  refine ⟨s.rl, by simpa using s.len, fun j y e => ?_⟩
  rw [List.getElem?_set] at e ⊢
  by_cases hj : i = j
  · subst hj
    simp only [if_true] at e ⊢
    split at e
    · rename_i hl
      rw [s.len] at hl
      rw [if_pos hl]
      cases e
      exact ⟨v, rfl, h⟩
    · cases e
  · rw [if_neg hj] at e ⊢
    exact s.at_ j y e
theorem kill_len (g : Sig) : ∀ ks : List Nat, (kill g ks).length = g.length
  | [] => rfl
  | k :: ks => by simp [kill, kill_len g ks]
theorem kill_get {g : Sig} {i : Nat} {x : S} : ∀ {ks : List Nat}, (kill g ks)[i]? = some (some x) → g[i]? = some (some x) ∧ i ∉ ks
  | [], h => ⟨h, by simp⟩
  | k :: ks, h => by
    simp only [kill] at h
    rw [List.getElem?_set] at h
    split at h
    · split at h
      · cases h
      · cases h
    · rename_i hk
      obtain ⟨h1, h2⟩ := kill_get h
      exact ⟨h1, by simp [h2, Ne.symm hk]⟩
theorem St_.kill (s : St_ K ι g μ σ H) (ks : List Nat) : St_ K ι (kill g ks) μ σ H :=
  ⟨s.rl, by rw [kill_len]; exact s.len, fun i x h => s.at_ i x (kill_get h).1⟩
theorem RepD.ext (e : Ext ι ι' H H') (r : Rl K ι μ H) {d : D} {v : V} (h : RepD K ι H d v) : RepD K ι' H' d v := by
  cases d with
  | s x => exact Rep.ext e r h
  | new o =>
    obtain ⟨a, h1, h2, h3⟩ := h
    refine ⟨a, h1, fun z => ?_, h3.ext e r h2⟩
    have := e.new a z h2
    obtain ⟨u, hu, _⟩ := h3.there
    rw [this] at hu; cases hu
theorem RepDs.ext (e : Ext ι ι' H H') (r : Rl K ι μ H) : ∀ {xs : List D} {vs : List V}, RepDs K ι H xs vs → RepDs K ι' H' xs vs
  | [], _, h => h
  | x :: xs, vs, h => by
    simp only [RepDs] at h ⊢
    obtain ⟨v, q, h1, h2, h3⟩ := h
    exact ⟨v, q, h1, RepD.ext e r h2, RepDs.ext e r h3⟩
/-- a fresh thing in the heap that the store does not know -/
theorem ext_fresh {p : Addr} {o : HO} (hp : H p = none) : Ext ι ι H (upd H p o) :=
  ⟨⟨[], by simp⟩, fun a u h _ => by rw [upd_ne (fun z => by rw [z, hp] at h; cases h)]; exact h, fun _ h n => absurd h n⟩
theorem Rl.notin (r : Rl K ι μ H) {p : Addr} (hp : H p = none) : p ∉ ι := fun z => by
  obtain ⟨n, o, _, _, ro⟩ := r.mem z
  obtain ⟨u, hu, _⟩ := ro.there
  rw [hp] at hu; cases hu
end
end Dv
end
section
set_option Elab.async false
set_option linter.all false
/-! Dv3: readings of the intermediate form; operators. -/
namespace Dv
open PySem PySem.Spec PyProof.Rows L2

structure Pst (K : PySem.W.Frag) (ι : List Addr) (H : Hp) (μ' : Sto) (d : D) (ι' : List Addr) (H' : Hp) (v : V) : Prop where
  ext : Ext ι ι' H H'
  rl : Rl K ι' μ' H'
  rep : RepD K ι' H' d v
  fr : ∀ o, d = .new o → ∀ a, v = .ref a → H a = none
def tD (K : PySem.W.Frag) (m : Sig → Sto → Option (D × Sto)) : TE := fun σ H Q => ∃ ι g μ d μ', St_ K ι g μ σ H ∧ m g μ = some (d, μ') ∧ ∀ ι' H' v, Pst K ι H μ' d ι' H' v → Q v H'
section
variable {K : PySem.W.Frag} {ι ι' ι2 ι3 : List Addr} {μ μ' μ2 : Sto} {H H' H2 H3 : Hp} {g : Sig} {σ : L2.St} {d : D} {v : V} {Q : VK}
theorem Ext.back (e : Ext ι ι' H H') (r : Rl K ι' μ' H') {a : Addr} (h : H' a = none) : H a = none := by
  cases q : H a with
  | none => rfl
  | some o =>
    by_cases ha : a ∈ ι
    · obtain ⟨t, rfl⟩ := e.pre
      exact absurd (List.mem_append_left t ha) (r.notin h)
    · rw [e.keep a o q ha] at h; cases h
theorem Pst.trans (e : Ext ι ι2 H H2) (r : Rl K ι2 μ2 H2) (p : Pst K ι2 H2 μ' d ι3 H3 v) : Pst K ι H μ' d ι3 H3 v :=
  ⟨e.trans p.ext, p.rl, p.rep, fun o ho a ha => e.back r (p.fr o ho a ha)⟩
/-- nothing new -/
theorem Pst.here {x : S} (r : Rl K ι μ H) (h : Rep K ι H x v) : Pst K ι H μ (.s x) ι H v := ⟨.refl, r, h, fun _ h => nomatch h⟩
theorem Rl.fresh (r : Rl K ι μ H) {p : Addr} {o : HO} (hp : H p = none) : Rl K ι μ (upd H p o) := by
  refine ⟨r.len, r.nd, fun n ob h => ?_⟩
  obtain ⟨a, h1, h2⟩ := r.at_ n ob h
  refine ⟨a, h1, ?_⟩
  have ne : a ≠ p := fun z => by
    obtain ⟨u, hu, _⟩ := h2.there
    rw [z, hp] at hu; cases hu
  have e : Ext ι ι H (upd H p o) := ext_fresh hp
  cases ob with
  | lst xs => obtain ⟨vs, q1, q2⟩ := h2; exact ⟨vs, by rw [upd_ne ne]; exact q1, q2.ext e r⟩
  | dK xs => obtain ⟨vs, q1, q2⟩ := h2; exact ⟨vs, by rw [upd_ne ne]; exact q1, q2.ext e r⟩
  | dT xs => obtain ⟨vs, q1, q2⟩ := h2; exact ⟨vs, by rw [upd_ne ne]; exact q1, q2.ext e r⟩
  | ins => exact h2.elim
/-- a new tuple -/
theorem Pst.tup (r : Rl K ι μ H) {p : Addr} {xs : List S} {vs : List V} (hp : H p = none) (h : Reps K ι H xs vs) : Pst K ι H μ (.s (.tup xs)) ι (upd H p (.tup vs)) (.ref p) :=
  ⟨ext_fresh hp, r.fresh hp, ⟨p, vs, rfl, upd_same, h.ext (ext_fresh hp) r⟩, fun _ h => nomatch h⟩
/-- a new object -/
theorem Pst.new (r : Rl K ι μ H) {p : Addr} {o : Ob} {u : HO} (hp : H p = none) (h : RepO K ι (upd H p u) p o) : Pst K ι H μ (.new o) ι (upd H p u) (.ref p) :=
  ⟨ext_fresh hp, r.fresh hp, ⟨p, rfl, r.notin hp, h⟩, fun _ _ a h => by cases h; exact hp⟩
theorem Pst.lst (r : Rl K ι μ H) {p : Addr} {xs : List S} {vs : List V} (hp : H p = none) (h : Reps K ι H xs vs) : Pst K ι H μ (.new (.lst xs)) ι (upd H p (.lst vs)) (.ref p) :=
  .new r hp ⟨vs, upd_same, h.ext (ext_fresh hp) r⟩
theorem Rl.app (r : Rl K ι μ H) {a : Addr} {o : Ob} (ha : a ∉ ι) (h : RepO K ι H a o) : Rl K (ι ++ [a]) (μ ++ [o]) H := by
  have mono : ∀ {n : Nat} {b : Addr}, ι[n]? = some b → (ι ++ [a])[n]? = some b := fun {n b} e => by
    obtain ⟨hn, _⟩ := List.getElem?_eq_some_iff.mp e
    rw [List.getElem?_append_left hn]; exact e
  refine ⟨by simp [r.len], ?_, fun n ob e => ?_⟩
  · rw [List.nodup_append]
    exact ⟨r.nd, by simp, fun x hx y hy z => by simp at hy; subst hy; exact ha (z ▸ hx)⟩
  · rw [List.getElem?_append] at e
    split at e
    · obtain ⟨b, h1, h2⟩ := r.at_ n ob e
      exact ⟨b, mono h1, RepO.more mono h2⟩
    · rename_i hn
      have : n = μ.length := by
        obtain ⟨hl, _⟩ := List.getElem?_eq_some_iff.mp e
        simp at hl; omega
      subst this
      simp at e
      subst e
      exact ⟨a, by rw [← r.len]; simp, RepO.more mono h⟩
/-- what an expression gave is laid -/
theorem Pst.lay (p : Pst K ι H μ' d ι' H' v) : ∃ ι2, Ext ι ι2 H H' ∧ Rl K ι2 (toS d μ').2 H' ∧ Rep K ι2 H' (toS d μ').1 v := by
  cases d with
  | s x => exact ⟨ι', p.ext, p.rl, p.rep⟩
  | new o =>
    obtain ⟨a, rfl, ha, ro⟩ := p.rep
    refine ⟨ι' ++ [a], ?_, p.rl.app ha ro, ⟨a, ?_, rfl⟩⟩
    · obtain ⟨t, e⟩ := p.ext.pre
      refine ⟨⟨t ++ [a], by rw [e]; simp⟩, p.ext.keep, fun b hb hn => ?_⟩
      rcases List.mem_append.mp hb with z | z
      · exact p.ext.new b z hn
      · simp at z; subst z; exact p.fr o rfl b rfl
    · show (ι' ++ [a])[μ'.length]? = some a
      rw [← p.rl.len]; simp
end

/-! ### rules -/
theorem PE.of {X : Cx} {e : Expr} {t t' : TE} (h : PE X e t) (i : ∀ σ H Q, t' σ H Q → t σ H Q) : PE X e t' := ⟨fun pins s σ H Q I q => h.run pins s σ H Q I (i σ H Q q)⟩
theorem PS.of {X : Cx} {e : Stmt} {t t' : TS} (h : PS X e t) (i : ∀ D σ H, t' D σ H → t D σ H) : PS X e t' := ⟨fun pins s σ H Q I q => h.run pins s σ H Q I (i Q σ H q)⟩
theorem PSs.of {X : Cx} {e : List Stmt} {t t' : TS} (h : PSs X e t) (i : ∀ D σ H, t' D σ H → t D σ H) : PSs X e t' := ⟨fun pins s σ H Q I q => h.run pins s σ H Q I (i Q σ H q)⟩
theorem OpR.of {X : Cx} {f : Value → Value → Sem Value} {r : R2} (h : OpR X f r) {pins : List (Addr × Obj)} {s : Shared} {σ : L2.St} {H : Hp} {x y : V} {v u : Value} {Q : VK} (I : Inv X pins σ H s) (rx : RelV x v) (ry : RelV y u) (q : r x y H Q) :
    wpAny (model X.prog X.w) X.A (f v u) (EP X pins σ Q) X.xe s := h pins s σ H x y v u Q I rx ry q

def rD2 (K : PySem.W.Frag) (m : D → D → Sto → Option (D × Sto)) : R2 := fun x y H Q => ∃ ι μ a b d μ', Rl K ι μ H ∧ RepD K ι H a x ∧ RepD K ι H b y ∧ m a b μ = some (d, μ') ∧ ∀ ι' H' v, Pst K ι H μ' d ι' H' v → Q v H'
def rD1 (K : PySem.W.Frag) (m : D → Sto → Option (D × Sto)) : V → Hp → VK → Prop := fun x H Q => ∃ ι μ a d μ', Rl K ι μ H ∧ RepD K ι H a x ∧ m a μ = some (d, μ') ∧ ∀ ι' H' v, Pst K ι H μ' d ι' H' v → Q v H'
def rDn (K : PySem.W.Frag) (m : List D → Sto → Option (D × Sto)) : List V → Hp → VK → Prop := fun xs H Q => ∃ ι μ ds d μ', Rl K ι μ H ∧ RepDs K ι H ds xs ∧ m ds μ = some (d, μ') ∧ ∀ ι' H' v, Pst K ι H μ' d ι' H' v → Q v H'
section
variable {K : PySem.W.Frag} {σ : L2.St} {H : Hp} {Q : VK} {ma mb mc : Sig → Sto → Option (D × Sto)}
theorem obind {α β : Type} {o : Option α} {f : α → Option β} {b : β} (h : o.bind f = some b) : ∃ a, o = some a ∧ f a = some b := by
  cases o with
  | none => cases h
  | some a => exact ⟨a, rfl, h⟩
theorem omap {α β : Type} {o : Option α} {f : α → β} {b : β} (h : o.map f = some b) : ∃ a, o = some a ∧ f a = b := by
  cases o with
  | none => cases h
  | some a => exact ⟨a, rfl, by simpa using h⟩
theorem tD_1 {m : D → Sto → Option (D × Sto)} (h : tD K (fun g μ => (ma g μ).bind fun p => m p.1 p.2) σ H Q) : tUn (rD1 K m) (tD K ma) σ H Q := by
  obtain ⟨ι, g, μ, d, μ', st, hm, q⟩ := h
  obtain ⟨⟨a, μ1⟩, h1, h2⟩ := obind hm
  refine ⟨ι, g, μ, a, μ1, st, h1, fun ι1 H1 x p1 => ?_⟩
  exact ⟨ι1, μ1, a, d, μ', p1.rl, p1.rep, h2, fun ι3 H3 v p3 => q ι3 H3 v (p3.trans p1.ext p1.rl)⟩
theorem tD_2 {m : D → D → Sto → Option (D × Sto)} (h : tD K (fun g μ => (ma g μ).bind fun p => (mb g p.2).bind fun q => m p.1 q.1 q.2) σ H Q) : tOp (rD2 K m) (tD K ma) (tD K mb) σ H Q := by
  obtain ⟨ι, g, μ, d, μ', st, hm, q⟩ := h
  obtain ⟨⟨a, μ1⟩, h1, hm⟩ := obind hm
  obtain ⟨⟨b, μ2⟩, h2, h3⟩ := obind hm
  refine ⟨ι, g, μ, a, μ1, st, h1, fun ι1 H1 x p1 => ?_⟩
  refine ⟨ι1, g, μ1, b, μ2, st.ext p1.ext p1.rl, h2, fun ι2 H2 y p2 => ?_⟩
  exact ⟨ι2, μ2, a, b, d, μ', p2.rl, p1.rep.ext p2.ext p1.rl, p2.rep, h3, fun ι3 H3 v p3 => q ι3 H3 v ((p3.trans p2.ext p2.rl).trans p1.ext p1.rl)⟩
end
/-! ### what is told of data by the heap -/
section
variable {K : PySem.W.Frag} {ι : List Addr} {μ : Sto} {H : Hp} {d : D} {x : V}
theorem rep_int {i : Int} (h : RepD K ι H (.s (.int i)) x) : x = .int i := h
theorem rep_bl {i : Bool} (h : RepD K ι H (.s (.bl i)) x) : x = .bl i := h
theorem rep_str {i : Str} (h : RepD K ι H (.s (.str i)) x) : x = .str i := h
theorem rep_non (h : RepD K ι H (.s .non) x) : x = .non := h
theorem rep_tup {xs : List S} (h : RepD K ι H (.s (.tup xs)) x) : ∃ a vs, x = .ref a ∧ H a = some (.tup vs) ∧ Reps K ι H xs vs := h
theorem intOf_ {i : Int} (h : intOf d = some i) : d = .s (.int i) := by
  unfold intOf at h
  split at h
  · cases h; rfl
  · cases h
theorem blOf_ {i : Bool} (h : blOf d = some i) : d = .s (.bl i) := by
  unfold blOf at h
  split at h
  · cases h; rfl
  · cases h
theorem lst_of {xs : List S} (r : Rl K ι μ H) (h : lstOf μ d = some xs) (p : RepD K ι H d x) : ∃ a vs, x = .ref a ∧ H a = some (.lst vs) ∧ Reps K ι H xs vs := by
  unfold lstOf at h
  split at h
  · cases h
    obtain ⟨a, rfl, _, vs, h1, h2⟩ := p
    exact ⟨a, vs, rfl, h1, h2⟩
  · rename_i n
    split at h
    · rename_i ys e
      cases h
      obtain ⟨a, h1, rfl⟩ := p
      obtain ⟨b, h2, vs, h3, h4⟩ := r.at_ n _ e
      rw [h1] at h2; cases h2
      exact ⟨a, vs, rfl, h3, h4⟩
    · cases h
  · cases h
theorem seqL_of {xs : List S} (r : Rl K ι μ H) (h : seqL μ d = some xs) (p : RepD K ι H d x) : ∃ a vs, x = .ref a ∧ SqL K H a vs ∧ Reps K ι H xs vs := by
  unfold seqL at h
  split at h
  · cases h
    obtain ⟨a, rfl, _, vs, h1, h2⟩ := p
    exact ⟨a, vs, rfl, .of h1, h2⟩
  · rename_i n
    split at h
    · rename_i ys e
      cases h
      obtain ⟨a, h1, rfl⟩ := p
      obtain ⟨b, h2, vs, h3, h4⟩ := r.at_ n _ e
      rw [h1] at h2; cases h2
      exact ⟨a, vs, rfl, .of h3, h4⟩
    · cases h
  · cases h
    obtain ⟨a, vs, rfl, h1, h2⟩ := p
    exact ⟨a, vs, rfl, h1.sql, h2⟩
  · cases h
theorem tupOf_ {xs : List S} (h : tupOf d = some xs) : d = .s (.tup xs) := by
  unfold tupOf at h
  split at h
  · cases h; rfl
  · cases h
theorem seq_of {xs : List S} (r : Rl K ι μ H) (h : seqOf μ d = some xs) (p : RepD K ι H d x) : ∃ a vs, x = .ref a ∧ (SqL K H a vs ∨ SqT K H a vs) ∧ Reps K ι H xs vs := by
  unfold seqOf at h
  split at h
  · cases h
    obtain ⟨a, vs, rfl, h1, h2⟩ := p
    exact ⟨a, vs, rfl, .inr (.of h1), h2⟩
  · obtain ⟨a, vs, h1, h2, h3⟩ := seqL_of r h p
    exact ⟨a, vs, h1, .inl h2, h3⟩
theorem ints_of : ∀ {xs : List S} {ns : List Int}, asInts xs = some ns → xs = ns.map S.int
  | [], ns, h => by simp [asInts] at h; subst h; rfl
  | x :: xs, ns, h => by
    cases x <;> simp only [asInts] at h <;> try cases h
    obtain ⟨ms, h1, rfl⟩ := omap h
    rw [ints_of h1]; rfl
theorem bls_of : ∀ {xs : List S} {ns : List Bool}, asBls xs = some ns → xs = ns.map S.bl
  | [], ns, h => by simp [asBls] at h; subst h; rfl
  | x :: xs, ns, h => by
    cases x <;> simp only [asBls] at h <;> try cases h
    obtain ⟨ms, h1, rfl⟩ := omap h
    rw [bls_of h1]; rfl
theorem reps_ints : ∀ {ns : List Int} {vs : List V}, Reps K ι H (ns.map S.int) vs ↔ vs = ns.map V.int
  | [], vs => by simp [Reps]
  | n :: ns, vs => by
    simp only [List.map_cons, Reps, Rep]
    constructor
    · rintro ⟨v, r, rfl, rfl, h⟩
      rw [reps_ints.mp h]
    · rintro rfl
      exact ⟨_, _, rfl, rfl, reps_ints.mpr rfl⟩
theorem reps_bls : ∀ {ns : List Bool} {vs : List V}, Reps K ι H (ns.map S.bl) vs ↔ vs = ns.map V.bl
  | [], vs => by simp [Reps]
  | n :: ns, vs => by
    simp only [List.map_cons, Reps, Rep]
    constructor
    · rintro ⟨v, r, rfl, rfl, h⟩
      rw [reps_bls.mp h]
    · rintro rfl
      exact ⟨_, _, rfl, rfl, reps_bls.mpr rfl⟩
mutual
theorem py_of : ∀ {s : S} {e : PyData} {v : V}, s.py = some e → Rep K ι H s v → Dp K H v e
  | .non, _, _, h, p => by simp only [S.py, Option.some.injEq] at h; simp only [Rep] at p; subst h p; exact .non
  | .bl b, _, _, h, p => by simp only [S.py, Option.some.injEq] at h; simp only [Rep] at p; subst h p; exact .bl b
  | .int b, _, _, h, p => by simp only [S.py, Option.some.injEq] at h; simp only [Rep] at p; subst h p; exact .int b
  | .str b, _, _, h, p => by simp only [S.py, Option.some.injEq] at h; simp only [Rep] at p; subst h p; exact .str b
  | .tup xs, _, _, h, p => by
    simp only [S.py] at h
    obtain ⟨ds, h1, rfl⟩ := omap h
    simp only [Rep] at p
    obtain ⟨a, vs, rfl, h2, h3⟩ := p
    exact .tup (.of h2) (pys_of h1 h3)
  | .loc _, _, _, h, _ => by simp [S.py] at h
  | .rol _, _, _, h, _ => by simp [S.py] at h
  | .ktu _, _, _, h, _ => by simp [S.py] at h
theorem pys_of : ∀ {ss : List S} {es : List PyData} {vs : List V}, S.pys ss = some es → Reps K ι H ss vs → DpAll K H vs es
  | [], _, _, h, p => by simp only [S.pys, Option.some.injEq] at h; simp only [Reps] at p; subst h p; exact .nil
  | x :: xs, _, _, h, p => by
    simp only [S.pys] at h
    obtain ⟨d, h1, h⟩ := obind h
    obtain ⟨ds, h2, rfl⟩ := omap h
    simp only [Reps] at p
    obtain ⟨v, r, rfl, h3, h4⟩ := p
    exact .cons (py_of h1 h3) (pys_of h2 h4)
end
theorem pyD_of {e : PyData} (r : Rl K ι μ H) (h : pyD μ d = some e) (p : RepD K ι H d x) : Dp K H x e := by
  unfold pyD at h
  split at h
  · obtain ⟨ds, h1, rfl⟩ := omap h
    obtain ⟨a, rfl, _, vs, h2, h3⟩ := p
    exact .lst (.of h2) (pys_of h1 h3)
  · rename_i n
    split at h
    · rename_i ys q
      obtain ⟨ds, h1, rfl⟩ := omap h
      obtain ⟨a, h2, rfl⟩ := p
      obtain ⟨b, h3, vs, h4, h5⟩ := r.at_ n _ q
      rw [h2] at h3; cases h3
      exact .lst (.of h4) (pys_of h1 h5)
    · cases h
  · exact py_of h p
  · cases h
end
/-! ### operators -/
def Bop.py : Bop → Operator
  | .add => .Add | .sub => .Sub | .mul => .Mult | .fdiv => .FloorDiv | .mod => .Mod | .pow => .Pow | .shl => .LShift | .shr => .RShift | .band => .BitAnd | .bor => .BitOr | .bxor => .BitXor
section
variable {X : Cx}
theorem small64_ {i : Int} (h : small64 i = true) : -(2 ^ 64) < i ∧ i < 2 ^ 64 := by simpa [small64] using h
theorem opr_iop (op : Bop) {pins : List (Addr × Obj)} {s : Shared} {σ : L2.St} {H : Hp} {v u : Value} {Q : VK} {i j k : Int} (I : Inv X pins σ H s) (rx : RelV (.int i) v) (ry : RelV (.int j) u) (h : iop op i j = some k) (q : Q (.int k) H) :
    wpAny (model X.prog X.w) X.A (binaryOp op.py v u) (EP X pins σ Q) X.xe s := by
  cases op <;> simp only [iop] at h
  · cases h; exact OpR.of op_add I rx ry ⟨i, j, rfl, rfl, q⟩
  · cases h; exact OpR.of op_sub I rx ry ⟨i, j, rfl, rfl, q⟩
  · split at h
    · cases h
      rename_i hc
      simp only [Bool.or_eq_true, decide_eq_true_eq] at hc
      rcases hc with (hc | hc) | hc
      · exact OpR.of op_mul I rx ry ⟨i, j, rfl, rfl, .inl (small64_ hc), q⟩
      · exact OpR.of op_mul I rx ry ⟨i, j, rfl, rfl, .inr (small64_ hc), q⟩
      · exact OpR.of op_mulW I rx ry ⟨i, j, rfl, rfl, hc, q⟩
    · cases h
  · split at h
    · rename_i h0
      split at h
      · rename_i h1
        cases h
        rcases h1 with h1 | h1
        · exact OpR.of op_fdiv I rx ry ⟨i, j, rfl, rfl, ⟨h0, h1⟩, q⟩
        · exact OpR.of op_fdivW I rx ry ⟨i, j, rfl, rfl, ⟨h0, h1⟩, q⟩
      · cases h
    · split at h
      · rename_i h1
        cases h
        exact OpR.of op_fdivN I rx ry ⟨i, j, rfl, rfl, h1, q⟩
      · cases h
  · split at h
    · rename_i h1
      cases h
      exact OpR.of op_mod I rx ry ⟨i, j, rfl, rfl, h1, q⟩
    · split at h
      · rename_i h1
        cases h
        exact OpR.of op_modN I rx ry ⟨i, j, rfl, rfl, h1, q⟩
      · cases h
  · split at h
    · rename_i h1
      cases h
      exact OpR.of op_pow I rx ry ⟨i, j, rfl, rfl, h1, q⟩
    · cases h
  · split at h
    · rename_i h1
      cases h
      exact OpR.of op_shl I rx ry ⟨i, j, rfl, rfl, h1, q⟩
    · cases h
  · split at h
    · rename_i h1
      cases h
      exact OpR.of op_shr I rx ry ⟨i, j, rfl, rfl, h1, q⟩
    · cases h
  · cases h; exact OpR.of op_and I rx ry ⟨i, j, rfl, rfl, q⟩
  · cases h; exact OpR.of op_or I rx ry ⟨i, j, rfl, rfl, q⟩
  · cases h; exact OpR.of op_xor I rx ry ⟨i, j, rfl, rfl, q⟩
theorem Reps.nil_iff {K : PySem.W.Frag} {ι : List Addr} {H : Hp} {xs : List S} {vs : List V} (h : Reps K ι H xs vs) : vs = [] ↔ xs = [] := by
  have := h.length
  rw [← List.length_eq_zero_iff, ← List.length_eq_zero_iff, this]
theorem opr_bop (op : Bop) : OpR X (binaryOp op.py) (rD2 X.K fun a b μ => (bop op a b μ).map fun d => (d, μ)) := by
  intro pins s σ H x y v u Q I rx ry h
  obtain ⟨ι, μ, a, b, d, μ', rl, ra, rb, hm, q⟩ := h
  obtain ⟨d', h0, e⟩ := omap hm
  clear hm
  obtain ⟨rfl, rfl⟩ := Prod.mk.inj e
  have hm := h0
  clear h0
  unfold bop at hm
  split at hm
  · obtain ⟨k, h1, rfl⟩ := omap hm
    obtain rfl := rep_int ra
    obtain rfl := rep_int rb
    exact opr_iop op I rx ry h1 (q ι H _ (.here rl rfl))
  · split at hm
    · rename_i hc
      obtain ⟨rfl, hz⟩ := hc
      cases hm
      obtain ⟨p1, vs, rfl, t1, r1⟩ := rep_tup ra
      obtain ⟨p2, ws, rfl, t2, r2⟩ := rep_tup rb
      refine OpR.of op_catA I rx ry ⟨p1, p2, vs, ws, rfl, rfl, .of t1, .of t2, by rw [← r1.length, ← r2.length]; exact hz, fun e => ?_, fun _ e => ?_, fun _ _ p hp => ?_⟩
      · have e' := r1.nil_iff.mp e
        subst e'
        exact q ι H _ (.here rl ⟨p2, ws, rfl, t2, r2⟩)
      · have e' := r2.nil_iff.mp e
        subst e'
        rw [List.append_nil] at q
        exact q ι H _ (.here rl ⟨p1, vs, rfl, t1, r1⟩)
      · exact q _ _ _ (.tup rl hp (r1.append r2))
    · cases hm
  · split at hm
    · rename_i hc
      obtain ⟨rfl, hz⟩ := hc
      cases hm
      obtain rfl := rep_str ra
      obtain rfl := rep_str rb
      exact OpR.of op_add_str I rx ry ⟨_, _, rfl, rfl, hz, q ι H _ (.here rl rfl)⟩
    · cases hm
  · by_cases hop : op = .mul
    · rw [if_pos hop] at hm
      subst hop
      obtain ⟨xs, h1, hm⟩ := obind hm
      split at hm
      · rename_i hc
        cases hm
        obtain ⟨p1, vs, rfl, t1, r1⟩ := lst_of rl h1 ra
        obtain rfl := rep_int rb
        exact OpR.of op_rep I rx ry ⟨p1, _, vs, rfl, rfl, t1, hc.2.1, hc.1, by rw [← r1.length]; exact hc.2.2, fun p hp => q _ _ _ (.lst rl hp (r1.rep _))⟩
      · cases hm
    · rw [if_neg hop] at hm; cases hm
  · by_cases hop : op = .add
    · rw [if_pos hop] at hm
      subst hop
      obtain ⟨xs, h1, hm⟩ := obind hm
      obtain ⟨ys, h2, hm⟩ := obind hm
      split at hm
      · rename_i hc
        cases hm
        obtain ⟨p1, vs, rfl, t1, r1⟩ := lst_of rl h1 ra
        obtain ⟨p2, ws, rfl, t2, r2⟩ := lst_of rl h2 rb
        exact OpR.of op_cat I rx ry ⟨p1, p2, vs, ws, rfl, rfl, t1, t2, by rw [← r1.length, ← r2.length]; exact hc, fun p hp => q _ _ _ (.lst rl hp (r1.append r2))⟩
      · cases hm
    · rw [if_neg hop] at hm; cases hm
end
end Dv
end
section
set_option Elab.async false
set_option linter.all false
/-! Dv4: comparisons, truth, places, slices, displays. -/
namespace Dv
open PySem PySem.Spec PyProof.Rows L2
section
variable {K : PySem.W.Frag} {ι : List Addr} {μ : Sto} {H : Hp} {d : D} {x : V}
theorem isNon_of (p : RepD K ι H d x) : decide (x = .non) = isNon d := by
  cases d with
  | new o => obtain ⟨a, rfl, _⟩ := p; simp [isNon]
  | s y =>
    cases y with
    | non => cases p; simp [isNon]
    | bl b => cases p; simp [isNon]
    | int b => cases p; simp [isNon]
    | str b => cases p; simp [isNon]
    | tup xs => obtain ⟨a, vs, rfl, _⟩ := p; simp [isNon]
    | rol xs => obtain ⟨a, vs, rfl, _⟩ := p; simp [isNon]
    | ktu xs => obtain ⟨a, vs, rfl, _⟩ := p; simp [isNon]
    | loc n => obtain ⟨a, _, rfl⟩ := p; simp [isNon]
theorem flat_of {y : S} (h : flat y = true) {v : V} (p : Rep K ι H y v) : flatV v = true := by
  cases y <;> simp only [flat, Bool.false_eq_true] at h <;> (cases p; rfl)
theorem feq_of {y z : S} (h : flat y = true) (h' : flat z = true) {v w : V} (p : Rep K ι H y v) (q : Rep K ι H z w) : eqV v w = feq y z := by
  cases y <;> simp only [flat, Bool.false_eq_true] at h <;> cases z <;> simp only [flat, Bool.false_eq_true] at h' <;> (cases p; cases q; rfl)
theorem flats_of : ∀ {ys : List S} {vs : List V}, ys.all flat = true → Reps K ι H ys vs → vs.all flatV = true
  | [], vs, _, p => by simp only [Reps] at p; subst p; rfl
  | y :: ys, vs, h, p => by
    simp only [Reps] at p
    obtain ⟨v, r, rfl, h1, h2⟩ := p
    rw [List.all_cons, Bool.and_eq_true] at h ⊢
    exact ⟨flat_of h.1 h1, flats_of h.2 h2⟩
theorem inV_of {z : S} (hz : flat z = true) {w : V} (q : Rep K ι H z w) : ∀ {ys : List S} {vs : List V}, ys.all flat = true → Reps K ι H ys vs → inV w vs = ys.any fun y => feq y z
  | [], vs, _, p => by simp only [Reps] at p; subst p; rfl
  | y :: ys, vs, h, p => by
    simp only [Reps] at p
    obtain ⟨v, r, rfl, h1, h2⟩ := p
    rw [List.all_cons, Bool.and_eq_true] at h
    have ih := inV_of hz q h.2 h2
    unfold inV at ih ⊢
    rw [List.any_cons, List.any_cons, ih, feq_of h.1 hz h1 q]
/-! ### dicts -/
theorem look_of {κ : Type} [DecidableEq κ] (k : κ) : ∀ {kvs : List (κ × S)} {ws : List (κ × V)}, RepKV K ι H kvs ws →
    (look kvs k = none ∧ valV ws k = none) ∨ ∃ x v, look kvs k = some x ∧ valV ws k = some v ∧ Rep K ι H x v
  | [], ws, h => by
    obtain ⟨h1, h2⟩ := h
    simp at h1; subst h1
    exact .inl ⟨rfl, rfl⟩
  | p :: r, [], h => by obtain ⟨h1, _⟩ := h; simp at h1
  | p :: r, q :: ws, h => by
    obtain ⟨h1, h2⟩ := h
    simp only [List.map_cons, List.cons.injEq] at h1
    simp only [List.map_cons, Reps] at h2
    obtain ⟨v, t, h2, h3, h4⟩ := h2
    cases h2
    by_cases e : p.1 = k
    · refine .inr ⟨p.2, q.2, ?_, ?_, h3⟩
      · unfold look; rw [List.find?_cons_of_pos (by simpa using e)]; rfl
      · unfold valV; rw [List.find?_cons_of_pos (by simpa [h1.1] using e)]; rfl
    · have e1 : look (p :: r) k = look r k := by unfold look; rw [List.find?_cons_of_neg (by simpa using e)]
      have e2 : valV (q :: ws) k = valV ws k := by unfold valV; rw [List.find?_cons_of_neg (by simpa [h1.1] using e)]
      rw [e1, e2]
      exact look_of k ⟨h1.2, h4⟩
theorem keyOf_ {y : S} {k : Key} (h : keyOf y = some k) {v : V} (p : Rep K ι H y v) : v = kV k := by
  cases y <;> simp only [keyOf] at h <;> cases h <;> (cases p; rfl)
theorem keysOf_ : ∀ {ys : List S} {ks : List Key} {vs : List V}, keysOf ys = some ks → Reps K ι H ys vs → vs = ks.map kV
  | [], ks, vs, h, p => by simp [keysOf] at h; subst h; simp only [Reps] at p; subst p; rfl
  | y :: ys, ks, vs, h, p => by
    simp only [keysOf] at h
    obtain ⟨k, h1, h⟩ := obind h
    obtain ⟨r, h2, rfl⟩ := omap h
    simp only [Reps] at p
    obtain ⟨v, t, rfl, h3, h4⟩ := p
    rw [keyOf_ h1 h3, keysOf_ h2 h4]; rfl
theorem dict_at {o : Ob} (r : Rl K ι μ H) (h : dictOf μ d = some o) (p : RepD K ι H d x) : ∃ a, x = .ref a ∧ RepO K ι H a o := by
  unfold dictOf at h
  split at h
  · cases h
    obtain ⟨a, rfl, _, ro⟩ := p
    exact ⟨a, rfl, ro⟩
  · obtain ⟨a, h1, rfl⟩ := p
    obtain ⟨b, h2, ro⟩ := r.at_ _ _ h
    rw [h1] at h2; cases h2
    exact ⟨a, rfl, ro⟩
  · cases h
end
section
variable {K : PySem.W.Frag} {ι : List Addr} {μ : Sto} {H : Hp} {d : D} {x : V}
theorem dget_of {o : Ob} {k : D} {r : Option S} {a : Addr} {y : V} (h : dlook o k = some r) (ra : RepO K ι H a o) (ry : RepD K ι H k y) :
    ∃ ov, DGet H a y ov ∧ ((r = none ∧ ov = none) ∨ ∃ x v, r = some x ∧ ov = some v ∧ Rep K ι H x v) := by
  unfold dlook at h
  split at h
  · rename_i kvs z
    obtain ⟨kk, h1, rfl⟩ := omap h
    obtain ⟨ws, h2, h3⟩ := ra
    have e := keyOf_ h1 ry
    subst e
    exact ⟨_, .k h2, look_of kk h3⟩
  · rename_i kvs zs
    obtain ⟨ks, h1, rfl⟩ := omap h
    obtain ⟨ws, h2, h3⟩ := ra
    obtain ⟨b, vs, rfl, h4, h5⟩ := rep_tup ry
    have e := keysOf_ h1 h5
    subst e
    exact ⟨_, .t h2 h4, look_of ks h3⟩
  · cases h
end
def Cop.py : Cop → CmpOp
  | .eq => .Eq | .ne => .NotEq | .lt => .Lt | .le => .LtE | .gt => .Gt | .ge => .GtE | .isN => .Is | .notN => .IsNot | .mem => .In | .nmem => .NotIn
def rC2 (K : PySem.W.Frag) (m : D → D → Sto → Option Bool) : R2 := fun x y H Q => ∃ ι μ a b t, Rl K ι μ H ∧ RepD K ι H a x ∧ RepD K ι H b y ∧ m a b μ = some t ∧ Q (.bl t) H
section
variable {X : Cx} {pins : List (Addr × Obj)} {s : Shared} {σ : L2.St} {ι : List Addr} {μ : Sto} {H : Hp} {Q : VK}
theorem opr_eq (hu : X.A.units + 64 < cLine) : OpR X (compareOp .Eq) (rC2 X.K fun a b μ => pyEq μ a b) := by
  intro pins s σ H x y v u Q I rx ry h
  obtain ⟨ι, μ, a, b, t, rl, ra, rb, hm, q⟩ := h
  unfold pyEq at hm
  obtain ⟨da, h1, hm⟩ := obind hm
  obtain ⟨db, h2, hm⟩ := obind hm
  split at hm
  · rename_i hs
    cases hm
    exact OpR.of (op_eqD hu) I rx ry ⟨da, db, pyD_of rl h1 ra, pyD_of rl h2 rb, hs.1, hs.2, q⟩
  · cases hm
theorem opr_ne (hu : X.A.units + 64 < cLine) : OpR X (compareOp .NotEq) (rC2 X.K fun a b μ => (pyEq μ a b).map (!·)) := by
  intro pins s σ H x y v u Q I rx ry h
  obtain ⟨ι, μ, a, b, t, rl, ra, rb, hm, q⟩ := h
  obtain ⟨t', hm1, rfl⟩ := omap hm
  clear hm
  have hm := hm1
  clear hm1
  unfold pyEq at hm
  obtain ⟨da, h1, hm⟩ := obind hm
  obtain ⟨db, h2, hm⟩ := obind hm
  split at hm
  · rename_i hs
    cases hm
    exact OpR.of (op_neD hu) I rx ry ⟨da, db, pyD_of rl h1 ra, pyD_of rl h2 rb, hs.1, hs.2, q⟩
  · cases hm
theorem opr_mem (hu : X.A.units + 1 < cLine) (neg : Bool) : OpR X (compareOp (if neg then .NotIn else .In)) (rC2 X.K fun a b μ => (memB a b μ).map fun t => if neg then !t else t) := by
  intro pins s σ H x y v u Q I rx ry h
  obtain ⟨ι, μ, a, b, t, rl, ra, rb, hm, q⟩ := h
  obtain ⟨t', hm1, rfl⟩ := omap hm
  clear hm
  have hm := hm1
  clear hm1
  unfold memB at hm
  have dict : ∀ {o : Ob}, dictOf μ b = some o → (dlook o a).map (·.isSome) = some t' → wpAny (model X.prog X.w) X.A (compareOp (if neg then .NotIn else .In) v u) (EP X pins σ Q) X.xe s := fun {o} e h => by
    obtain ⟨r, h1, rfl⟩ := omap h
    obtain ⟨p, rfl, ro⟩ := dict_at rl e rb
    obtain ⟨ov, g, c⟩ := dget_of h1 ro ra
    have eo : ov.isSome = r.isSome := by
      rcases c with ⟨rfl, rfl⟩ | ⟨_, _, rfl, rfl, _⟩ <;> rfl
    cases ry
    cases neg with
    | false => exact d_in hu I g rx fun s' I' => ⟨.bl _, H, I', rfl, by rw [eo]; exact q⟩
    | true => exact d_notIn hu I g rx fun s' I' => ⟨.bl _, H, I', rfl, by rw [eo]; exact q⟩
  split at hm
  · rename_i e; exact dict e hm
  · rename_i e; exact dict e hm
  · have fin : ∀ {z : S} {xs : List S} {p : Addr} {vs : List V}, a = .s z → y = .ref p → (SqL X.K H p vs ∨ SqT X.K H p vs) → Reps X.K ι H xs vs → (if flat z = true ∧ xs.all flat = true then some (xs.any fun y => feq y z) else none) = some t' →
        wpAny (model X.prog X.w) X.A (compareOp (if neg then .NotIn else .In) v u) (EP X pins σ Q) X.xe s := fun {z xs p vs} e1 e2 sq rs h => by
      subst e1 e2
      split at h
      · rename_i hf
        cases h
        have ei := inV_of hf.1 ra hf.2 rs
        cases neg with
        | false => exact OpR.of op_in_seq I rx ry ⟨p, vs, rfl, sq, flat_of hf.1 ra, flats_of hf.2 rs, by rw [if_neg (by decide), ei]; exact q⟩
        | true => exact OpR.of op_notIn_seq I rx ry ⟨p, vs, rfl, sq, flat_of hf.1 ra, flats_of hf.2 rs, by rw [if_pos rfl, ei]; exact q⟩
      · cases h
    split at hm
    · rename_i z xs e
      split at e
      · rename_i ys e'
        cases e
        obtain ⟨p, vs, h1, h2, h3⟩ := seqL_of rl e' rb
        exact fin rfl h1 (.inl h2) h3 hm
      · have := tupOf_ e
        subst this
        obtain ⟨p, vs, h1, h2, h3⟩ := rep_tup rb
        exact fin rfl h1 (.inr (.of h2)) h3 hm
    · cases hm
theorem opr_cop (hu : X.A.units + 64 < cLine) (op : Cop) : OpR X (compareOp op.py) (rC2 X.K (cop op)) := by
  cases op with
  | eq => exact opr_eq hu
  | ne => exact opr_ne hu
  | mem =>
    intro pins s σ H x y v u Q I rx ry h
    obtain ⟨ι, μ, a, b, t, rl, ra, rb, hm, q⟩ := h
    exact opr_mem (by omega) false pins s σ H x y v u Q I rx ry ⟨ι, μ, a, b, t, rl, ra, rb, by simpa [cop] using hm, q⟩
  | nmem =>
    intro pins s σ H x y v u Q I rx ry h
    obtain ⟨ι, μ, a, b, t, rl, ra, rb, hm, q⟩ := h
    exact opr_mem (by omega) true pins s σ H x y v u Q I rx ry ⟨ι, μ, a, b, t, rl, ra, rb, by simpa [cop] using hm, q⟩
  | isN =>
    intro pins s σ H x y v u Q I rx ry h
    obtain ⟨ι, μ, a, b, t, rl, ra, rb, hm, q⟩ := h
    simp only [cop] at hm
    split at hm
    · rename_i e
      cases hm
      have := isNon_of rb
      rw [e] at this
      exact OpR.of op_isN I rx ry ⟨by simpa using this, by rw [isNon_of ra]; exact q⟩
    · cases hm
  | notN =>
    intro pins s σ H x y v u Q I rx ry h
    obtain ⟨ι, μ, a, b, t, rl, ra, rb, hm, q⟩ := h
    simp only [cop] at hm
    split at hm
    · rename_i e
      cases hm
      have := isNon_of rb
      rw [e] at this
      exact OpR.of op_notN I rx ry ⟨by simpa using this, by rw [isNon_of ra]; exact q⟩
    · cases hm
  | lt =>
    intro pins s σ H x y v u Q I rx ry h
    obtain ⟨ι, μ, a, b, t, rl, ra, rb, hm, q⟩ := h
    simp only [cop] at hm
    split at hm
    · cases hm
      obtain rfl := rep_int ra
      obtain rfl := rep_int rb
      exact OpR.of op_lt I rx ry ⟨_, _, rfl, rfl, q⟩
    · obtain ⟨ns, h1, hm⟩ := obind hm
      obtain ⟨ms, h2, rfl⟩ := omap hm
      obtain ⟨p, vs, rfl, h3, h4⟩ := rep_tup ra
      obtain ⟨p', ws, rfl, h5, h6⟩ := rep_tup rb
      rw [ints_of h1, reps_ints] at h4
      rw [ints_of h2, reps_ints] at h6
      subst h4 h6
      exact OpR.of (op_ltT (by omega)) I rx ry ⟨p, p', ns, ms, rfl, rfl, .of h3, .of h5, q⟩
    · cases hm
  | le =>
    intro pins s σ H x y v u Q I rx ry h
    obtain ⟨ι, μ, a, b, t, rl, ra, rb, hm, q⟩ := h
    simp only [cop] at hm
    split at hm
    · cases hm
      obtain rfl := rep_int ra
      obtain rfl := rep_int rb
      exact OpR.of op_le I rx ry ⟨_, _, rfl, rfl, q⟩
    · cases hm
  | gt =>
    intro pins s σ H x y v u Q I rx ry h
    obtain ⟨ι, μ, a, b, t, rl, ra, rb, hm, q⟩ := h
    simp only [cop] at hm
    split at hm
    · cases hm
      obtain rfl := rep_int ra
      obtain rfl := rep_int rb
      exact OpR.of op_gt I rx ry ⟨_, _, rfl, rfl, q⟩
    · cases hm
  | ge =>
    intro pins s σ H x y v u Q I rx ry h
    obtain ⟨ι, μ, a, b, t, rl, ra, rb, hm, q⟩ := h
    simp only [cop] at hm
    split at hm
    · cases hm
      obtain rfl := rep_int ra
      obtain rfl := rep_int rb
      exact OpR.of op_ge I rx ry ⟨_, _, rfl, rfl, q⟩
    · cases hm
end
/-! ### tests -/
def tT (K : PySem.W.Frag) (m : Sig → Sto → Option (D × Sto)) : TT := fun σ H Q => ∃ ι g μ b μ', St_ K ι g μ σ H ∧ m g μ = some (.s (.bl b), μ') ∧ ∀ ι' H', Ext ι ι' H H' → Rl K ι' μ' H' → Q b H'
section
variable {K : PySem.W.Frag} {σ : L2.St} {H : Hp} {ma mb mc : Sig → Sto → Option (D × Sto)} {m : Sig → Sto → Option (D × Sto)}
theorem tT_D {Q : Bool → Hp → Prop} (h : tT K m σ H Q) : tD K m σ H fun x H' => ∃ k, x = .bl k ∧ Q k H' := by
  obtain ⟨ι, g, μ, b, μ', st, h1, q⟩ := h
  exact ⟨ι, g, μ, _, μ', st, h1, fun ι' H' v p => ⟨b, rep_bl p.rep, q ι' H' p.ext p.rl⟩⟩
/-- two parts and a test of both -/
theorem tD_c2 {Q : VK} {f : D → D → Sto → Option Bool} (h : tD K (fun g μ => (ma g μ).bind fun p => (mb g p.2).bind fun q => (f p.1 q.1 q.2).map fun d => (.s (.bl d), q.2)) σ H Q) : tOp (rC2 K f) (tD K ma) (tD K mb) σ H Q := by
  obtain ⟨ι, g, μ, d, μ', st, hm, q⟩ := h
  obtain ⟨⟨a, μ1⟩, h1, hm⟩ := obind hm
  obtain ⟨⟨b, μ2⟩, h2, h3⟩ := obind hm
  obtain ⟨t, h4, e⟩ := omap h3
  obtain ⟨rfl, rfl⟩ := Prod.mk.inj e
  refine ⟨ι, g, μ, a, μ1, st, h1, fun ι1 H1 x p1 => ?_⟩
  refine ⟨ι1, g, μ1, b, μ2, st.ext p1.ext p1.rl, h2, fun ι2 H2 y p2 => ?_⟩
  exact ⟨ι2, μ2, a, b, t, p2.rl, p1.rep.ext p2.ext p1.rl, p2.rep, h4, q ι2 H2 _ (((Pst.here p2.rl (show Rep K ι2 H2 (.bl t) (.bl t) from rfl)).trans p2.ext p2.rl).trans p1.ext p1.rl)⟩
end
end Dv
end
section
set_option Elab.async false
set_option linter.all false
/-! Dv5: truth, places, slices, displays, arguments, built-ins, methods. -/
namespace Dv
open PySem PySem.Spec PyProof.Rows L2
section
variable {K : PySem.W.Frag} {ι : List Addr} {μ : Sto} {H : Hp} {d : D} {x : V}
theorem empty_of {xs : List S} {vs : List V} (h : Reps K ι H xs vs) : (!vs.isEmpty) = !xs.isEmpty := by
  cases xs with
  | nil => simp only [Reps] at h; subst h; rfl
  | cons y ys => simp only [Reps] at h; obtain ⟨v, r, rfl, _⟩ := h; rfl
theorem kvs_len {κ : Type} {kvs : List (κ × S)} {ws : List (κ × V)} (h : RepKV K ι H kvs ws) : ws.length = kvs.length := by
  have := congrArg List.length h.1
  simpa using this
theorem tru_of {b : Bool} (r : Rl K ι μ H) (h : tru d μ = some b) (p : RepD K ι H d x) : TruV K x H b := by
  have gen : ∀ {o : Ob}, dictOf μ d = some o → (match some o with
    | some (.lst xs) => some (!xs.isEmpty)
    | some (.dK kvs) => some (!kvs.isEmpty)
    | _ => none) = some b → TruV K x H b := fun {o} e h => by
    obtain ⟨a, rfl, ro⟩ := dict_at r e p
    cases o with
    | lst xs =>
      obtain ⟨vs, h1, h2⟩ := ro
      cases h
      exact .inl ⟨vs, .of h1, (empty_of h2).symm⟩
    | dK kvs =>
      obtain ⟨ws, h1, h2⟩ := ro
      cases h
      refine .inr (.inr ⟨ws, h1, ?_⟩)
      have := kvs_len h2
      cases kvs <;> cases ws <;> simp at this ⊢
    | dT => cases h
    | ins => cases h
  unfold tru at h
  split at h
  · cases h; cases p; rfl
  · cases h; cases p; rfl
  · cases h; cases p; rfl
  · split at h
    · rename_i hl
      cases h; cases p; exact ⟨hl, rfl⟩
    · cases h
  · cases h
    obtain ⟨a, vs, rfl, h1, h2⟩ := rep_tup p
    exact .inr (.inl ⟨vs, .of h1, (empty_of h2).symm⟩)
  · cases q : dictOf μ d with
    | none => rw [q] at h; cases h
    | some o => rw [q] at h; exact gen q h
/-! ### places -/
theorem at_of {xs : List S} {vs : List V} (h : Reps K ι H xs vs) {i : Int} {y : S} (e : atI xs i = some y) : ∃ v, atI vs i = some v ∧ Rep K ι H y v := by
  unfold atI at e ⊢
  rw [← h.length]
  obtain ⟨j, h1, h2⟩ := obind e
  obtain ⟨v, h3, h4⟩ := h.get h2
  exact ⟨v, by rw [h1]; exact h3, h4⟩
end
section
variable {X : Cx} {pins : List (Addr × Obj)} {s : Shared} {σ : L2.St} {ι : List Addr} {μ : Sto} {H : Hp} {Q : VK}
theorem ix_dict (hu : X.A.units + 1 < cLine) : IxR X (fun x y H Q => ∃ a v, x = .ref a ∧ DGet H a y (some v) ∧ Q v H) := by
  intro value slice pins s σ H x y v u Q I rx ry h hs
  obtain ⟨a, z, rfl, g, q⟩ := h
  cases rx
  exact tail_any (dict_typeIs I g) PySem.F.slot_dict_getitem.lookup (d_getItem hu I g ry fun w' s3 I3 rw' => ⟨z, H, I3, rw', q⟩) hs
theorem ix_all (hu : X.A.units + 1 < cLine) : IxR X (rD2 X.K fun a i μ => (idx a i μ).map fun d => (.s d, μ)) := by
  intro value slice pins s σ H x y v u Q I rx ry h hs
  obtain ⟨ι, μ, a, b, d, μ', rl, ra, rb, hm, q⟩ := h
  obtain ⟨z, hz, e⟩ := omap hm
  clear hm
  obtain ⟨rfl, rfl⟩ := Prod.mk.inj e
  have here : ∀ {w : V}, Rep X.K ι H z w → Q w H := fun r => q ι H _ (.here rl r)
  have dict : ∀ {o : Ob}, dictOf μ a = some o → (dlook o b).join = some z → wpAny (model X.prog X.w) X.A (subscriptTail value slice v u) (EP X pins σ Q) X.xe s := fun {o} e h => by
    obtain ⟨p, rfl, ro⟩ := dict_at rl e ra
    cases hk : dlook o b with
    | none => rw [hk] at h; cases h
    | some r =>
      rw [hk] at h
      obtain ⟨ov, g, c⟩ := dget_of hk ro rb
      have h' : r = some z := by simpa using h
      rcases c with ⟨rfl, _⟩ | ⟨z', w, e1, rfl, rz⟩
      · cases h'
      · rw [h'] at e1; cases e1
        exact ix_dict hu value slice pins s σ H _ _ v u Q I rx ry ⟨p, w, rfl, g, here rz⟩ hs
  unfold idx at hz
  split at hz
  · obtain ⟨p, vs, rfl, h1, h2⟩ := rep_tup ra
    obtain rfl := rep_int rb
    obtain ⟨w, h3, h4⟩ := at_of h2 hz
    exact ix_tup value slice pins s σ H _ _ v u Q I rx ry ⟨p, vs, _, w, rfl, rfl, .of h1, h3, here h4⟩ hs
  · obtain ⟨p, vs, rfl, h1, h2⟩ := ra
    obtain rfl := rep_int rb
    obtain ⟨w, h3, h4⟩ := at_of h2 hz
    exact ix_tup value slice pins s σ H _ _ v u Q I rx ry ⟨p, vs, _, w, rfl, rfl, .inr h1, h3, here h4⟩ hs
  · split at hz
    · rename_i e; exact dict e hz
    · rename_i e; exact dict e hz
    · obtain ⟨xs, h1, hz⟩ := obind hz
      obtain ⟨i, h2, hz⟩ := obind hz
      have := intOf_ h2
      subst this
      obtain rfl := rep_int rb
      obtain ⟨p, vs, rfl, h3, h4⟩ := seqL_of rl h1 ra
      obtain ⟨w, h5, h6⟩ := at_of h4 hz
      exact ix_list value slice pins s σ H _ _ v u Q I rx ry ⟨p, vs, _, w, rfl, rfl, h3, h5, here h6⟩ hs
/-! ### slices -/
theorem cut_of {K : PySem.W.Frag} {xs : List S} {vs : List V} (h : Reps K ι H xs vs) (lo hi : Option Int) : Reps K ι H (cut xs lo hi) (cutV vs lo hi) := by
  unfold cut cutV
  rw [h.length]
  exact (h.drop _).take _
theorem cut_whole (xs : List S) {lo hi : Option Int} (h : HT.sIx xs.length 0 lo = 0 ∧ HT.sIx xs.length xs.length hi = xs.length) : cut xs lo hi = xs := by
  unfold cut; rw [h.1, h.2]; simp
theorem sl_all : SlR X (fun x lo hi H Q => ∃ ι μ a d, Rl X.K ι μ H ∧ RepD X.K ι H a x ∧ slc a lo hi μ = some d ∧ ∀ ι' H' v, Pst X.K ι H μ d ι' H' v → Q v H') := by
  intro pins s σ H x v vl vu lo hi sl Q I rx hs pl pu h
  obtain ⟨ι, μ, a, d, rl, ra, hm, q⟩ := h
  unfold slc at hm
  split at hm
  · cases hm
    obtain ⟨p, vs, rfl, h1, h2⟩ := rep_tup ra
    refine sl_tupA pins s σ H _ v vl vu lo hi sl Q I rx hs pl pu ⟨p, vs, rfl, .of h1, fun hw => ?_, fun hw p' hp => ?_⟩
    · rw [← h2.length] at hw
      rw [cut_whole _ hw] at q
      exact q ι H _ (.here rl ⟨p, vs, rfl, h1, h2⟩)
    · exact q _ _ _ (.tup rl hp (cut_of h2 lo hi))
  · obtain ⟨xs, h1, rfl⟩ := omap hm
    obtain ⟨p, vs, rfl, h2, h3⟩ := seqL_of rl h1 ra
    exact sl_list pins s σ H _ v vl vu lo hi sl Q I rx hs pl pu ⟨p, vs, rfl, h2, fun p' hp => q _ _ _ (.lst rl hp (cut_of h3 lo hi))⟩
end
/-! ### arguments -/
def tSs (K : PySem.W.Frag) (m : Sig → Sto → Option (List S × Sto)) : TA := fun σ H Q => ∃ ι g μ xs μ', St_ K ι g μ σ H ∧ m g μ = some (xs, μ') ∧ ∀ ι' H' vs, Ext ι ι' H H' → Rl K ι' μ' H' → Reps K ι' H' xs vs → Q vs H'
def tDs (K : PySem.W.Frag) (m : Sig → Sto → Option (List D × Sto)) : TA := fun σ H Q => ∃ ι g μ ds μ', St_ K ι g μ σ H ∧ m g μ = some (ds, μ') ∧ ∀ ι' H' vs, Ext ι ι' H H' → Rl K ι' μ' H' → RepDs K ι' H' ds vs → Q vs H'
section
variable {K : PySem.W.Frag} {σ : L2.St} {H : Hp} {c : Cal} {gl : List S} {Q : List V → Hp → Prop}
theorem tSs_nil (h : tSs K (evS c gl .nil) σ H Q) : tNil σ H Q := by
  obtain ⟨ι, g, μ, xs, μ', st, hm, q⟩ := h
  simp only [evS, Option.some.injEq, Prod.mk.injEq] at hm
  obtain ⟨rfl, rfl⟩ := hm
  exact q ι H [] .refl st.rl rfl
theorem tSs_cons {e : E} {r : Es} (h : tSs K (evS c gl (.cons e r)) σ H Q) : tCons (tD K (evE c gl e)) (tSs K (evS c gl r)) σ H Q := by
  obtain ⟨ι, g, μ, xs, μ', st, hm, q⟩ := h
  simp only [evS] at hm
  obtain ⟨⟨d, μ1⟩, h1, hm⟩ := obind hm
  obtain ⟨⟨ys, μ2⟩, h2, e⟩ := omap hm
  obtain ⟨rfl, rfl⟩ := Prod.mk.inj e
  refine ⟨ι, g, μ, d, μ1, st, h1, fun ι1 H1 x p1 => ?_⟩
  obtain ⟨ι2, x2, r2, rx⟩ := p1.lay
  refine ⟨ι2, g, _, ys, μ2, st.ext x2 r2, h2, fun ι3 H3 vs x3 r3 rs => ?_⟩
  exact q ι3 H3 _ (x2.trans x3) r3 ⟨x, vs, rfl, rx.ext x3 r2, rs⟩
theorem tDs_nil (h : tDs K (evD c gl .nil) σ H Q) : tNil σ H Q := by
  obtain ⟨ι, g, μ, xs, μ', st, hm, q⟩ := h
  simp only [evD, Option.some.injEq, Prod.mk.injEq] at hm
  obtain ⟨rfl, rfl⟩ := hm
  exact q ι H [] .refl st.rl rfl
theorem tDs_cons {e : E} {r : Es} (h : tDs K (evD c gl (.cons e r)) σ H Q) : tCons (tD K (evE c gl e)) (tDs K (evD c gl r)) σ H Q := by
  obtain ⟨ι, g, μ, xs, μ', st, hm, q⟩ := h
  simp only [evD] at hm
  obtain ⟨⟨d, μ1⟩, h1, hm⟩ := obind hm
  obtain ⟨⟨ys, μ2⟩, h2, e⟩ := omap hm
  obtain ⟨rfl, rfl⟩ := Prod.mk.inj e
  refine ⟨ι, g, μ, d, μ1, st, h1, fun ι1 H1 x p1 => ?_⟩
  refine ⟨ι1, g, _, ys, μ2, st.ext p1.ext p1.rl, h2, fun ι3 H3 vs x3 r3 rs => ?_⟩
  exact q ι3 H3 _ (p1.ext.trans x3) r3 ⟨x, vs, rfl, p1.rep.ext x3 p1.rl, rs⟩
/-- a call of a built-in -/
theorem tD_bi {es : Es} {Q : VK} {f : List D → Sto → Option (D × Sto)} (h : tD K (fun g μ => (evD c gl es g μ).bind fun p => f p.1 p.2) σ H Q) : tCB (rDn K f) (tDs K (evD c gl es)) σ H Q := by
  obtain ⟨ι, g, μ, d, μ', st, hm, q⟩ := h
  obtain ⟨⟨ds, μ1⟩, h1, h2⟩ := obind hm
  refine ⟨ι, g, μ, ds, μ1, st, h1, fun ι1 H1 vs x1 r1 p1 => ?_⟩
  exact ⟨ι1, μ1, ds, d, μ', r1, p1, h2, fun ι3 H3 v p3 => q ι3 H3 v (p3.trans x1 r1)⟩
end
section
variable {K : PySem.W.Frag} {ι : List Addr} {μ : Sto} {H : Hp}
theorem repDs1 {d : D} {vs : List V} (h : RepDs K ι H [d] vs) : ∃ x, vs = [x] ∧ RepD K ι H d x := by
  simp only [RepDs] at h
  obtain ⟨v, r, rfl, h1, rfl⟩ := h
  exact ⟨v, rfl, h1⟩
theorem repDs2 {d e : D} {vs : List V} (h : RepDs K ι H [d, e] vs) : ∃ x y, vs = [x, y] ∧ RepD K ι H d x ∧ RepD K ι H e y := by
  simp only [RepDs] at h
  obtain ⟨v, r, rfl, h1, w, r', rfl, h2, rfl⟩ := h
  exact ⟨v, w, rfl, h1, h2⟩
end
/-! ### built-ins -/
theorem mergeI_perm (l : List Int) : (mergeI l).Perm l := List.mergeSort_perm l _
theorem mergeI_sorted (l : List Int) : (mergeI l).Pairwise (· ≤ ·) := by
  have h := List.pairwise_mergeSort (le := fun a b : Int => decide (a ≤ b)) (fun a b c h1 h2 => by simp at *; omega) (fun a b => by simp; omega) l
  exact h.imp fun z => by simpa using z
theorem sorted_uniq {l m : List Int} (hp : l.Perm m) (h1 : l.Pairwise (· ≤ ·)) (h2 : m.Pairwise (· ≤ ·)) : l = m :=
  hp.eq_of_pairwise (le := (· ≤ ·)) (fun a b _ _ h1 h2 => by omega) h1 h2
theorem extr_max : ∀ (l : List Int) (x m : Int), m ∈ x :: l → (∀ y, y ∈ x :: l → y ≤ m) → l.foldl max x = m
  | [], x, m, h, _ => by simp at h; simp [h]
  | y :: l, x, m, h, h2 => by
    rw [List.foldl_cons]
    refine extr_max l (max x y) m ?_ ?_
    · rcases List.mem_cons.mp h with e | h
      · have := h2 y (by simp); simp; left; omega
      · rcases List.mem_cons.mp h with e | h
        · have := h2 x (by simp); simp; left; omega
        · simp [h]
    · intro z hz
      rcases List.mem_cons.mp hz with e | hz
      · have a1 := h2 x (by simp); have a2 := h2 y (by simp); omega
      · exact h2 z (by simp [hz])
theorem extr_min : ∀ (l : List Int) (x m : Int), m ∈ x :: l → (∀ y, y ∈ x :: l → m ≤ y) → l.foldl min x = m
  | [], x, m, h, _ => by simp at h; simp [h]
  | y :: l, x, m, h, h2 => by
    rw [List.foldl_cons]
    refine extr_min l (min x y) m ?_ ?_
    · rcases List.mem_cons.mp h with e | h
      · have := h2 y (by simp); simp; left; omega
      · rcases List.mem_cons.mp h with e | h
        · have := h2 x (by simp); simp; left; omega
        · simp [h]
    · intro z hz
      rcases List.mem_cons.mp hz with e | hz
      · have a1 := h2 x (by simp); have a2 := h2 y (by simp); omega
      · exact h2 z (by simp [hz])
end Dv
end
section
set_option Elab.async false
set_option linter.all false
/-! Dv6: built-ins, methods. -/
namespace Dv
open PySem PySem.Spec PyProof.Rows L2
theorem CallR.use {X : Cx} {f : Value} {r : List V → Hp → VK → Prop} (h : CallR X f r) {pins : List (Addr × Obj)} {s : Shared} {σ : L2.St} {H : Hp} {xs : List V} {us : List Value} {Q : VK} (I : Inv X pins σ H s) (rx : Vals xs us) (q : r xs H Q) :
    wpAny (model X.prog X.w) X.A (call f us) (EP X pins σ Q) X.xe s := h pins s σ H xs us Q I rx q
def Bi.nm : Bi → Str
  | .len => "len" | .int => "int" | .sum => "sum" | .tuple => "tuple" | .list => "list" | .sorted => "sorted" | .min2 => "min" | .max2 => "max" | .minL => "min" | .maxL => "max" | .abs => "abs" | .any => "any" | .all => "all" | .divmod => "divmod"
def Bi.fn : Bi → Value
  | .len => .builtin "len" | .int => .type "int" | .sum => .builtin "sum" | .tuple => .type "tuple" | .list => .type "list" | .sorted => .builtin "sorted" | .min2 => .builtin "min" | .max2 => .builtin "max"
  | .minL => .builtin "min" | .maxL => .builtin "max" | .abs => .builtin "abs" | .any => .builtin "any" | .all => .builtin "all" | .divmod => .builtin "divmod"
theorem kInts_of : ∀ {kvs : List (Key × S)} {ns : List Int}, kInts kvs = some ns → kvs.map (·.1) = ns.map Sum.inl
  | [], ns, h => by simp [kInts] at h; subst h; rfl
  | (k, v) :: r, ns, h => by
    cases k with
    | inl i =>
      simp only [kInts] at h
      obtain ⟨ms, h1, rfl⟩ := omap h
      simp [kInts_of h1]
    | inr x => simp [kInts] at h
section
variable {X : Cx}
theorem cr_bi (hc : X.calm = true) (b : Bi) : CallR X b.fn (rDn X.K fun ds μ => (bfn b ds μ).map fun d => (d, μ)) := by
  intro pins s σ H xs us Q I rs h
  obtain ⟨ι, μ, ds, d, μ', rl, rp, hm, q⟩ := h
  obtain ⟨d', h0, e⟩ := omap hm
  clear hm
  obtain ⟨rfl, rfl⟩ := Prod.mk.inj e
  have int : ∀ {i : Int}, d' = .s (.int i) → Q (.int i) H := fun {i} e => by subst e; exact q ι H _ (.here rl rfl)
  have bool : ∀ {i : Bool}, d' = .s (.bl i) → Q (.bl i) H := fun {i} e => by subst e; exact q ι H _ (.here rl rfl)
  unfold bfn at h0
  split at h0
  · -- len
    obtain ⟨x, rfl, rx⟩ := repDs1 rp
    obtain ⟨n, h1, h2⟩ := omap h0
    split at h1
    · split at h1
      · rename_i hl
        cases h1
        obtain rfl := rep_str rx
        exact CallR.use call_len I rs ⟨_, _, rfl, ⟨hl, rfl⟩, int h2.symm⟩
      · cases h1
    · split at h1
      · rename_i ys e
        cases h1
        obtain ⟨p, vs, rfl, h3, h4⟩ := seq_of rl e rx
        rw [h4.length] at h2
        exact CallR.use call_len_seq I rs ⟨p, vs, rfl, h3, int h2.symm⟩
      · split at h1
        · rename_i e
          cases h1
          obtain ⟨p, rfl, ws, h3, h4⟩ := dict_at rl e rx
          obtain ⟨u, rfl, ru⟩ := vals1 rs
          cases ru
          exact d_len I (.inl h3) fun t s' I' => ⟨.int (ws.length : Nat), H, I', ⟨t, rfl⟩, by rw [kvs_len h4]; exact int h2.symm⟩
        · cases h1
  · cases h0
    obtain ⟨x, rfl, rx⟩ := repDs1 rp
    obtain rfl := rep_int rx
    exact CallR.use call_int1 I rs (.inl ⟨_, rfl, int rfl⟩)
  · cases h0
    obtain ⟨x, rfl, rx⟩ := repDs1 rp
    obtain rfl := rep_bl rx
    exact CallR.use call_int1 I rs (.inr ⟨_, rfl, int rfl⟩)
  · obtain ⟨x, rfl, rx⟩ := repDs1 rp
    obtain ⟨ys, h1, h0⟩ := obind h0
    obtain ⟨ns, h2, h3⟩ := omap h0
    obtain ⟨p, vs, rfl, h4, h5⟩ := seqL_of rl h1 rx
    rw [ints_of h2, reps_ints] at h5
    subst h5
    exact CallR.use (cr_sum hc) I rs ⟨p, ns, rfl, h4, int h3.symm⟩
  · obtain ⟨x, rfl, rx⟩ := repDs1 rp
    obtain ⟨ys, h1, h3⟩ := omap h0
    subst h3
    obtain ⟨p, vs, rfl, h4, h5⟩ := seq_of rl h1 rx
    rcases h4 with h4 | h4
    · exact CallR.use call_tuple_of I rs ⟨p, vs, rfl, .inl ⟨h4, fun l hl => q _ _ _ (.tup rl hl h5)⟩⟩
    · refine CallR.use call_tuple_of I rs ⟨p, vs, rfl, .inr ⟨h4, ?_⟩⟩
      -- a tuple is itself
      unfold seqOf at h1
      split at h1
      · cases h1
        exact q ι H _ (.here rl rx)
      · obtain ⟨p', vs', e, h6, h7⟩ := seqL_of rl h1 rx
        cases e
        obtain ⟨its, _, pl, _⟩ := I.list h6
        obtain ⟨its', _, pt, _⟩ := I.tuple h4
        obtain ⟨o, n, e1, c1, _, _⟩ := pl
        obtain ⟨o', e2, c2, _⟩ := pt
        rw [e1] at e2; cases e2
        rw [c1] at c2
        exact absurd c2 (by simp)
  · obtain ⟨x, rfl, rx⟩ := repDs1 rp
    obtain ⟨ys, h1, h3⟩ := omap h0
    subst h3
    obtain ⟨p, vs, rfl, h4, h5⟩ := seq_of rl h1 rx
    exact CallR.use call_list_of I rs ⟨p, vs, rfl, h4, fun l hl => q _ _ _ (.lst rl hl h5)⟩
  · obtain ⟨x, rfl, rx⟩ := repDs1 rp
    split at h0
    · rename_i kvs ek
      obtain ⟨ns, h2, h3⟩ := obind h0
      split at h3
      · rename_i hl
        cases h3
        obtain ⟨ob, ek1, ek2⟩ := obind ek
        have ek3 : ob = .dK kvs := by cases ob <;> simp [Ob.asK] at ek2 ⊢; exact ek2
        subst ek3
        obtain ⟨p, rfl, ws, h4, h5⟩ := dict_at rl ek1 rx
        refine CallR.use (call_sortedDI hc) I rs ⟨p, ws, ns, rfl, .inl h4, by rw [h5.1, kInts_of h2], hl, fun ns' p' hp hs hn => ?_⟩
        have e : ns' = mergeI ns := sorted_uniq (hp.trans (mergeI_perm ns).symm) hs (mergeI_sorted ns)
        subst e
        exact q _ _ _ (.lst rl hn (reps_ints.mpr rfl))
      · cases h3
    obtain ⟨ys, h1, h0⟩ := obind h0
    obtain ⟨ns, h2, h3⟩ := omap h0
    subst h3
    obtain ⟨p, vs, rfl, h4, h5⟩ := seqL_of rl h1 rx
    rw [ints_of h2, reps_ints] at h5
    subst h5
    refine CallR.use cr_sortedI I rs ⟨p, ns, rfl, h4, fun ns' p' hp hs hn => ?_⟩
    have e : ns' = mergeI ns := sorted_uniq (hp.trans (mergeI_perm ns).symm) hs (mergeI_sorted ns)
    subst e
    exact q _ _ _ (.lst rl hn (reps_ints.mpr rfl))
  · cases h0
    obtain ⟨x, y, rfl, rx, ry⟩ := repDs2 rp
    obtain rfl := rep_int rx
    obtain rfl := rep_int ry
    exact CallR.use (call_min2 hc) I rs ⟨_, _, rfl, int rfl⟩
  · cases h0
    obtain ⟨x, y, rfl, rx, ry⟩ := repDs2 rp
    obtain rfl := rep_int rx
    obtain rfl := rep_int ry
    exact CallR.use (call_max2 hc) I rs ⟨_, _, rfl, int rfl⟩
  · obtain ⟨x, rfl, rx⟩ := repDs1 rp
    obtain ⟨ys, h1, h0⟩ := obind h0
    obtain ⟨ns, h2, h0⟩ := obind h0
    obtain ⟨n, h3, h6⟩ := omap h0
    obtain ⟨p, vs, rfl, h4, h5⟩ := seqL_of rl h1 rx
    rw [ints_of h2, reps_ints] at h5
    subst h5
    cases ns with
    | nil => cases h3
    | cons z zs =>
      simp only [extr, Option.some.injEq] at h3
      refine CallR.use (cr_min hc) I rs ⟨p, z :: zs, rfl, h4, by simp, fun m hm hl => ?_⟩
      have e := extr_min zs z m hm hl
      rw [h3] at e; subst e
      exact int h6.symm
  · obtain ⟨x, rfl, rx⟩ := repDs1 rp
    obtain ⟨ys, h1, h0⟩ := obind h0
    obtain ⟨ns, h2, h0⟩ := obind h0
    obtain ⟨n, h3, h6⟩ := omap h0
    obtain ⟨p, vs, rfl, h4, h5⟩ := seqL_of rl h1 rx
    rw [ints_of h2, reps_ints] at h5
    subst h5
    cases ns with
    | nil => cases h3
    | cons z zs =>
      simp only [extr, Option.some.injEq] at h3
      refine CallR.use (cr_max hc) I rs ⟨p, z :: zs, rfl, h4, by simp, fun m hm hl => ?_⟩
      have e := extr_max zs z m hm hl
      rw [h3] at e; subst e
      exact int h6.symm
  · cases h0
    obtain ⟨x, rfl, rx⟩ := repDs1 rp
    obtain rfl := rep_int rx
    exact CallR.use call_abs I rs ⟨_, rfl, int rfl⟩
  · obtain ⟨x, rfl, rx⟩ := repDs1 rp
    obtain ⟨ys, h1, h0⟩ := obind h0
    obtain ⟨ns, h2, h3⟩ := omap h0
    obtain ⟨p, vs, rfl, h4, h5⟩ := seqL_of rl h1 rx
    rw [bls_of h2, reps_bls] at h5
    subst h5
    exact CallR.use (cr_any hc) I rs ⟨p, ns, rfl, h4, bool h3.symm⟩
  · obtain ⟨x, rfl, rx⟩ := repDs1 rp
    obtain ⟨ys, h1, h0⟩ := obind h0
    obtain ⟨ns, h2, h3⟩ := omap h0
    obtain ⟨p, vs, rfl, h4, h5⟩ := seqL_of rl h1 rx
    rw [bls_of h2, reps_bls] at h5
    subst h5
    exact CallR.use (cr_all hc) I rs ⟨p, ns, rfl, h4, bool h3.symm⟩
  · split at h0
    · rename_i hd
      cases h0
      obtain ⟨x, y, rfl, rx, ry⟩ := repDs2 rp
      obtain rfl := rep_int rx
      obtain rfl := rep_int ry
      exact CallR.use call_divmod I rs ⟨_, _, rfl, hd, fun p hp => q _ _ _ (.tup rl hp ⟨_, _, rfl, rfl, _, _, rfl, rfl, rfl⟩)⟩
    · cases h0
  · cases h0
/-! ### methods -/
theorem MtR.use {id : String} {r : V → List V → Hp → VK → Prop} (h : MtR X id r) {pins : List (Addr × Obj)} {s : Shared} {σ : L2.St} {H : Hp} {x : V} {xs : List V} {v : Value} {us : List Value} {Q : VK} (I : Inv X pins σ H s) (rx : RelV x v) (rs : Vals xs us) (q : r x xs H Q) :
    wpAny (model X.prog X.w) X.A (call (.builtin id) (v :: us)) (EP X pins σ Q) X.xe s := h pins s σ H x xs v us Q I rx rs q
end
section
variable {K : PySem.W.Frag} {ι : List Addr} {μ : Sto} {H : Hp}
/-- an object of the store is changed -/
theorem Rl.set (r : Rl K ι μ H) {n : Nat} {a : Addr} {o : Ob} {u : HO} (h : ι[n]? = some a) (hm : ∀ b, b ≠ a → ∀ x, H b = some x → (upd H a u) b = some x) (ho : ∀ K' : Unit, (∀ {xs : List S} {vs : List V}, Reps K ι H xs vs → Reps K ι (upd H a u) xs vs) → RepO K ι (upd H a u) a o) : Rl K ι (μ.set n o) (upd H a u) ∧ Ext ι ι H (upd H a u) := by
  have ha : a ∈ ι := List.mem_of_getElem? h
  have e : Ext ι ι H (upd H a u) := ⟨⟨[], by simp⟩, fun b x q hb => by rw [upd_ne (fun z => hb (by rw [z]; exact ha))]; exact q, fun _ h n => absurd h n⟩
  refine ⟨⟨by simp [r.len], r.nd, fun k p q => ?_⟩, e⟩
  rw [List.getElem?_set] at q
  split at q
  · rename_i hk
    subst hk
    split at q
    · cases q
      exact ⟨a, h, ho () fun z => z.ext e r⟩
    · cases q
  · rename_i hk
    obtain ⟨b, h1, h2⟩ := r.at_ k p q
    have ne : b ≠ a := fun z => by
      subst z
      obtain ⟨i1, e1⟩ := List.getElem?_eq_some_iff.mp h
      obtain ⟨i2, e2⟩ := List.getElem?_eq_some_iff.mp h1
      exact hk ((List.getElem_inj r.nd).mp (e1.trans e2.symm))
    refine ⟨b, h1, ?_⟩
    cases p with
    | lst xs => obtain ⟨vs, q1, q2⟩ := h2; exact ⟨vs, by rw [upd_ne ne]; exact q1, q2.ext e r⟩
    | dK xs => obtain ⟨vs, q1, q2⟩ := h2; exact ⟨vs, by rw [upd_ne ne]; exact q1, q2.ext e r⟩
    | dT xs => obtain ⟨vs, q1, q2⟩ := h2; exact ⟨vs, by rw [upd_ne ne]; exact q1, q2.ext e r⟩
    | ins => exact h2.elim
theorem Rl.setL (r : Rl K ι μ H) {n : Nat} {a : Addr} {xs : List S} {vs : List V} (h : ι[n]? = some a) (q : Reps K ι H xs vs) : Rl K ι (μ.set n (.lst xs)) (upd H a (.lst vs)) ∧ Ext ι ι H (upd H a (.lst vs)) :=
  r.set h (fun b hb x e => by rw [upd_ne hb]; exact e) fun _ f => ⟨vs, upd_same, f q⟩
theorem loc_lst (r : Rl K ι μ H) {n : Nat} {x : V} {xs : List S} (p : RepD K ι H (.s (.loc n)) x) (e : μ[n]? = some (.lst xs)) : ∃ a vs, x = .ref a ∧ ι[n]? = some a ∧ H a = some (.lst vs) ∧ Reps K ι H xs vs := by
  obtain ⟨a, h1, rfl⟩ := p
  obtain ⟨b, h2, vs, h3, h4⟩ := r.at_ n _ e
  rw [h1] at h2; cases h2
  exact ⟨a, vs, rfl, h1, h3, h4⟩
end
end Dv
end
section
set_option Elab.async false
set_option linter.all false
/-! Dv7: methods, stores, isinstance. -/
namespace Dv
open PySem PySem.Spec PyProof.Rows L2
def Mt.T : Mt → String
  | .get1 => "dict" | .get2 => "dict" | .bitlen => "int" | _ => "list"
def Mt.nm : Mt → Str
  | .pop => "pop" | .popAt => "pop" | .rev => "reverse" | .get1 => "get" | .get2 => "get" | .bitlen => "bit_length"
def Mt.id : Mt → String
  | .pop => "list.pop" | .popAt => "list.pop" | .rev => "list.reverse" | .get1 => "dict.get" | .get2 => "dict.get" | .bitlen => "int.bit_length"
theorem Mt.pa (m : Mt) : PlainAttrs m.T := by
  cases m
  · exact PySem.F.plainAttrs_list
  · exact PySem.F.plainAttrs_list
  · exact PySem.F.plainAttrs_list
  · exact PySem.F.plainAttrs_dict
  · exact PySem.F.plainAttrs_dict
  · exact PySem.F.plainAttrs_int
theorem Mt.slot (m : Mt) : Slot m.T m.nm m.id := by
  cases m
  · exact PySem.F.slot_list_pop
  · exact PySem.F.slot_list_pop
  · exact PySem.F.slot_list_reverse
  · exact PySem.F.slot_dict_get
  · exact PySem.F.slot_dict_get
  · exact PyProof.Rows.slot_int_bit_length
theorem Mt.hty (m : Mt) : typeOf (.builtin m.id) = pure (.type "method_descriptor") := by
  cases m
  · exact PySem.F.type_list_pop
  · exact PySem.F.type_list_pop
  · exact PySem.F.type_list_reverse
  · exact PySem.F.type_dict_get
  · exact PySem.F.type_dict_get
  · exact PyProof.Rows.type_int_bit_length
def rM (K : PySem.W.Frag) (f : D → List D → Sto → Option (D × Sto)) : V → List V → Hp → VK → Prop := fun x xs H Q => ∃ ι μ a ds d μ', Rl K ι μ H ∧ RepD K ι H a x ∧ RepDs K ι H ds xs ∧ f a ds μ = some (d, μ') ∧ ∀ ι' H' v, Pst K ι H μ' d ι' H' v → Q v H'
section
variable {X : Cx}
theorem mt_all (hu : X.A.units + 1 < cLine) (m : Mt) : MtR X m.id (rM X.K (mtd m)) := by
  intro pins s σ H x xs v us Q I rx rs h
  obtain ⟨ι, μ, a, ds, d, μ', rl, ra, rp, hm, q⟩ := h
  unfold mtd at hm
  split at hm
  · -- pop
    rename_i n
    split at hm
    · rename_i ys e
      obtain ⟨z, h1, h2⟩ := omap hm
      obtain ⟨rfl, rfl⟩ := Prod.mk.inj h2
      obtain ⟨p, vs, rfl, h3, h4, h5⟩ := loc_lst rl ra e
      simp only [RepDs] at rp
      subst rp
      obtain ⟨w, h6, h7⟩ := h5.get h1
      obtain ⟨r2, x2⟩ := rl.setL h3 h5.dropLast
      rw [h5.length] at h6
      exact MtR.use mt_pop I rx rs ⟨p, vs, w, rfl, rfl, h4, h6, q ι _ w ⟨x2, r2, h7.ext x2 rl, fun _ e => nomatch e⟩⟩
    · cases hm
  · rename_i n i
    split at hm
    · rename_i ys e
      split at hm
      · rename_i hi
        obtain ⟨z, h1, h2⟩ := omap hm
        obtain ⟨rfl, rfl⟩ := Prod.mk.inj h2
        obtain ⟨p, vs, rfl, h3, h4, h5⟩ := loc_lst rl ra e
        obtain ⟨y, rfl, ry⟩ := repDs1 rp
        obtain rfl := rep_int ry
        obtain ⟨w, h6, h7⟩ := h5.get h1
        obtain ⟨r2, x2⟩ := rl.setL h3 (h5.erase i.toNat)
        have hl := h5.length
        have hz : (LINE : Nat) < 2 ^ 63 := by decide
        refine MtR.use mt_popAt I rx rs ⟨p, vs, i, i.toNat, w, rfl, rfl, h4, by omega, by omega, ?_, h6, q ι _ w ⟨x2, r2, h7.ext x2 rl, fun _ e => nomatch e⟩⟩
        rw [seqIndex_of hi.1 (by omega)]
      · cases hm
    · cases hm
  · rename_i n
    split at hm
    · rename_i ys e
      obtain ⟨rfl, rfl⟩ := Prod.mk.inj (Option.some.inj hm)
      obtain ⟨p, vs, rfl, h3, h4, h5⟩ := loc_lst rl ra e
      simp only [RepDs] at rp
      subst rp
      obtain ⟨r2, x2⟩ := rl.setL h3 h5.reverse
      exact MtR.use mt_reverse I rx rs ⟨p, vs, rfl, rfl, h4, q ι _ .non ⟨x2, r2, rfl, fun _ e => nomatch e⟩⟩
    · cases hm
  · obtain ⟨o, h1, hm⟩ := obind hm
    obtain ⟨r, h2, h3⟩ := omap hm
    obtain ⟨rfl, rfl⟩ := Prod.mk.inj h3
    obtain ⟨p, rfl, ro⟩ := dict_at rl h1 ra
    obtain ⟨y, rfl, ry⟩ := repDs1 rp
    obtain ⟨ov, g, c⟩ := dget_of h2 ro ry
    obtain ⟨u, rfl, ru⟩ := vals1 rs
    cases rx
    refine d_get1 hu I g ru fun w' s' I' rw' => ⟨_, H, I', rw', q ι H _ (.here rl ?_)⟩
    rcases c with ⟨rfl, rfl⟩ | ⟨z, w, rfl, rfl, rz⟩
    · rfl
    · exact rz
  · rename_i z
    obtain ⟨o, h1, hm⟩ := obind hm
    obtain ⟨r, h2, h3⟩ := omap hm
    obtain ⟨rfl, rfl⟩ := Prod.mk.inj h3
    obtain ⟨p, rfl, ro⟩ := dict_at rl h1 ra
    obtain ⟨y, y', rfl, ry, ry'⟩ := repDs2 rp
    obtain ⟨ov, g, c⟩ := dget_of h2 ro ry
    obtain ⟨u, u', rfl, ru, ru'⟩ := vals2 rs
    cases rx
    refine d_get2 hu I g ru ru' fun w' s' I' rw' => ⟨_, H, I', rw', q ι H _ (.here rl ?_)⟩
    rcases c with ⟨rfl, rfl⟩ | ⟨z, w, rfl, rfl, rz⟩
    · exact ry'
    · exact rz
  · obtain ⟨rfl, rfl⟩ := Prod.mk.inj (Option.some.inj hm)
    obtain rfl := rep_int ra
    simp only [RepDs] at rp
    subst rp
    cases rs
    obtain ⟨t, rfl⟩ := rx
    exact PyProof.Rows.call_int_bit_length ⟨.int _, H, I.tok _, ⟨_, rfl⟩, q ι H _ (.here rl rfl)⟩
  · cases hm
theorem rcv_ty {K : PySem.W.Frag} {ι : List Addr} {μ : Sto} {H : Hp} {m : Mt} {a : D} {x : V} (rl : Rl K ι μ H) (h : rcv m a μ = true) (p : RepD K ι H a x) : tyV K m.T x H := by
  have lst : ∀ {xs : List S}, lstOf μ a = some xs → tyV K "list" x H := fun {xs} e => by
    obtain ⟨b, vs, rfl, h1, _⟩ := lst_of rl e p
    exact .inl ⟨rfl, vs, .of h1⟩
  have lst' : (lstOf μ a).isSome = true → tyV K "list" x H := fun e => by
    obtain ⟨xs, e⟩ := Option.isSome_iff_exists.mp e
    exact lst e
  have dict : ∀ {o : Ob}, dictOf μ a = some o → (match some o with
    | some (.dK _) => true
    | some (.dT _) => true
    | _ => false) = true → tyV K "dict" x H := fun {o} e h => by
    obtain ⟨b, rfl, ro⟩ := dict_at rl e p
    cases o with
    | dK kvs => obtain ⟨ws, h1, _⟩ := ro; exact .inr (.inr (.inl ⟨rfl, .inl ⟨ws, h1⟩⟩))
    | dT kvs => obtain ⟨ws, h1, _⟩ := ro; exact .inr (.inr (.inl ⟨rfl, .inr ⟨ws, h1⟩⟩))
    | lst => cases h
    | ins => cases h
  cases m <;> simp only [rcv] at h
  · exact lst' h
  · exact lst' h
  · exact lst' h
  · cases e : dictOf μ a with
    | none => rw [e] at h; cases h
    | some o => rw [e] at h; exact dict e h
  · cases e : dictOf μ a with
    | none => rw [e] at h; cases h
    | some o => rw [e] at h; exact dict e h
  · obtain ⟨i, e⟩ := Option.isSome_iff_exists.mp h
    have := intOf_ e
    subst this
    obtain rfl := rep_int p
    rfl
/-! ### a[i] = x -/
theorem RepKV.put {κ : Type} [DecidableEq κ] {K : PySem.W.Frag} {ι : List Addr} {H : Hp} {k : κ} {x : S} {v : V} (hx : Rep K ι H x v) : ∀ {kvs : List (κ × S)} {ws : List (κ × V)}, RepKV K ι H kvs ws → RepKV K ι H (put kvs k x) (putK ws k v) := by
  intro kvs ws h
  have hany : ∀ {kvs : List (κ × S)} {ws : List (κ × V)}, RepKV K ι H kvs ws → (ws.any fun kv => decide (kv.1 = k)) = (kvs.any fun kv => decide (kv.1 = k)) := by
    intro kvs ws h
    have := congrArg (fun l => l.any fun z => decide (z = k)) h.1
    simpa [List.any_map, Function.comp_def] using this
  have hmap : ∀ {kvs : List (κ × S)} {ws : List (κ × V)}, RepKV K ι H kvs ws → RepKV K ι H (kvs.map (fun kv => if kv.1 = k then (kv.1, x) else kv)) (ws.map (fun kv => if kv.1 = k then (kv.1, v) else kv)) := by
    intro kvs
    induction kvs with
    | nil =>
      intro ws h
      have e : ws = [] := by have := h.1; simpa using this
      subst e
      exact ⟨rfl, rfl⟩
    | cons p r ih =>
      intro ws h
      cases ws with
      | nil => have := h.1; simp at this
      | cons q ws =>
        obtain ⟨h1, h2⟩ := h
        simp only [List.map_cons, List.cons.injEq] at h1
        simp only [List.map_cons, Reps] at h2
        obtain ⟨v', t, h2, h3, h4⟩ := h2
        cases h2
        obtain ⟨i1, i2⟩ := ih ⟨h1.2, h4⟩
        simp only [List.map_cons]
        refine ⟨?_, ?_⟩
        · simp only [List.map_cons, List.cons.injEq]
          refine ⟨?_, i1⟩
          rw [h1.1]
          split <;> simp [h1.1]
        · refine ⟨_, _, rfl, ?_, i2⟩
          rw [h1.1]
          split
          · exact hx
          · exact h3
  unfold Dv.put putK
  rw [hany h]
  split
  · exact hmap h
  · obtain ⟨h1, h2⟩ := h
    refine ⟨by simp [h1], ?_⟩
    simp only [List.map_append, List.map_cons, List.map_nil]
    exact h2.append ⟨v, [], rfl, hx, rfl⟩
theorem RepKV.drop {κ : Type} [DecidableEq κ] {K : PySem.W.Frag} {ι : List Addr} {H : Hp} {k : κ} : ∀ {kvs : List (κ × S)} {ws : List (κ × V)}, RepKV K ι H kvs ws → RepKV K ι H (Dv.drop kvs k) (dropK ws k)
  | [], ws, h => by
    have e : ws = [] := by have := h.1; simpa using this
    subst e
    exact ⟨rfl, rfl⟩
  | p :: r, [], h => by have := h.1; simp at this
  | p :: r, q :: ws, h => by
    obtain ⟨h1, h2⟩ := h
    simp only [List.map_cons, List.cons.injEq] at h1
    simp only [List.map_cons, Reps] at h2
    obtain ⟨v', t, h2, h3, h4⟩ := h2
    cases h2
    obtain ⟨i1, i2⟩ := RepKV.drop (k := k) (kvs := r) (ws := ws) ⟨h1.2, h4⟩
    unfold Dv.drop dropK at i1 i2 ⊢
    by_cases e : p.1 = k
    · have e' : q.1 = k := by rw [h1.1]; exact e
      rw [List.filter_cons_of_neg (by simpa using e), List.filter_cons_of_neg (by simpa using e')]
      exact ⟨i1, i2⟩
    · have e' : ¬ q.1 = k := by rw [h1.1]; exact e
      rw [List.filter_cons_of_pos (by simpa using e), List.filter_cons_of_pos (by simpa using e')]
      exact ⟨by rw [List.map_cons, List.map_cons, i1, h1.1], ⟨q.2, _, rfl, h3, i2⟩⟩
theorem Rl.setK {K : PySem.W.Frag} {ι : List Addr} {μ : Sto} {H : Hp} (r : Rl K ι μ H) {n : Nat} {a : Addr} {xs : List (Key × S)} {vs : List (Key × V)} (h : ι[n]? = some a) (q : RepKV K ι H xs vs) : Rl K ι (μ.set n (.dK xs)) (upd H a (.dK vs)) ∧ Ext ι ι H (upd H a (.dK vs)) :=
  r.set h (fun b hb x e => by rw [upd_ne hb]; exact e) fun _ f => ⟨vs, upd_same, q.1, f q.2⟩
theorem Rl.setT {K : PySem.W.Frag} {ι : List Addr} {μ : Sto} {H : Hp} (r : Rl K ι μ H) {n : Nat} {a : Addr} {xs : List (List Key × S)} {vs : List (List Key × V)} (h : ι[n]? = some a) (q : RepKV K ι H xs vs) : Rl K ι (μ.set n (.dT xs)) (upd H a (.dT vs)) ∧ Ext ι ι H (upd H a (.dT vs)) :=
  r.set h (fun b hb x e => by rw [upd_ne hb]; exact e) fun _ f => ⟨vs, upd_same, q.1, f q.2⟩
def rSt (K : PySem.W.Frag) (f : D → D → S → Sto → Option Sto) : TSet := fun o i v H Q => ∃ ι μ a b x μ', Rl K ι μ H ∧ RepD K ι H a o ∧ RepD K ι H b i ∧ Rep K ι H x v ∧ f a b x μ = some μ' ∧ ∀ H', Rl K ι μ' H' → Ext ι ι H H' → Q H'
theorem set_all (hu : X.A.units + 1 < cLine) : PSet X (rSt X.K setIx) := by
  intro pins s σ H o i v ov iv u Q I ro ri rv h
  obtain ⟨ι, μ, a, b, x, μ', rl, ra, rb, rx, hm, q⟩ := h
  unfold setIx at hm
  split at hm
  · rename_i n
    split at hm
    · rename_i xs k e
      obtain ⟨j, h1, rfl⟩ := omap hm
      obtain ⟨p, vs, rfl, h3, h4, h5⟩ := loc_lst rl ra e
      obtain rfl := rep_int rb
      obtain ⟨r2, x2⟩ := rl.setL h3 (h5.set j rx)
      rw [h5.length] at h1
      exact set_list pins s σ H _ _ v ov iv u Q I ro ri rv ⟨p, vs, k, j, rfl, rfl, h4, h1, q _ r2 x2⟩
    · rename_i kvs y e
      obtain ⟨k, h1, h2⟩ := obind hm
      split at h2
      · rename_i hz
        cases h2
        obtain ⟨p, h3, rfl⟩ := ra
        obtain ⟨p', h4, ws, h5, h6⟩ := rl.at_ n _ e
        rw [h3] at h4; cases h4
        have ei := keyOf_ h1 rb
        subst ei
        obtain ⟨r2, x2⟩ := rl.setK h3 (h6.put (k := k) rx)
        cases ro
        exact d_setItem hu I (.k h5 (by rw [kvs_len h6]; exact hz)) ri rv fun s' I' => ⟨_, I', q _ r2 x2⟩
      · cases h2
    · rename_i kvs ys e
      obtain ⟨k, h1, h2⟩ := obind hm
      split at h2
      · rename_i hz
        cases h2
        obtain ⟨p, h3, rfl⟩ := ra
        obtain ⟨p', h4, ws, h5, h6⟩ := rl.at_ n _ e
        rw [h3] at h4; cases h4
        obtain ⟨c, vs, rfl, h7, h8⟩ := rep_tup rb
        have ei := keysOf_ h1 h8
        subst ei
        obtain ⟨r2, x2⟩ := rl.setT h3 (h6.put (k := k) rx)
        cases ro
        exact d_setItem hu I (.t h5 h7 (by rw [kvs_len h6]; exact hz)) ri rv fun s' I' => ⟨_, I', q _ r2 x2⟩
      · cases h2
    · cases hm
  · cases hm
end
end Dv
end
section
set_option Elab.async false
set_option linter.all false
/-! Dv8: isinstance, append, ranges. -/
namespace Dv
open PySem PySem.Spec PyProof.Rows L2
def Ty.py : Ty → String
  | .int => "int" | .bool => "bool" | .str => "str" | .tuple => "tuple" | .list => "list" | .dict => "dict"
theorem kit_non (t : Ty) : kitB "NoneType" t.py = some false := by cases t <;> decide +kernel
theorem kit_t (a t : Ty) : kitB a.py t.py = some (decide (t = a) || (decide (a = .bool) && decide (t = .int))) := by cases a <;> cases t <;> decide +kernel
section
variable {K : PySem.W.Frag} {ι : List Addr} {μ : Sto} {H : Hp} {d : D} {x : V}
theorem ty_of {t : Ty} {b : Bool} (rl : Rl K ι μ H) (h : tyIs μ d t = some b) (p : RepD K ι H d x) : ∃ T : String, TyX K H x (.type T) ∧ ∀ t b, tyIs μ d t = some b → kitB T t.py = some b := by
  unfold tyIs at h
  split at h
  · cases p; exact ⟨_, .base .non, fun t b h => by simp only [tyIs, Option.some.injEq] at h; subst h; exact kit_non t⟩
  · cases p; exact ⟨_, .base (.bl _), fun t b h => by simp only [tyIs, Option.some.injEq] at h; subst h; rw [show ("bool" : String) = Ty.bool.py from rfl, kit_t]; simp⟩
  · cases p; exact ⟨_, .base (.int _), fun t b h => by simp only [tyIs, Option.some.injEq] at h; subst h; rw [show ("int" : String) = Ty.int.py from rfl, kit_t]; simp⟩
  · cases p; exact ⟨_, .base (.str _), fun t b h => by simp only [tyIs, Option.some.injEq] at h; subst h; rw [show ("str" : String) = Ty.str.py from rfl, kit_t]; simp⟩
  · obtain ⟨a, vs, rfl, h1, h2⟩ := rep_tup p
    exact ⟨_, .base (.tup h1), fun t b h => by simp only [tyIs, Option.some.injEq] at h; subst h; rw [show ("tuple" : String) = Ty.tuple.py from rfl, kit_t]; simp⟩
  · rename_i n1 n2 n3 n4 n5
    have gen : ∀ t, tyIs μ d t = (match dictOf μ d with
      | some (.lst _) => some (decide (t = .list))
      | some (.dK _) => some (decide (t = .dict))
      | some (.dT _) => some (decide (t = .dict))
      | _ => none) := fun t => by
      unfold tyIs
      split
      · exact (n1 rfl).elim
      · exact (n2 _ rfl).elim
      · exact (n3 _ rfl).elim
      · exact (n4 _ rfl).elim
      · exact (n5 _ rfl).elim
      · rfl
    split at h
    · rename_i xs e
      obtain ⟨a, rfl, vs, h1, h2⟩ := dict_at rl e p
      exact ⟨_, .base (.lst h1), fun t b h => by rw [gen, e] at h; simp only [Option.some.injEq] at h; subst h; rw [show ("list" : String) = Ty.list.py from rfl, kit_t]; simp⟩
    · rename_i xs e
      obtain ⟨a, rfl, vs, h1, h2⟩ := dict_at rl e p
      exact ⟨_, .base (.dK h1), fun t b h => by rw [gen, e] at h; simp only [Option.some.injEq] at h; subst h; rw [show ("dict" : String) = Ty.dict.py from rfl, kit_t]; simp⟩
    · rename_i xs e
      obtain ⟨a, rfl, vs, h1, h2⟩ := dict_at rl e p
      exact ⟨_, .base (.dT h1), fun t b h => by rw [gen, e] at h; simp only [Option.some.injEq] at h; subst h; rw [show ("dict" : String) = Ty.dict.py from rfl, kit_t]; simp⟩
    · cases h
theorem kitAny_of {T : String} (hk : ∀ t b, tyIs μ d t = some b → kitB T t.py = some b) : ∀ {ts : List Ty} {b : Bool}, tyAny μ d ts = some b → PySem.W.kitAny K (.type T) (ts.map fun t => Value.type t.py) = some b
  | [], b, h => by simp only [tyAny, Option.some.injEq] at h; subst h; rfl
  | t :: ts, b, h => by
    simp only [tyAny] at h
    obtain ⟨c, h1, h2⟩ := obind h
    refine kitAny_cons (kit_ty (hk t c h1)) (fun e => ?_) fun e => ?_
    · subst e; exact kitAny_of hk (by simpa using h2)
    · subst e; simpa using h2.symm
theorem cls_all : ∀ ts : List Ty, Paired ClsV (ts.map fun t => V.ty t.py) (ts.map fun t => Value.type t.py)
  | [] => .nil
  | t :: ts => .cons (.ty _) (cls_all ts)
end
section
variable {X : Cx}
/-- isinstance(x, (T, ..)) -/
theorem isi_many {ma : Sig → Sto → Option (D × Sto)} {ts : List Ty} {σ : L2.St} {H : Hp} {Q : VK} (hts : ts.length ≤ sizeLine) (hne : ts ≠ []) {t : TA} (ht : ∀ σ H Q, Q (ts.map fun t => V.ty t.py) H → t σ H Q)
    (h : tD X.K (fun g μ => (ma g μ).bind fun p => (tyAny p.2 p.1 ts).map fun b => (.s (.bl b), p.2)) σ H Q) : tCB (rIsiT X.K) (tCons (tD X.K ma) (tCons (tTup t) tNil)) σ H Q := by
  obtain ⟨ι, g, μ, d, μ', st, hm, q⟩ := h
  obtain ⟨⟨a, μ1⟩, h1, hm⟩ := obind hm
  obtain ⟨b, h2, e⟩ := omap hm
  obtain ⟨rfl, rfl⟩ := Prod.mk.inj e
  refine ⟨ι, g, μ, a, μ1, st, h1, fun ι1 H1 x p1 => ?_⟩
  refine ht _ _ _ ⟨by simpa using hts, fun p hp => ?_⟩
  have x2 : Ext ι1 ι1 H1 (upd H1 p (.tup (ts.map fun t => V.ty t.py))) := ext_fresh hp
  have r2 := p1.rl.fresh (o := .tup (ts.map fun t => V.ty t.py)) hp
  have rx := p1.rep.ext x2 p1.rl
  cases ts with
  | nil => exact absurd rfl hne
  | cons t0 ts =>
    have hfst : ∃ c, tyIs μ1 a t0 = some c := by
      simp only [tyAny] at h2
      obtain ⟨c, h3, _⟩ := obind h2
      exact ⟨c, h3⟩
    obtain ⟨c, hc⟩ := hfst
    obtain ⟨T, ty, hk⟩ := ty_of r2 hc rx
    exact ⟨x, p, _, _, _, b, rfl, upd_same, cls_all _, ty, kitAny_of hk h2, q ι1 _ _ (((Pst.here r2 (show Rep X.K ι1 _ (.bl b) (.bl b) from rfl)).trans x2 r2).trans p1.ext p1.rl)⟩
theorem isi_one {ma : Sig → Sto → Option (D × Sto)} {t : Ty} {σ : L2.St} {H : Hp} {Q : VK}
    (h : tD X.K (fun g μ => (ma g μ).bind fun p => (tyAny p.2 p.1 [t]).map fun b => (.s (.bl b), p.2)) σ H Q) : tCB (rIsi X.K) (tCons (tD X.K ma) (tCons (tC (.ty t.py)) tNil)) σ H Q := by
  obtain ⟨ι, g, μ, d, μ', st, hm, q⟩ := h
  obtain ⟨⟨a, μ1⟩, h1, hm⟩ := obind hm
  obtain ⟨b, h2, e⟩ := omap hm
  obtain ⟨rfl, rfl⟩ := Prod.mk.inj e
  refine ⟨ι, g, μ, a, μ1, st, h1, fun ι1 H1 x p1 => ?_⟩
  simp only [tyAny] at h2
  obtain ⟨c, h3, h4⟩ := obind h2
  obtain ⟨T, ty, hk⟩ := ty_of p1.rl h3 p1.rep
  have e : c = b := by cases c <;> simpa using h4
  subst e
  exact ⟨x, _, _, _, c, rfl, .ty _, ty, kit_ty (hk t c h3), q ι1 _ _ ((Pst.here p1.rl (show Rep X.K ι1 _ (.bl c) (.bl c) from rfl)).trans p1.ext p1.rl)⟩
/-- xs.append(e) -/
theorem app_of {ma me : Sig → Sto → Option (D × Sto)} {σ : L2.St} {H : Hp} {Q : VK}
    (h : tD X.K (fun g μ => (ma g μ).bind fun p => if (lstOf p.2 p.1).isSome = true then (me g p.2).bind fun q => (appD p.1 (toS q.1 q.2).1 (toS q.1 q.2).2).map fun μ => (.s .non, μ) else none) σ H Q) : tBM X.K "list" rAppend (tD X.K ma) (tCons (tD X.K me) tNil) σ H Q := by
  obtain ⟨ι, g, μ, d, μ', st, hm, q⟩ := h
  obtain ⟨⟨a, μ1⟩, h1, hm⟩ := obind hm
  refine ⟨ι, g, μ, a, μ1, st, h1, fun ι1 H1 x p1 => ?_⟩
  dsimp only at hm
  split at hm
  · rename_i hl
    obtain ⟨xs0, hl⟩ := Option.isSome_iff_exists.mp hl
    obtain ⟨b0, vs0, rfl, h00, _⟩ := lst_of p1.rl hl p1.rep
    refine ⟨.inl ⟨rfl, vs0, .of h00⟩, ?_⟩
    obtain ⟨⟨e, μ2⟩, h2, hm⟩ := obind hm
    obtain ⟨μ3, h3, e3⟩ := omap hm
    obtain ⟨rfl, rfl⟩ := Prod.mk.inj e3
    refine ⟨ι1, g, μ1, e, μ2, st.ext p1.ext p1.rl, h2, fun ι2 H2 y p2 => ?_⟩
    obtain ⟨ι3, x3, r3, ry⟩ := p2.lay
    unfold appD at h3
    split at h3
    · rename_i n
      split at h3
      · rename_i ys en
        split at h3
        · rename_i hz
          cases h3
          obtain ⟨b, vs, e1, h4, h5, h6⟩ := loc_lst r3 (p1.rep.ext x3 p1.rl) en
          cases e1
          obtain ⟨r4, x4⟩ := r3.setL h4 (h6.append (ys := [(toS e μ2).1]) (ws := [y]) ⟨y, [], rfl, ry, rfl⟩)
          exact ⟨_, vs, y, rfl, rfl, h5, by rw [← h6.length]; exact hz, q ι3 _ _ ⟨p1.ext.trans (x3.trans x4), r4, rfl, fun _ e => nomatch e⟩⟩
        · cases h3
      · cases h3
    · cases h3
  · cases hm
theorem rng_rep {K : PySem.W.Frag} {ι : List Addr} {H : Hp} (a b : Int) : Reps K ι H (rngI a 1 (b - a).toNat) (rgV a b) := by
  unfold rngI rgV
  refine Reps.of_get (by simp) fun i x v e1 e2 => ?_
  simp only [List.getElem?_map] at e1 e2
  obtain ⟨j, h1, rfl⟩ := omap e1
  rw [h1] at e2
  simp only [Option.map_some, Option.some.injEq] at e2
  subst e2
  simp [Rep]
theorem rg_of {t : Bool} {K : PySem.W.Frag} {ι : List Addr} {μ : Sto} {H : Hp} {Q : VK} {a b : Int} {d : D} (rl : Rl K ι μ H) (h : rgD t a b = some d) (q : ∀ ι' H' v, Pst K ι H μ d ι' H' v → Q v H') :
    RgOk a b ∧ ∀ p, H p = none → Q (.ref p) (upd H p (if t then .tup (rgV a b) else .lst (rgV a b))) := by
  unfold rgD at h
  split at h
  · rename_i hc
    cases h
    refine ⟨hc, fun p hp => ?_⟩
    cases t with
    | true => exact q _ _ _ (.tup rl hp (rng_rep a b))
    | false => exact q _ _ _ (.lst rl hp (rng_rep a b))
  · cases h
end
end Dv
end
section
set_option Elab.async false
set_option linter.all false
set_option maxRecDepth 100000
/-! Dv9: what is walked. -/
namespace Dv
open PySem PySem.Spec PyProof.Rows L2
open AutoSeq1 (wpAny_loadPart')

theorem enumT_new (l : Addr) (items : Array Value) (n : Nat) (dct : Option Addr) (sl : Array (Option Value)) :
    Meets (Builtin.«enumerate.__new__» ⟨[.type "enumerate", .ref l], []⟩) (fun _ R s => s.heap.get? l = some { cls := .type "tuple", dict := dct, data := .seq items n, slots := sl } ∧
      R (.ok (.ret (.ref (s.heap.push { cls := .type "tuple_iterator", data := .fields #[.ref l, .int 0 0] }).objs.size)))
        { s with heap := (s.heap.push { cls := .type "tuple_iterator", data := .fields #[.ref l, .int 0 0] }).push { cls := .type "enumerate", data := .fields #[.none, .bool false, .ref s.heap.objs.size, rawInt 0, .none, .none] } }) :=
  .of_wp fun prog w A R s h => by
    obtain ⟨hp, g, d, tk, os⟩ := s
    obtain ⟨hl, h⟩ := h
    have hsub := sub_enumerate
    have hL : Heap.IsTuple (Shared.heap ⟨hp, g, d, tk, os⟩) l items := ⟨_, hl, rfl, n, rfl⟩
    wp_walk using wpAny_loadPart' hl
    refine wpAny_stack_any fun st => wpAny_pure ?_
    split
    · rename_i c _ _ _ _ _
      cases (c == Value.type "enumerate") <;>
        (wp_walk using wpAny_loadPart' hl, wpAny_pyIter_tuple hL; exact ⟨_, rfl, h⟩)
    · wp_walk using wpAny_loadPart' hl, wpAny_pyIter_tuple hL
      exact ⟨_, rfl, h⟩
theorem enumT_call {prog : Program} {w : World} {A : Around} {E : Value → Shared → Prop} {s : Shared} {l : Addr} {items : Array Value} {Q : Value → Shared → Prop} (hL : s.heap.IsTuple l items)
    (h : ∀ h', IsEnum h' (s.heap.objs.size + 1) s.heap.objs.size 0 .none → h'.IsTupleIter s.heap.objs.size l 0 → h'.objs.size = s.heap.objs.size + 2 →
      (∀ b o, s.heap.get? b = some o → h'.get? b = some o) → Q (.ref (s.heap.objs.size + 1)) { s with heap := h' }) :
    wpAny (model prog w) A (call (.type "enumerate") [.ref l]) Q E s := by
  obtain ⟨⟨c, dct, dt, sl⟩, hl, hc, n, hd⟩ := hL
  have hc' : c = .type "tuple" := hc
  have hd' : dt = .seq items n := hd
  subst hc' hd'
  refine callType_new F.called_enumerate (by decide) (F.typeCall_enumerate_1 _) (F.newCall_enumerate_1 _) (fun obj => F.args_object_init_2 obj _) F.entry_enumerate_new (enumT_new l items n dct sl) ⟨hl, ?_⟩
  generalize hH : s.heap.push { cls := .type "tuple_iterator", data := .fields #[.ref l, .int 0 0] } = hh
  have hz : hh.objs.size = s.heap.objs.size + 1 := by rw [← hH, Heap.size_push]
  show _ ∧ _
  rw [hz]
  have he := Heap.get?_push_size hh (o := { cls := .type "enumerate", data := .fields #[.none, .bool false, .ref s.heap.objs.size, rawInt 0, .none, .none] }) rfl
  rw [hz] at he
  refine ⟨⟨_, he, rfl⟩, h _ he ⟨_, Heap.get?_push_of_some _ (by rw [← hH]; exact Heap.get?_push_size _ rfl), rfl, rfl⟩ (by rw [Heap.size_push, hz]) fun b o x => Heap.get?_push_of_some _ (by rw [← hH]; exact Heap.get?_push_of_some _ x)⟩
def IteT (K : PySem.W.Frag) (a : Addr) : L2.It where
  go i H := ∃ (xs : List V) (x : V), SqT K H a xs ∧ xs[i]? = some x
  yld i H v H' := ∃ T x, v = .ref T ∧ H T = none ∧ H' = upd H T (.tup [.int (i : Nat), x]) ∧ ∀ xs, SqT K H a xs → xs[i]? = some x
  stop i H := ∃ xs : List V, SqT K H a xs ∧ xs.length ≤ i
theorem turn_eT {P : Program} {w : World} {K : PySem.W.Frag} {elts : List Expr} {kk : Nat} {tpos : Pos} (a e it : Addr) :
    Turn P w K (.Tuple elts kk tpos) (IteT K a) [e, it] e (fun i h => (∃ old, IsEnum h e it ((i : Nat) : Int) old) ∧ h.IsTupleIter it a i ∧ e ≠ it) where
  mem := by simp
  obj := fun i h st b hb => by
    obtain ⟨⟨old, he⟩, ⟨o, h1, h2, h3⟩, _⟩ := st
    simp only [List.mem_cons, List.not_mem_nil, or_false] at hb
    rcases hb with rfl | rfl
    · exact ⟨_, he, fun v z => by cases z⟩
    · exact ⟨o, h1, fun v z => by rw [h3] at z; cases z⟩
  keep := fun i h h' st k => by
    obtain ⟨⟨old, he⟩, hi, hn⟩ := st
    exact ⟨⟨old, k e (by simp) _ he⟩, hi.at fun o x => k it (by simp) o x, hn⟩
  item := by
    intro X hP hw hK hc i pins s σ H E I hf st hg
    subst hP hw hK
    obtain ⟨⟨old, he⟩, hit, hne⟩ := st
    obtain ⟨xs, x, hq, hx⟩ := hg
    obtain ⟨its, rv, p, hz⟩ := I.tuple hq
    obtain ⟨u, hu, ru⟩ := rv.get hx
    have p' : s.heap.IsTuple a its.toArray := p
    have hna : a ≠ it := fun z => by
      obtain ⟨o, h1, h2, _⟩ := hit
      obtain ⟨o', h3, h4, _⟩ := p'
      rw [z, h1] at h3
      cases h3
      have := h2.symm.trans h4
      simp at this
    have hae : e ∉ [it, a] := fun z => by
      simp only [List.mem_cons, List.not_mem_nil, or_false] at z
      rcases z with z | z
      · exact hne z
      · obtain ⟨o', h3, h4, _⟩ := p'
        have he' : s.heap.get? e = some _ := he
        rw [z, h3] at he'
        cases he'
        simp at h4
    have hil : i < its.toArray.size := by
      obtain ⟨hi, _⟩ := List.getElem?_eq_some_iff.mp hu
      simpa using hi
    have hel : e < s.heap.objs.size := Heap.lt_size he
    have hitl : it < s.heap.objs.size := by
      obtain ⟨_, q, _⟩ := hit
      exact Heap.lt_size q
    refine wpAny_pyNext_enum_itemD (Draws.tuple (A := X.A.in1) (by exact I.ok.hd hc) it a hna its.toArray) he ⟨hit, p'⟩ hil hne hae fun y h' tk hy ho hst' hT hsz hk => ?_
    have hy' : y = u := by
      have hy2 : its.toArray[i]? = some y := hy
      have hu2 : its.toArray[i]? = some u := by simpa using hu
      rw [hu2] at hy2
      exact (Option.some.inj hy2).symm
    subst hy'
    refine ⟨_, rfl, wpAny_letOwnedTupleGo_enum (s := { s with heap := h', toks := tk + 1 }) ho fun h'' he' sb => ?_⟩
    have hT2 := (sb.2 _ (Nat.ne_of_gt hel)).trans hT
    have new : ObjOk X.prog X.w (upd H s.heap.objs.size (.tup [.int (i : Nat), x])) h'' s.heap.objs.size (.tup [.int (i : Nat), x]) :=
      ⟨by show 2 ≤ sizeLine; decide, [.int i tk, y], .cons ⟨_, rfl⟩ (.cons ru .nil), ⟨_, hT2, rfl, _, rfl⟩⟩
    have kp : ∀ b ob, b ∉ [e, it] → s.heap.get? b = some ob → h''.get? b = some ob := fun b ob hb q => by
      have n1 : b ≠ e := fun z => hb (by simp [z])
      have n2 : b ≠ it := fun z => hb (by simp [z])
      exact (sb.2 b n1).trans (hk b ob n1 n2 q)
    have I1 : Inv X pins σ (upd H s.heap.objs.size (.tup [.int (i : Nat), x])) { s with heap := h'', toks := tk + 1 } := I.turnedNew (ch := [e, it]) kp hf (Nat.le_refl _) new
    refine ⟨.ref s.heap.objs.size, _, I1, rfl, ⟨_, x, rfl, I.hok.fresh (Nat.le_refl _), rfl, fun ys hy => by rw [I.tuple_inj hy hq]; exact hx⟩, ⟨⟨y, ?_⟩, hst'.1.at fun o q => (sb.2 it (Ne.symm hne)).trans q, hne⟩, fun b hb => ?_⟩
    · have e1 : ((i + 1 : Nat) : Int) = (i : Int) + 1 := by omega
      rw [e1]
      exact he'
    · have hb' : b < s.heap.objs.size := by
        simp only [List.mem_cons, List.not_mem_nil, or_false] at hb
        rcases hb with z | z
        · rw [z]; exact hel
        · rw [z]; exact hitl
      rw [upd_ne (Nat.ne_of_lt hb')]
      exact (hf b hb).1
  done := by
    intro X hP hw hK hc i pins s σ H E I hf st hg
    subst hP hw hK
    obtain ⟨⟨old, he⟩, hit, hne⟩ := st
    obtain ⟨xs, hq, hx⟩ := hg
    obtain ⟨its, rv, p, hz⟩ := I.tuple hq
    have p' : s.heap.IsTuple a its.toArray := p
    have f := hf it (by simp)
    have hl := rv.length
    obtain ⟨f0, f1, f2, f3, f4, f5⟩ := f
    have go : wpAny (model X.prog X.w) X.A (pyNext (.ref e)) (fun r s1 => r = none ∧ L2.Inv X pins σ H s1) E s := by
      have hT : s.TypeIs (.ref e) "enumerate" := ⟨_, he, rfl⟩
      unfold pyNext
      refine wpAny_bind (wpAny_attempt (wpAny_callSpecial?_slot (name := Str.ofString "__next__") hT F.slot_enumerate_next (wpAny_call_entry F.slot_enumerate_next hT F.entry_enumerate_next ?_ (F.args_enumerate_next_1 _))))
      show wpAny _ _ (field (.ref e) 2 >>= _) _ _ _
      refine wpAny_bind (wpAny_field he rfl (x := .ref it) rfl ?_)
      refine wpAny_bind (wpAny_nextOf_tuple_end (A := X.A.in1) (by exact I.ok.hd hc) hit p' (by simp; omega) fun h' x hx' ho' => ?_)
      obtain ⟨o, ho, hc'⟩ := ho'
      refine wpAny_bind (wpAny_isInstance (T := "StopIteration") (b := true) ⟨o, ho, hc'⟩ isSubtype_stop ?_)
      exact wpAny_pure ⟨rfl, I.turned (t' := s.toks) (fun b o hb q => hx' b o hb q) f0 f1 f3 f4 f5⟩
    exact go
  self := fun _ _ _ _ _ st h => let ⟨⟨_, he⟩, _⟩ := st; wpAny_pyIter_enum he h
end Dv
end
section
set_option Elab.async false
set_option linter.all false
set_option maxRecDepth 100000
/-! Dv10: walks by the store. -/
namespace Dv
open PySem PySem.Spec PyProof.Rows L2
/-- the iterator goes through these items while the lists that are read stay -/
structure Wk (K : PySem.W.Frag) (J : L2.It) (ι : List Addr) (H : Hp) (items : List S) (gs : Grd) : Prop where
  stop : ∀ ι2 μ2 H2, Ext ι ι2 H H2 → Rl K ι2 μ2 H2 → gOk gs μ2 = true → J.stop items.length H2
  go : ∀ ι2 μ2 H2 (i : Nat) (x : S), Ext ι ι2 H H2 → Rl K ι2 μ2 H2 → gOk gs μ2 = true → items[i]? = some x →
    J.go i H2 ∧ ∀ v H3, J.yld i H2 v H3 → Ext ι2 ι2 H2 H3 ∧ Rl K ι2 μ2 H3 ∧ Rep K ι2 H3 x v
def tI (K : PySem.W.Frag) (m : Sig → Sto → Option (List S × Grd × Sto)) : TI := fun σ H R => ∃ ι g μ items gs μ', St_ K ι g μ σ H ∧ m g μ = some (items, gs, μ') ∧ ∀ ι' H' J, Ext ι ι' H H' → Rl K ι' μ' H' → Wk K J ι' H' items gs → R J H'
theorem PI.of {X : Cx} {tg it : Expr} {w w' : TI} (h : PI X tg it w) (i : ∀ σ H R, w' σ H R → w σ H R) : PI X tg it w' := ⟨fun pins s σ H R I q => h.run pins s σ H R I (i σ H R q)⟩
section
variable {X : Cx} {tg e e2 : Expr} {te : TE} {ta : TA} {p pos tpos : Pos} {elts : List Expr} {kk : Nat}
def iSeq (K : PySem.W.Frag) (te : TE) : TI := fun σ H R => te σ H fun v H1 => ∃ a xs, v = .ref a ∧ ((SqL K H1 a xs ∧ R (Itl K a) H1) ∨ (SqT K H1 a xs ∧ R (Itt K a) H1))
theorem pi_seq (he : PE X e te) : PI X tg e (iSeq X.K te) := by
  refine ⟨fun pins s σ H R I h => thn (he.run pins s σ H _ I h) fun v s1 ⟨x, H1, I1, r1, q1⟩ => ?_⟩
  obtain ⟨a, xs, rfl, q⟩ := q1
  cases r1
  rcases q with ⟨hq, q⟩ | ⟨hq, q⟩
  · obtain ⟨its, rv, pl, _⟩ := I1.list hq
    exact wpAny_pyIter_list pl.isList (pi_one I1 _ (turn_list a _) ⟨_, Heap.get?_push_size _ rfl, rfl, rfl⟩ q)
  · obtain ⟨its, rv, pl, _⟩ := I1.tuple hq
    exact wpAny_pyIter_tuple (show s1.heap.IsTuple a its.toArray from pl) (pi_one I1 _ (turn_tuple a _) ⟨_, Heap.get?_push_size _ rfl, rfl, rfl⟩ q)
def iEnA (K : PySem.W.Frag) (te : TA) : TI := fun σ H R => te σ H fun vs H1 => ∃ a xs, vs = [.ref a] ∧ ((SqL K H1 a xs ∧ R (Ite K a) H1) ∨ (SqT K H1 a xs ∧ R (IteT K a) H1))
theorem pi_enA (hg : Gl X "enumerate") (hm : X.mg "enumerate" = none) (ha : PA X [e] ta) (hs : starEach [e] X.env = [(false, eval e X.env)]) : PI X (.Tuple elts kk tpos) (.Call (.Name "enumerate" p) [e] [] pos) (iEnA X.K ta) := by
  refine ⟨fun pins s σ H R I h => Call_ (ld_blt I hg hm boot_enumerate (PyProof.Rows.callWith_type1 (thn (ha.run pos pins s σ H _ I h) fun us s1 ⟨vs, H1, I1, r1, q1⟩ => ?_) hs rfl))⟩
  obtain ⟨a, xs, rfl, q⟩ := q1
  obtain ⟨u, rfl, ru⟩ := vals1 r1
  cases ru
  have fr : ∀ b, b ∈ [s1.heap.objs.size + 1, s1.heap.objs.size] → s1.heap.objs.size ≤ b := fun b hb => by
    simp only [List.mem_cons, List.not_mem_nil, or_false] at hb
    rcases hb with z | z <;> omega
  rcases q with ⟨hq, q⟩ | ⟨hq, q⟩
  · obtain ⟨its, rv, pl, _⟩ := I1.list hq
    refine call_enumerate_list pl.isList fun h' he hit hsz hk => wpAny_pyIter_enum he ⟨s1.heap.objs.size + 1, [s1.heap.objs.size + 1, s1.heap.objs.size], _, _, H1, rfl, I1.kept (t' := s1.toks) hk, turn_enum a _ _, ⟨⟨.none, he⟩, hit, Nat.succ_ne_self _⟩, fun b hb => I1.fpOk (fr b hb) (I1.hok.fresh (fr b hb)), q⟩
  · obtain ⟨its, rv, pl, _⟩ := I1.tuple hq
    refine enumT_call (show s1.heap.IsTuple a its.toArray from pl) fun h' he hit hsz hk => wpAny_pyIter_enum he ⟨s1.heap.objs.size + 1, [s1.heap.objs.size + 1, s1.heap.objs.size], _, _, H1, rfl, I1.kept (t' := s1.toks) hk, turn_eT a _ _, ⟨⟨.none, he⟩, hit, Nat.succ_ne_self _⟩, fun b hb => I1.fpOk (fr b hb) (I1.hok.fresh (fr b hb)), q⟩
end
section
variable {K : PySem.W.Frag} {ι ι' ι2 : List Addr} {μ μ' μ2 : Sto} {H H' H2 : Hp} {d : D} {v : V}
theorem grd_ok {n : Nat} {o : Ob} {μ μ2 : Sto} (h : μ[n]? = some o) (q : gOk (grd (.s (.loc n)) μ) μ2 = true) : μ2[n]? = some o := by
  simp only [grd, h, gOk, List.all_cons, List.all_nil, Bool.and_true, decide_eq_true_eq] at q
  exact q
/-- a list or tuple that is read while a loop runs -/
theorem seq_stays {xs : List S} (r : Rl K ι μ H) (h : seqOf μ d = some xs) (p : RepD K ι H d v) : ∃ a, v = .ref a ∧
    ((∀ ι2 μ2 H2, Ext ι ι2 H H2 → Rl K ι2 μ2 H2 → gOk (grd d μ) μ2 = true → ∃ vs, SqL K H2 a vs ∧ Reps K ι2 H2 xs vs) ∨
     (∀ ι2 μ2 H2, Ext ι ι2 H H2 → Rl K ι2 μ2 H2 → gOk (grd d μ) μ2 = true → ∃ vs, SqT K H2 a vs ∧ Reps K ι2 H2 xs vs)) := by
  unfold seqOf at h
  split at h
  · cases h
    obtain ⟨a, vs, rfl, h1, h2⟩ := rep_tup p
    exact ⟨a, rfl, .inr fun ι2 μ2 H2 x r2 _ => ⟨vs, .of (x.tup r h1), h2.ext x r⟩⟩
  · unfold seqL at h
    split at h
    · cases h
      obtain ⟨a, rfl, ha, vs, h1, h2⟩ := id p
      exact ⟨a, rfl, .inl fun ι2 μ2 H2 x r2 _ => ⟨vs, .of (x.keep a _ h1 ha), h2.ext x r⟩⟩
    · split at h
      · rename_i ys e
        cases h
        obtain ⟨a, h1, rfl⟩ := p
        refine ⟨a, rfl, .inl fun ι2 μ2 H2 x r2 q => ?_⟩
        obtain ⟨b, h2, vs, h3, h4⟩ := r2.at_ _ _ (grd_ok e q)
        rw [x.get h1] at h2; cases h2
        exact ⟨vs, .of h3, h4⟩
      · cases h
    · cases h
      obtain ⟨a, vs, rfl, h1, h2⟩ := p
      exact ⟨a, rfl, .inl fun ι2 μ2 H2 x r2 _ => ⟨vs, (x.frz r h1).sql, h2.ext x r⟩⟩
    · cases h
theorem Wk.list {a : Addr} {xs : List S} {gs : Grd} (h : ∀ ι2 μ2 H2, Ext ι ι2 H H2 → Rl K ι2 μ2 H2 → gOk gs μ2 = true → ∃ vs, SqL K H2 a vs ∧ Reps K ι2 H2 xs vs) : Wk K (Itl K a) ι H xs gs where
  stop ι2 μ2 H2 x r q := by
    obtain ⟨vs, h1, h2⟩ := h ι2 μ2 H2 x r q
    exact ⟨vs, h1, Nat.le_of_eq h2.length.symm⟩
  go ι2 μ2 H2 i y x r q e := by
    obtain ⟨vs, h1, h2⟩ := h ι2 μ2 H2 x r q
    obtain ⟨w, h3, h4⟩ := h2.get e
    refine ⟨⟨vs, w, h1, h3⟩, fun v H3 ⟨e1, e2⟩ => ?_⟩
    subst e1
    have := e2 vs h1
    rw [h3] at this; cases this
    exact ⟨.refl, r, h4⟩
theorem Wk.tup {a : Addr} {xs : List S} {gs : Grd} (h : ∀ ι2 μ2 H2, Ext ι ι2 H H2 → Rl K ι2 μ2 H2 → gOk gs μ2 = true → ∃ vs, SqT K H2 a vs ∧ Reps K ι2 H2 xs vs) : Wk K (Itt K a) ι H xs gs where
  stop ι2 μ2 H2 x r q := by
    obtain ⟨vs, h1, h2⟩ := h ι2 μ2 H2 x r q
    exact ⟨vs, h1, Nat.le_of_eq h2.length.symm⟩
  go ι2 μ2 H2 i y x r q e := by
    obtain ⟨vs, h1, h2⟩ := h ι2 μ2 H2 x r q
    obtain ⟨w, h3, h4⟩ := h2.get e
    refine ⟨⟨vs, w, h1, h3⟩, fun v H3 ⟨e1, e2⟩ => ?_⟩
    subst e1
    have := e2 vs h1
    rw [h3] at this; cases this
    exact ⟨.refl, r, h4⟩
theorem enumS_get : ∀ (xs : List S) (k i : Nat), (enumS k xs)[i]? = (xs[i]?).map fun x => S.tup [.int ((k + i : Nat)), x]
  | [], k, i => by simp [enumS]
  | x :: xs, k, 0 => by simp [enumS]
  | x :: xs, k, i + 1 => by simp only [enumS, List.getElem?_cons_succ, enumS_get xs (k + 1) i]; congr; funext y; congr 4; omega
theorem enumS_len : ∀ (xs : List S) (k : Nat), (enumS k xs).length = xs.length
  | [], k => rfl
  | x :: xs, k => by simp [enumS, enumS_len xs]
theorem zipS_get : ∀ (xs ys : List S) (i : Nat) (z : S), (zipS xs ys)[i]? = some z → ∃ x y, xs[i]? = some x ∧ ys[i]? = some y ∧ z = .tup [x, y]
  | [], ys, i, z, h => by simp [zipS] at h
  | x :: xs, [], i, z, h => by simp [zipS] at h
  | x :: xs, y :: ys, 0, z, h => by simp [zipS] at h; exact ⟨x, y, rfl, rfl, h.symm⟩
  | x :: xs, y :: ys, i + 1, z, h => by
    simp only [zipS, List.getElem?_cons_succ] at h ⊢
    exact zipS_get xs ys i z h
theorem zipS_len : ∀ (xs ys : List S), (zipS xs ys).length = min xs.length ys.length
  | [], ys => by simp [zipS]
  | x :: xs, [] => by simp [zipS]
  | x :: xs, y :: ys => by simp only [zipS, List.length_cons, zipS_len xs ys]; omega
theorem pair_new (r : Rl K ι μ H) {T : Addr} {x y : S} {v w : V} (hT : H T = none) (h1 : Rep K ι H x v) (h2 : Rep K ι H y w) : Ext ι ι H (upd H T (.tup [v, w])) ∧ Rl K ι μ (upd H T (.tup [v, w])) ∧ Rep K ι (upd H T (.tup [v, w])) (.tup [x, y]) (.ref T) := by
  have e : Ext ι ι H (upd H T (.tup [v, w])) := ext_fresh hT
  exact ⟨e, r.fresh hT, T, [v, w], rfl, upd_same, v, [w], rfl, h1.ext e r, w, [], rfl, h2.ext e r, rfl⟩
theorem Wk.enum {a : Addr} {xs : List S} {gs : Grd} (h : ∀ ι2 μ2 H2, Ext ι ι2 H H2 → Rl K ι2 μ2 H2 → gOk gs μ2 = true → ∃ vs, SqL K H2 a vs ∧ Reps K ι2 H2 xs vs) : Wk K (Ite K a) ι H (enumS 0 xs) gs where
  stop ι2 μ2 H2 x r q := by
    obtain ⟨vs, h1, h2⟩ := h ι2 μ2 H2 x r q
    exact ⟨vs, h1, by rw [enumS_len]; exact Nat.le_of_eq h2.length.symm⟩
  go ι2 μ2 H2 i y x r q e := by
    obtain ⟨vs, h1, h2⟩ := h ι2 μ2 H2 x r q
    rw [enumS_get] at e
    obtain ⟨z, e1, rfl⟩ := omap e
    obtain ⟨w, h3, h4⟩ := h2.get e1
    refine ⟨⟨vs, w, h1, h3⟩, fun v H3 ⟨T, u, e1, e2, e3, e4⟩ => ?_⟩
    subst e1 e3
    have := e4 vs h1
    rw [h3] at this; cases this
    rw [Nat.zero_add]
    exact pair_new r e2 rfl h4
theorem Wk.enumT {a : Addr} {xs : List S} {gs : Grd} (h : ∀ ι2 μ2 H2, Ext ι ι2 H H2 → Rl K ι2 μ2 H2 → gOk gs μ2 = true → ∃ vs, SqT K H2 a vs ∧ Reps K ι2 H2 xs vs) : Wk K (IteT K a) ι H (enumS 0 xs) gs where
  stop ι2 μ2 H2 x r q := by
    obtain ⟨vs, h1, h2⟩ := h ι2 μ2 H2 x r q
    exact ⟨vs, h1, by rw [enumS_len]; exact Nat.le_of_eq h2.length.symm⟩
  go ι2 μ2 H2 i y x r q e := by
    obtain ⟨vs, h1, h2⟩ := h ι2 μ2 H2 x r q
    rw [enumS_get] at e
    obtain ⟨z, e1, rfl⟩ := omap e
    obtain ⟨w, h3, h4⟩ := h2.get e1
    refine ⟨⟨vs, w, h1, h3⟩, fun v H3 ⟨T, u, e1, e2, e3, e4⟩ => ?_⟩
    subst e1 e3
    have := e4 vs h1
    rw [h3] at this; cases this
    rw [Nat.zero_add]
    exact pair_new r e2 rfl h4
theorem Wk.rev {a : Addr} {xs : List S} {gs : Grd} (h : ∀ ι2 μ2 H2, Ext ι ι2 H H2 → Rl K ι2 μ2 H2 → gOk gs μ2 = true → ∃ vs, SqL K H2 a vs ∧ Reps K ι2 H2 xs vs) : Wk K (Itv K a xs.length) ι H xs.reverse gs where
  stop ι2 μ2 H2 x r q := by
    show xs.length ≤ xs.reverse.length
    simp
  go ι2 μ2 H2 i y x r q e := by
    obtain ⟨vs, h1, h2⟩ := h ι2 μ2 H2 x r q
    obtain ⟨hi, _⟩ := List.getElem?_eq_some_iff.mp e
    rw [List.length_reverse] at hi
    rw [List.getElem?_reverse hi] at e
    obtain ⟨w, h3, h4⟩ := h2.get e
    refine ⟨⟨hi, vs, w, h1, h3⟩, fun v H3 ⟨e1, e2⟩ => ?_⟩
    subst e1
    have := e2 vs h1
    rw [h3] at this; cases this
    exact ⟨.refl, r, h4⟩
theorem Wk.revT {a : Addr} {xs : List S} {gs : Grd} (h : ∀ ι2 μ2 H2, Ext ι ι2 H H2 → Rl K ι2 μ2 H2 → gOk gs μ2 = true → ∃ vs, SqT K H2 a vs ∧ Reps K ι2 H2 xs vs) : Wk K (RT.ItvT K a xs.length) ι H xs.reverse gs where
  stop ι2 μ2 H2 x r q := by
    show xs.length ≤ xs.reverse.length
    simp
  go ι2 μ2 H2 i y x r q e := by
    obtain ⟨vs, h1, h2⟩ := h ι2 μ2 H2 x r q
    obtain ⟨hi, _⟩ := List.getElem?_eq_some_iff.mp e
    rw [List.length_reverse] at hi
    rw [List.getElem?_reverse hi] at e
    obtain ⟨w, h3, h4⟩ := h2.get e
    refine ⟨⟨hi, vs, w, h1, h3⟩, fun v H3 ⟨e1, e2⟩ => ?_⟩
    subst e1
    have := e2 vs h1
    rw [h3] at this; cases this
    exact ⟨.refl, r, h4⟩
theorem gOk_app {a b : Grd} {μ : Sto} (h : gOk (a ++ b) μ = true) : gOk a μ = true ∧ gOk b μ = true := by
  unfold gOk at h ⊢
  rwa [List.all_append, Bool.and_eq_true] at h
theorem Wk.zip {a b : Addr} {xs ys : List S} {gs : Grd} (h : ∀ ι2 μ2 H2, Ext ι ι2 H H2 → Rl K ι2 μ2 H2 → gOk gs μ2 = true → ∃ vs, SqL K H2 a vs ∧ Reps K ι2 H2 xs vs)
    (h' : ∀ ι2 μ2 H2, Ext ι ι2 H H2 → Rl K ι2 μ2 H2 → gOk gs μ2 = true → ∃ vs, SqL K H2 b vs ∧ Reps K ι2 H2 ys vs) : Wk K (Itz K a b) ι H (zipS xs ys) gs where
  stop ι2 μ2 H2 x r q := by
    obtain ⟨vs, h1, h2⟩ := h ι2 μ2 H2 x r q
    obtain ⟨ws, h3, h4⟩ := h' ι2 μ2 H2 x r q
    refine ⟨vs, ws, h1, h3, ?_⟩
    rw [zipS_len, ← h2.length, ← h4.length]
    omega
  go ι2 μ2 H2 i y x r q e := by
    obtain ⟨vs, h1, h2⟩ := h ι2 μ2 H2 x r q
    obtain ⟨ws, h3, h4⟩ := h' ι2 μ2 H2 x r q
    obtain ⟨z, z', e1, e2, rfl⟩ := zipS_get _ _ _ _ e
    obtain ⟨w, h5, h6⟩ := h2.get e1
    obtain ⟨w', h7, h8⟩ := h4.get e2
    refine ⟨⟨vs, ws, w, w', h1, h3, h5, h7⟩, fun v H3 ⟨T, u, u', e1, e2, e3, e4, e5⟩ => ?_⟩
    subst e1 e3
    have p1 := e4 vs h1
    have p2 := e5 ws h3
    rw [h5] at p1; cases p1
    rw [h7] at p2; cases p2
    exact pair_new r e2 h6 h8
theorem Wk.zipT {a b : Addr} {xs ys : List S} {gs : Grd} (h : ∀ ι2 μ2 H2, Ext ι ι2 H H2 → Rl K ι2 μ2 H2 → gOk gs μ2 = true → ∃ vs, SqT K H2 a vs ∧ Reps K ι2 H2 xs vs)
    (h' : ∀ ι2 μ2 H2, Ext ι ι2 H H2 → Rl K ι2 μ2 H2 → gOk gs μ2 = true → ∃ vs, SqT K H2 b vs ∧ Reps K ι2 H2 ys vs) : Wk K (RZ.ItzT K a b) ι H (zipS xs ys) gs where
  stop ι2 μ2 H2 x r q := by
    obtain ⟨vs, h1, h2⟩ := h ι2 μ2 H2 x r q
    obtain ⟨ws, h3, h4⟩ := h' ι2 μ2 H2 x r q
    refine ⟨vs, ws, h1, h3, ?_⟩
    rw [zipS_len, ← h2.length, ← h4.length]
    omega
  go ι2 μ2 H2 i y x r q e := by
    obtain ⟨vs, h1, h2⟩ := h ι2 μ2 H2 x r q
    obtain ⟨ws, h3, h4⟩ := h' ι2 μ2 H2 x r q
    obtain ⟨z, z', e1, e2, rfl⟩ := zipS_get _ _ _ _ e
    obtain ⟨w, h5, h6⟩ := h2.get e1
    obtain ⟨w', h7, h8⟩ := h4.get e2
    refine ⟨⟨vs, ws, w, w', h1, h3, h5, h7⟩, fun v H3 ⟨T, u, u', e1, e2, e3, e4, e5⟩ => ?_⟩
    subst e1 e3
    have p1 := e4 vs h1
    have p2 := e5 ws h3
    rw [h5] at p1; cases p1
    rw [h7] at p2; cases p2
    exact pair_new r e2 h6 h8
theorem Wk.rng {lo c : Int} {n : Nat} {J : L2.It} (hs : ∀ H, J.stop n H) (hg : ∀ i H, i < n → J.go i H) (hy : ∀ i H v H', J.yld i H v H' → H' = H ∧ v = .int (lo + (i : Nat) * c)) : Wk K J ι H (rngI lo c n) [] where
  stop ι2 μ2 H2 x r q := by simp only [rngI, List.length_map, List.length_range]; exact hs H2
  go ι2 μ2 H2 i y x r q e := by
    simp only [rngI, List.getElem?_map] at e
    obtain ⟨j, h1, rfl⟩ := omap e
    obtain ⟨hj, e2⟩ := List.getElem?_eq_some_iff.mp h1
    simp only [List.getElem_range, List.length_range] at e2 hj
    subst e2
    refine ⟨hg _ _ hj, fun v H3 z => ?_⟩
    obtain ⟨rfl, rfl⟩ := hy _ _ _ _ z
    exact ⟨.refl, r, rfl⟩
end
end Dv
end
section
set_option Elab.async false
set_option linter.all false
set_option maxRecDepth 100000
/-! Dv11: walks, comprehensions, loops. -/
namespace Dv
open PySem PySem.Spec PyProof.Rows L2
theorem grd_self (d : D) (μ : Sto) : gOk (grd d μ) μ = true := by
  unfold grd
  split
  · split
    · rename_i h; simp [gOk, h]
    · rfl
  · rfl
section
variable {K : PySem.W.Frag} {c : Cal} {gl : List S} {σ : L2.St} {H : Hp} {R : L2.It → Hp → Prop}
theorem tI_seq {e : E} (h : tI K (evI c gl (.seq e)) σ H R) : iSeq K (tD K (evE c gl e)) σ H R := by
  obtain ⟨ι, g, μ, items, gs, μ', st, hm, q⟩ := h
  simp only [evI] at hm
  obtain ⟨⟨d, μ1⟩, h1, hm⟩ := obind hm
  obtain ⟨xs, h2, e2⟩ := omap hm
  simp only [Prod.mk.injEq] at e2
  obtain ⟨rfl, rfl, rfl⟩ := e2
  refine ⟨ι, g, μ, d, μ1, st, h1, fun ι1 H1 v p1 => ?_⟩
  obtain ⟨a, rfl, z⟩ := seq_stays p1.rl h2 p1.rep
  rcases z with z | z
  · obtain ⟨vs, h3, _⟩ := z ι1 μ1 H1 .refl p1.rl (grd_self d μ1)
    exact ⟨a, vs, rfl, .inl ⟨h3, q ι1 H1 _ p1.ext p1.rl (.list z)⟩⟩
  · obtain ⟨vs, h3, _⟩ := z ι1 μ1 H1 .refl p1.rl (grd_self d μ1)
    exact ⟨a, vs, rfl, .inr ⟨h3, q ι1 H1 _ p1.ext p1.rl (.tup z)⟩⟩
theorem tI_enum {e : E} (h : tI K (evI c gl (.enum e)) σ H R) : iEnA K (tCons (tD K (evE c gl e)) tNil) σ H R := by
  obtain ⟨ι, g, μ, items, gs, μ', st, hm, q⟩ := h
  simp only [evI] at hm
  obtain ⟨⟨d, μ1⟩, h1, hm⟩ := obind hm
  obtain ⟨xs, h2, e2⟩ := omap hm
  simp only [Prod.mk.injEq] at e2
  obtain ⟨rfl, rfl, rfl⟩ := e2
  refine ⟨ι, g, μ, d, μ1, st, h1, fun ι1 H1 v p1 => ?_⟩
  obtain ⟨a, rfl, z⟩ := seq_stays p1.rl h2 p1.rep
  rcases z with z | z
  · obtain ⟨vs, h3, _⟩ := z ι1 μ1 H1 .refl p1.rl (grd_self d μ1)
    exact ⟨a, vs, rfl, .inl ⟨h3, q ι1 H1 _ p1.ext p1.rl (.enum z)⟩⟩
  · obtain ⟨vs, h3, _⟩ := z ι1 μ1 H1 .refl p1.rl (grd_self d μ1)
    exact ⟨a, vs, rfl, .inr ⟨h3, q ι1 H1 _ p1.ext p1.rl (.enumT z)⟩⟩
theorem tI_rev {e : E} (h : tI K (evI c gl (.rev e)) σ H R) : RT.iRevA K (tD K (evE c gl e)) σ H R := by
  obtain ⟨ι, g, μ, items, gs, μ', st, hm, q⟩ := h
  simp only [evI] at hm
  obtain ⟨⟨d, μ1⟩, h1, hm⟩ := obind hm
  obtain ⟨xs, h2, e2⟩ := omap hm
  simp only [Prod.mk.injEq] at e2
  obtain ⟨rfl, rfl, rfl⟩ := e2
  refine ⟨ι, g, μ, d, μ1, st, h1, fun ι1 H1 v p1 => ?_⟩
  obtain ⟨a, rfl, z⟩ := seq_stays p1.rl h2 p1.rep
  rcases z with z | z
  · obtain ⟨vs, h3, h4⟩ := z ι1 μ1 H1 .refl p1.rl (grd_self d μ1)
    exact ⟨a, vs, rfl, .inl ⟨h3, by rw [← h4.length]; exact q ι1 H1 _ p1.ext p1.rl (.rev z)⟩⟩
  · obtain ⟨vs, h3, h4⟩ := z ι1 μ1 H1 .refl p1.rl (grd_self d μ1)
    exact ⟨a, vs, rfl, .inr ⟨h3, by rw [← h4.length]; exact q ι1 H1 _ p1.ext p1.rl (.revT z)⟩⟩
/-- of a list that is read, of a tuple -/
theorem seq_kind {ι : List Addr} {μ : Sto} {d : D} {v : V} {xs : List S} (r : Rl K ι μ H) (h : seqOf μ d = some xs) (p : RepD K ι H d v) : ∃ a, v = .ref a ∧
    (((tupOf d).isSome = false ∧ ∀ ι2 μ2 H2, Ext ι ι2 H H2 → Rl K ι2 μ2 H2 → gOk (grd d μ) μ2 = true → ∃ vs, SqL K H2 a vs ∧ Reps K ι2 H2 xs vs) ∨
     ((tupOf d).isSome = true ∧ ∀ ι2 μ2 H2, Ext ι ι2 H H2 → Rl K ι2 μ2 H2 → gOk (grd d μ) μ2 = true → ∃ vs, SqT K H2 a vs ∧ Reps K ι2 H2 xs vs)) := by
  cases q : tupOf d with
  | some ys =>
    have e := tupOf_ q
    subst e
    simp only [seqOf, Option.some.injEq] at h
    subst h
    obtain ⟨a, vs, rfl, h1, h2⟩ := rep_tup p
    exact ⟨a, rfl, .inr ⟨rfl, fun ι2 μ2 H2 x r2 _ => ⟨vs, .of (x.tup r h1), h2.ext x r⟩⟩⟩
  | none =>
    have e : seqL μ d = some xs := by
      unfold seqOf at h
      split at h
      · simp [tupOf] at q
      · exact h
    unfold seqL at e
    split at e
    · cases e
      obtain ⟨a, rfl, ha, vs, h1, h2⟩ := id p
      exact ⟨a, rfl, .inl ⟨rfl, fun ι2 μ2 H2 x r2 _ => ⟨vs, .of (x.keep a _ h1 ha), h2.ext x r⟩⟩⟩
    · split at e
      · rename_i ys e'
        cases e
        obtain ⟨a, h1, rfl⟩ := p
        refine ⟨a, rfl, .inl ⟨rfl, fun ι2 μ2 H2 x r2 q => ?_⟩⟩
        obtain ⟨b, h2, vs, h3, h4⟩ := r2.at_ _ _ (grd_ok e' q)
        rw [x.get h1] at h2; cases h2
        exact ⟨vs, .of h3, h4⟩
      · cases e
    · cases e
      obtain ⟨a, vs, rfl, h1, h2⟩ := p
      exact ⟨a, rfl, .inl ⟨rfl, fun ι2 μ2 H2 x r2 _ => ⟨vs, (x.frz r h1).sql, h2.ext x r⟩⟩⟩
    · cases e
theorem tI_zip {e e' : E} (h : tI K (evI c gl (.zip e e')) σ H R) : RZ.iZipA K (tCons (tD K (evE c gl e)) (tCons (tD K (evE c gl e')) tNil)) σ H R := by
  obtain ⟨ι, g, μ, items, gs, μ', st, hm, q⟩ := h
  simp only [evI] at hm
  obtain ⟨⟨d, μ1⟩, h1, hm⟩ := obind hm
  obtain ⟨⟨d', μ2⟩, h2, hm⟩ := obind hm
  split at hm
  · cases hm
  rename_i hk
  obtain ⟨xs, h3, hm⟩ := obind hm
  obtain ⟨ys, h4, e2⟩ := omap hm
  simp only [Prod.mk.injEq] at e2
  obtain ⟨rfl, rfl, rfl⟩ := e2
  have hk' : (tupOf d).isSome = (tupOf d').isSome := by simpa using hk
  refine ⟨ι, g, μ, d, μ1, st, h1, fun ι1 H1 v p1 => ?_⟩
  refine ⟨ι1, g, μ1, d', μ2, st.ext p1.ext p1.rl, h2, fun ι2 H2 v' p2 => ?_⟩
  have s1 := grd_self d μ2
  have s2 := grd_self d' μ2
  have ss : gOk (grd d μ2 ++ grd d' μ2) μ2 = true := by unfold gOk at *; rw [List.all_append, s1, s2]; rfl
  obtain ⟨a, rfl, z⟩ := seq_kind p2.rl h3 (p1.rep.ext p2.ext p1.rl)
  obtain ⟨b, rfl, z'⟩ := seq_kind p2.rl h4 p2.rep
  rcases z with ⟨k1, z⟩ | ⟨k1, z⟩
  · rcases z' with ⟨k2, z'⟩ | ⟨k2, z'⟩
    · obtain ⟨vs, h5, _⟩ := z ι2 μ2 H2 .refl p2.rl s1
      obtain ⟨ws, h6, _⟩ := z' ι2 μ2 H2 .refl p2.rl s2
      exact ⟨a, b, vs, ws, rfl, .inl ⟨h5, h6, q ι2 H2 _ (p1.ext.trans p2.ext) p2.rl (.zip (fun i m h x r q => z i m h x r (gOk_app q).1) fun i m h x r q => z' i m h x r (gOk_app q).2)⟩⟩
    · rw [hk', k2] at k1; cases k1
  · rcases z' with ⟨k2, z'⟩ | ⟨k2, z'⟩
    · rw [hk', k2] at k1; cases k1
    · obtain ⟨vs, h5, _⟩ := z ι2 μ2 H2 .refl p2.rl s1
      obtain ⟨ws, h6, _⟩ := z' ι2 μ2 H2 .refl p2.rl s2
      exact ⟨a, b, vs, ws, rfl, .inr ⟨h5, h6, q ι2 H2 _ (p1.ext.trans p2.ext) p2.rl (.zipT (fun i m h x r q => z i m h x r (gOk_app q).1) fun i m h x r q => z' i m h x r (gOk_app q).2)⟩⟩
theorem b62_ {i : Int} (h : b62 i = true) : -(2 ^ 62) ≤ i ∧ i < 2 ^ 62 := by simpa [b62] using h
theorem tI_rng1 {e : E} (h : tI K (evI c gl (.rng1 e)) σ H R) : iRng1 (tCons (tD K (evE c gl e)) tNil) σ H R := by
  obtain ⟨ι, g, μ, items, gs, μ', st, hm, q⟩ := h
  simp only [evI] at hm
  obtain ⟨⟨d, μ1⟩, h1, hm⟩ := obind hm
  obtain ⟨j, h2, hm⟩ := obind hm
  split at hm
  · rename_i hb
    simp only [Option.some.injEq, Prod.mk.injEq] at hm
    obtain ⟨rfl, rfl, rfl⟩ := hm
    have := intOf_ h2
    dsimp only at this
    subst this
    refine ⟨ι, g, μ, _, μ1, st, h1, fun ι1 H1 v p1 => ?_⟩
    obtain rfl := rep_int p1.rep
    exact ⟨j, rfl, (b62_ hb).1, (b62_ hb).2, q ι1 H1 _ p1.ext p1.rl (.rng (fun _ => Nat.le_refl _) (fun _ _ h => h) fun i H v H' ⟨e1, e2⟩ => ⟨e1, by rw [e2, Int.mul_one]⟩)⟩
  · cases hm
theorem tI_rng2 {e e' : E} (h : tI K (evI c gl (.rng2 e e')) σ H R) : iRng2 (tCons (tD K (evE c gl e)) (tCons (tD K (evE c gl e')) tNil)) σ H R := by
  obtain ⟨ι, g, μ, items, gs, μ', st, hm, q⟩ := h
  simp only [evI] at hm
  obtain ⟨⟨d, μ1⟩, h1, hm⟩ := obind hm
  obtain ⟨⟨d', μ2⟩, h2, hm⟩ := obind hm
  obtain ⟨i, h3, hm⟩ := obind hm
  obtain ⟨j, h4, hm⟩ := obind hm
  split at hm
  · rename_i hb
    rw [Bool.and_eq_true] at hb
    simp only [Option.some.injEq, Prod.mk.injEq] at hm
    obtain ⟨rfl, rfl, rfl⟩ := hm
    have := intOf_ h3
    dsimp only at this
    subst this
    have := intOf_ h4
    dsimp only at this
    subst this
    refine ⟨ι, g, μ, _, μ1, st, h1, fun ι1 H1 v p1 => ⟨ι1, g, μ1, _, μ2, st.ext p1.ext p1.rl, h2, fun ι2 H2 v' p2 => ?_⟩⟩
    obtain rfl := rep_int p1.rep
    obtain rfl := rep_int p2.rep
    exact ⟨i, j, rfl, ⟨(b62_ hb.1).1, (b62_ hb.1).2, (b62_ hb.2).1, (b62_ hb.2).2⟩, q ι2 H2 _ (p1.ext.trans p2.ext) p2.rl (.rng (fun _ => Nat.le_refl _) (fun _ _ h => h) fun i H v H' ⟨e1, e2⟩ => ⟨e1, by rw [e2, Int.mul_one]⟩)⟩
  · cases hm
theorem tI_rngD {e e' : E} (h : tI K (evI c gl (.rngD e e')) σ H R) : iRng3 (tCons (tD K (evE c gl e)) (tCons (tD K (evE c gl e')) (tCons (tC (.int (-1))) tNil))) σ H R := by
  obtain ⟨ι, g, μ, items, gs, μ', st, hm, q⟩ := h
  simp only [evI] at hm
  obtain ⟨⟨d, μ1⟩, h1, hm⟩ := obind hm
  obtain ⟨⟨d', μ2⟩, h2, hm⟩ := obind hm
  obtain ⟨i, h3, hm⟩ := obind hm
  obtain ⟨j, h4, hm⟩ := obind hm
  split at hm
  · rename_i hb
    rw [Bool.and_eq_true] at hb
    simp only [Option.some.injEq, Prod.mk.injEq] at hm
    obtain ⟨rfl, rfl, rfl⟩ := hm
    have := intOf_ h3
    dsimp only at this
    subst this
    have := intOf_ h4
    dsimp only at this
    subst this
    refine ⟨ι, g, μ, _, μ1, st, h1, fun ι1 H1 v p1 => ⟨ι1, g, μ1, _, μ2, st.ext p1.ext p1.rl, h2, fun ι2 H2 v' p2 => ?_⟩⟩
    obtain rfl := rep_int p1.rep
    obtain rfl := rep_int p2.rep
    exact ⟨i, j, -1, _, rfl, .neg (b62_ hb.1).1 (b62_ hb.1).2 (b62_ hb.2).1 (b62_ hb.2).2, q ι2 H2 _ (p1.ext.trans p2.ext) p2.rl (.rng (fun _ => Nat.le_refl _) (fun _ _ h => h) fun i H v H' ⟨e1, e2⟩ => ⟨e1, e2⟩)⟩
  · cases hm
end
end Dv
end
section
set_option Elab.async false
set_option linter.all false
set_option maxRecDepth 100000
/-! Dv12: targets, comprehensions, loops, statements. -/
namespace Dv
open PySem PySem.Spec PyProof.Rows L2
mutual
def Tg.slots : Tg → List Nat
  | .nm i => [i]
  | .tp ts => Tg.slotss ts
def Tg.slotss : List Tg → List Nat
  | [] => []
  | t :: ts => Tg.slots t ++ Tg.slotss ts
end
def gT (K : PySem.W.Frag) (t : Tg) : TG := fun v σ H Q => ∃ ι g μ x g', St_ K ι g μ σ H ∧ Rep K ι H x v ∧ asg t x g = some g' ∧
  ∀ σ', St_ K ι g' μ σ' H → (∀ ks, (∀ i ∈ t.slots, i ∈ ks) → wipe σ' ks = wipe σ ks) → Q σ' H
def gTs (K : PySem.W.Frag) (ts : List Tg) : TGs := fun vs σ H Q => ∃ ι g μ xs g', St_ K ι g μ σ H ∧ Reps K ι H xs vs ∧ asgs ts xs g = some g' ∧
  ∀ σ', St_ K ι g' μ σ' H → (∀ ks, (∀ i ∈ Tg.slotss ts, i ∈ ks) → wipe σ' ks = wipe σ ks) → Q σ' H
theorem PG.of {X : Cx} {e : Expr} {t t' : TG} (h : PG X e t) (i : ∀ v σ H Q, t' v σ H Q → t v σ H Q) : PG X e t' := ⟨fun pins s σ H v u Q I r q => h.run pins s σ H v u Q I r (i v σ H Q q)⟩
theorem PGs.of {X : Cx} {e : List Expr} {t t' : TGs} (h : PGs X e t) (i : ∀ v σ H Q, t' v σ H Q → t v σ H Q) : PGs X e t' := ⟨fun pins s σ H v u Q I r q => h.run pins s σ H v u Q I r (i v σ H Q q)⟩
theorem wipe_get (σ : L2.St) (i : Nat) : ∀ ks : List Nat, (wipe σ ks)[i]? = if i ∈ ks ∧ i < σ.length then some none else σ[i]?
  | [] => by simp [wipe]
  | k :: ks => by
    simp only [wipe, List.getElem?_set, wipe_get σ i ks, wipe_length]
    by_cases hk : k = i
    · subst hk
      by_cases hl : k < σ.length
      · simp [hl]
      · simp [hl]
    · rw [if_neg hk]
      have : (i ∈ k :: ks) ↔ i ∈ ks := by simp [Ne.symm hk]
      simp only [this]
theorem wipe_set (σ : L2.St) {i : Nat} {v : Option V} {ks : List Nat} (h : i ∈ ks) : wipe (σ.set i v) ks = wipe σ ks := by
  apply List.ext_getElem?
  intro j
  rw [wipe_get, wipe_get, List.length_set]
  by_cases hj : j ∈ ks ∧ j < σ.length
  · rw [if_pos hj, if_pos hj]
  · rw [if_neg hj, if_neg hj, List.getElem?_set]
    by_cases e : i = j
    · subst e
      have hl : ¬ i < σ.length := fun z => hj ⟨h, z⟩
      rw [if_pos rfl, if_neg hl, List.getElem?_eq_none (by omega)]
    · rw [if_neg e]
section
variable {K : PySem.W.Frag} {ι ι' : List Addr} {g : Sig} {μ μ' : Sto} {σ : L2.St} {H H' : Hp}
theorem gT_nm {i : Nat} {v : V} {Q : L2.St → Hp → Prop} (h : gT K (.nm i) v σ H Q) : gName i v σ H Q := by
  obtain ⟨ι, g, μ, x, g', st, r, e, q⟩ := h
  simp only [asg, Option.some.injEq] at e
  subst e
  refine q _ (st.set r) fun ks hk => wipe_set σ (hk i (by simp [Tg.slots]))
theorem gT_tp {ts : List Tg} {v : V} {Q : L2.St → Hp → Prop} {n : Nat} (hn : ts.length = n) (h : gT K (.tp ts) v σ H Q) : gTup K n (gTs K ts) v σ H Q := by
  obtain ⟨ι, g, μ, x, g', st, r, e, q⟩ := h
  cases x <;> simp only [asg] at e <;> try cases e
  rename_i xs
  obtain ⟨a, vs, rfl, h1, h2⟩ := r
  refine ⟨a, vs, rfl, .of h1, ?_, ι, g, μ, xs, g', st, h2, e, q⟩
  rw [← h2.length, ← hn]
  exact asgs_len e
where asgs_len : ∀ {ts : List Tg} {xs : List S} {g g' : Sig}, asgs ts xs g = some g' → xs.length = ts.length
  | [], [], _, _, _ => rfl
  | [], _ :: _, _, _, h => by simp [asgs] at h
  | _ :: _, [], _, _, h => by simp [asgs] at h
  | t :: ts, x :: xs, g, g', h => by
    simp only [asgs] at h
    obtain ⟨g1, _, h2⟩ := obind h
    simp [asgs_len h2]
theorem gTs_nil {vs : List V} {Q : L2.St → Hp → Prop} (h : gTs K [] vs σ H Q) : gNil vs σ H Q := by
  obtain ⟨ι, g, μ, xs, g', st, r, e, q⟩ := h
  cases xs with
  | nil =>
    simp only [asgs, Option.some.injEq] at e
    subst e
    exact ⟨r, q σ st fun _ _ => rfl⟩
  | cons => simp [asgs] at e
theorem gTs_cons {t : Tg} {ts : List Tg} {vs : List V} {Q : L2.St → Hp → Prop} (h : gTs K (t :: ts) vs σ H Q) : gCons (gT K t) (gTs K ts) vs σ H Q := by
  obtain ⟨ι, g, μ, xs, g', st, r, e, q⟩ := h
  cases xs with
  | nil => simp [asgs] at e
  | cons x xs =>
    simp only [asgs] at e
    obtain ⟨g1, h1, h2⟩ := obind e
    obtain ⟨v, rs, rfl, r1, r2⟩ := r
    refine ⟨v, rs, rfl, ι, g, μ, x, g1, st, r1, h1, fun σ1 s1 w1 => ⟨ι, g1, μ, xs, g', s1, r2, h2, fun σ2 s2 w2 => q σ2 s2 fun ks hk => ?_⟩⟩
    rw [w2 ks fun i hi => hk i (by simp [Tg.slotss, hi]), w1 ks fun i hi => hk i (by simp [Tg.slotss, hi])]
/-! ### a list that grows outside the store -/
mutual
theorem Rep.updD {D : Addr} {o : HO} (h1 : ∀ vs, H D ≠ some (.tup vs)) (h2 : ∀ ob u, H D ≠ some (.frz ob u)) : ∀ {x : S} {v : V}, Rep K ι H x v → Rep K ι (upd H D o) x v
  | .non, _, h => h
  | .bl _, _, h => h
  | .int _, _, h => h
  | .str _, _, h => h
  | .loc n, v, h => by simp only [Rep] at h ⊢; exact h
  | .tup xs, v, h => by
    simp only [Rep] at h ⊢
    obtain ⟨a, vs, e, q, r⟩ := h
    exact ⟨a, vs, e, by rw [upd_ne (fun z => by subst z; exact h1 _ q)]; exact q, Reps.updD h1 h2 r⟩
  | .rol xs, v, h => by
    simp only [Rep] at h ⊢
    obtain ⟨a, vs, e, q, r⟩ := h
    refine ⟨a, vs, e, ?_, Reps.updD h1 h2 r⟩
    rcases q with ⟨ob, q⟩ | q
    · exact .inl ⟨ob, by rw [upd_ne (fun z => by subst z; exact h2 _ _ q)]; exact q⟩
    · exact .inr q
  | .ktu xs, v, h => by
    simp only [Rep] at h ⊢
    obtain ⟨a, vs, e, q, r⟩ := h
    exact ⟨a, vs, e, q, Reps.updD h1 h2 r⟩
theorem Reps.updD {D : Addr} {o : HO} (h1 : ∀ vs, H D ≠ some (.tup vs)) (h2 : ∀ ob u, H D ≠ some (.frz ob u)) : ∀ {xs : List S} {vs : List V}, Reps K ι H xs vs → Reps K ι (upd H D o) xs vs
  | [], _, h => h
  | x :: xs, vs, h => by
    simp only [Reps] at h ⊢
    obtain ⟨v, q, e, r, t⟩ := h
    exact ⟨v, q, e, Rep.updD h1 h2 r, Reps.updD h1 h2 t⟩
end
theorem Rl.updD {D : Addr} {vs : List V} {o : HO} (r : Rl K ι μ H) (hD : H D = some (.lst vs)) (n : D ∉ ι) : Rl K ι μ (upd H D o) := by
  have h1 : ∀ vs, H D ≠ some (.tup vs) := by rw [hD]; simp
  have h2 : ∀ ob u, H D ≠ some (.frz ob u) := by rw [hD]; simp
  refine ⟨r.len, r.nd, fun k p e => ?_⟩
  obtain ⟨a, e1, e2⟩ := r.at_ k p e
  have ne : a ≠ D := fun z => n (by rw [← z]; exact List.mem_of_getElem? e1)
  refine ⟨a, e1, ?_⟩
  cases p with
  | lst xs => obtain ⟨vs, q1, q2⟩ := e2; exact ⟨vs, by rw [upd_ne ne]; exact q1, q2.updD h1 h2⟩
  | dK xs => obtain ⟨vs, q1, q2⟩ := e2; exact ⟨vs, by rw [upd_ne ne]; exact q1, q2.1, q2.2.updD h1 h2⟩
  | dT xs => obtain ⟨vs, q1, q2⟩ := e2; exact ⟨vs, by rw [upd_ne ne]; exact q1, q2.1, q2.2.updD h1 h2⟩
  | ins => exact e2.elim
theorem Ext.updD {D : Addr} {o : HO} (e : Ext ι ι' H H') (hD : H D = none) : Ext ι ι' H (upd H' D o) :=
  ⟨e.pre, fun a u h n => by rw [upd_ne (fun z => by rw [z, hD] at h; cases h)]; exact e.keep a u h n, e.new⟩
theorem St_.wipe (s : St_ K ι g μ σ H) (ks : List Nat) : St_ K ι (Dv.kill g ks) μ (L2.wipe σ ks) H := by
  refine ⟨s.rl, by rw [kill_len, wipe_length]; exact s.len, fun i x e => ?_⟩
  obtain ⟨e1, e2⟩ := kill_get e
  obtain ⟨v, h1, h2⟩ := s.at_ i x e1
  exact ⟨v, by rw [wipe_get, if_neg (fun z => e2 z.1)]; exact h1, h2⟩
end
/-- a comprehension -/
theorem tLc_of {K : PySem.W.Frag} {mi : Sig → Sto → Option (List S × Grd × Sto)} {mc me : Sig → Sto → Option (D × Sto)} {own : List Nat} {t : Tg} {σ : L2.St} {H : Hp} {Q : VK} (hown : ∀ i ∈ t.slots, i ∈ own)
    (h : tD K (fun g μ => (mi g μ).bind fun p => (lcGo p.2.1 (fun x μ => (asg t x (kill g own)).bind fun g2 => (mc g2 μ).bind fun q => (blOf q.1).bind fun t =>
        if t = true then (me g2 q.2).map fun r => (some (toS r.1 r.2).1, (toS r.1 r.2).2) else some (none, q.2)) p.1 [] p.2.2).map fun r => (.new (.lst r.1), r.2)) σ H Q) :
    tLc (tI K mi) (gT K t) (tT K mc) (tD K me) own σ H Q := by
  obtain ⟨ι, g, μ, d, μ', st, hm, q⟩ := h
  obtain ⟨⟨items, gs, μ1⟩, h1, hm⟩ := obind hm
  obtain ⟨⟨res, μ2⟩, h2, e⟩ := omap hm
  obtain ⟨rfl, rfl⟩ := Prod.mk.inj e
  dsimp only at h2 q
  refine ⟨ι, g, μ, items, gs, μ1, st, h1, fun ι1 H1 J x1 r1 wk D hD => ?_⟩
  have nD1 : D ∉ ι1 := r1.notin hD
  generalize hbody : (fun (x : S) (μ : Sto) => (asg t x (kill g own)).bind fun g2 => (mc g2 μ).bind fun q => (blOf q.1).bind fun t =>
        if t = true then (me g2 q.2).map fun r => (some (toS r.1 r.2).1, (toS r.1 r.2).2) else some (none, q.2)) = body at h2
  refine ⟨fun i m H2 => ∃ ι2 μ2' acc vs, m = items.length - i ∧ i ≤ items.length ∧ Ext ι1 ι2 H1 H2 ∧ D ∉ ι2 ∧ Rl K ι2 μ2' H2 ∧ H2 D = some (.lst vs) ∧ Reps K ι2 H2 acc vs ∧ lcGo gs body (items.drop i) acc μ2' = some (res, μ2), ⟨items.length, ι1, μ1, [], [], rfl, Nat.zero_le _, ext_fresh hD, nD1, r1.fresh hD, upd_same, rfl, h2⟩, ?_⟩
  rintro i m H2 ⟨ι2, μ2', acc, vs, rfl, hi, x2, nD, r2, hDv, ra, go⟩
  by_cases hlt : i < items.length
  · rw [List.drop_eq_getElem_cons hlt] at go
    simp only [lcGo] at go
    split at go
    · rename_i hgs
      obtain ⟨⟨oy, μ3⟩, hb, go⟩ := obind go
      have hx : items[i]? = some items[i] := List.getElem?_eq_getElem hlt
      obtain ⟨jgo, jy⟩ := wk.go ι2 μ2' H2 i _ x2 r2 hgs hx
      refine .inr ⟨jgo, fun H' => ∃ m', m' < items.length - i ∧ ∃ ι2 μ2' acc vs, m' = items.length - (i + 1) ∧ i + 1 ≤ items.length ∧ Ext ι1 ι2 H1 H' ∧ D ∉ ι2 ∧ Rl K ι2 μ2' H' ∧ H' D = some (.lst vs) ∧ Reps K ι2 H' acc vs ∧ lcGo gs body (items.drop (i + 1)) acc μ2' = some (res, μ2), fun H' z => z, fun v H3 hy => ?_⟩
      obtain ⟨x3, r3, rv⟩ := jy v H3 hy
      subst hbody
      obtain ⟨g2, hg, hb1⟩ := obind hb
      obtain ⟨⟨dc, μ4⟩, hc, hb2⟩ := obind hb1
      obtain ⟨tb, ht, hb3⟩ := obind hb2
      clear hb hb1 hb2
      have e0 := blOf_ ht
      dsimp only at e0 hb3 go
      subst e0
      have xx : Ext ι ι2 H H3 := (x1.trans x2).trans x3
      refine ⟨ι2, kill g own, μ2', items[i], g2, (st.ext xx r3).wipe own, rv, hg, fun σ2 s2 w2 => ⟨?_, ?_⟩⟩
      · rw [w2 own hown]
        apply List.ext_getElem?
        intro j
        rw [wipe_get, wipe_get, wipe_length]
        split <;> rfl
      · refine ⟨ι2, g2, μ2', tb, μ4, s2, hc, fun ι4 H4 x4 r4 => ?_⟩
        have nD4 : D ∉ ι4 := fun z => by
          have e3 := x3.keep D _ hDv nD
          have := x4.new D z nD
          rw [e3] at this; cases this
        have hD4 : H4 D = some (.lst vs) := x4.keep D _ (x3.keep D _ hDv nD) nD
        have x14 : Ext ι1 ι4 H1 H4 := (x2.trans x3).trans x4
        have ra4 : Reps K ι4 H4 acc vs := (ra.ext x3 r2).ext x4 r3
        dsimp only
        cases tb with
        | false =>
          rw [if_neg (by decide)] at hb3 ⊢
          simp only [Option.some.injEq, Prod.mk.injEq] at hb3
          obtain ⟨rfl, rfl⟩ := hb3
          exact ⟨_, by omega, ι4, μ4, acc, vs, rfl, hlt, x14, nD4, r4, hD4, ra4, go⟩
        | true =>
          rw [if_pos rfl] at hb3 ⊢
          obtain ⟨⟨dy, μ5⟩, he, e5⟩ := omap hb3
          simp only [Prod.mk.injEq] at e5
          obtain ⟨rfl, rfl⟩ := e5
          dsimp only at go
          refine ⟨ι4, g2, μ4, dy, μ5, s2.ext x4 r4, he, fun ι5 H5 y p5 => ?_⟩
          obtain ⟨ι6, x6, r6, ry⟩ := p5.lay
          have nD6 : D ∉ ι6 := fun z => by
            have := x6.new D z nD4
            rw [hD4] at this; cases this
          have hD6 : H5 D = some (.lst vs) := x6.keep D _ hD4 nD4
          split at go
          · rename_i hz
            have ra6 := ra4.ext x6 r4
            have k1 : ∀ vs, H5 D ≠ some (.tup vs) := by rw [hD6]; simp
            have k2 : ∀ ob u, H5 D ≠ some (.frz ob u) := by rw [hD6]; simp
            refine ⟨vs, hD6, by rw [← ra6.length]; exact hz, _, by omega, ι6, _, acc ++ [_], vs ++ [y], rfl, hlt, (x14.trans x6).updD hD, nD6, r6.updD hD6 nD6, upd_same, ?_, go⟩
            exact (ra6.updD k1 k2).append ⟨y, [], rfl, ry.updD k1 k2, rfl⟩
          · cases go
    · cases go
  · have e : i = items.length := by omega
    subst e
    rw [List.drop_length] at go
    simp only [lcGo] at go
    split at go
    · rename_i hgs
      simp only [Option.some.injEq, Prod.mk.injEq] at go
      obtain ⟨rfl, rfl⟩ := go
      exact .inl ⟨wk.stop ι2 _ H2 x2 r2 hgs, q ι2 H2 _ ⟨x1.trans x2, r2, ⟨D, rfl, nD, vs, hDv, ra⟩, fun _ _ a ha => by cases ha; exact x1.back r1 hD⟩⟩
    · cases go
end Dv
end
section
set_option Elab.async false
set_option linter.all false
set_option maxRecDepth 100000
/-! Dv13: statements. -/
namespace Dv
open PySem PySem.Spec PyProof.Rows L2
/-- what is wanted behind a statement that ends so -/
def SQ (K : PySem.W.Frag) (ι : List Addr) (H : Hp) (r : Fl × Sig × Sto) (E : Ends) : Prop :=
  match r.1 with
  | .nx => ∀ ι' H' σ', Ext ι ι' H H' → St_ K ι' r.2.1 r.2.2 σ' H' → E.nx σ' H'
  | .bk => ∀ ι' H' σ', Ext ι ι' H H' → St_ K ι' r.2.1 r.2.2 σ' H' → E.bk σ' H'
  | .ct => ∀ ι' H' σ', Ext ι ι' H H' → St_ K ι' r.2.1 r.2.2 σ' H' → E.ct σ' H'
  | .ret d => ∀ ι' H' v, Pst K ι H r.2.2 d ι' H' v → E.rt v H'
def sD (K : PySem.W.Frag) (m : Sig → Sto → Rs) : TS := fun E σ H => ∃ ι g μ r, St_ K ι g μ σ H ∧ m g μ = some r ∧ SQ K ι H r E
section
variable {K : PySem.W.Frag} {ι ι' ι2 : List Addr} {g g' : Sig} {μ μ' μ2 : Sto} {σ : L2.St} {H H' H2 : Hp} {E : Ends} {c : Cal} {gl : List S}
theorem SQ.back {r : Fl × Sig × Sto} (e : Ext ι ι2 H H2) (rl : Rl K ι2 μ2 H2) (h : SQ K ι H r E) : SQ K ι2 H2 r E := by
  obtain ⟨f, g, μ⟩ := r
  cases f with
  | nx => exact fun ι' H' σ' x s => h ι' H' σ' (e.trans x) s
  | bk => exact fun ι' H' σ' x s => h ι' H' σ' (e.trans x) s
  | ct => exact fun ι' H' σ' x s => h ι' H' σ' (e.trans x) s
  | ret d => exact fun ι' H' v p => h ι' H' v (p.trans e rl)
theorem sD_skip (h : sD K (run c gl .skip) E σ H) : tNext E σ H := by
  obtain ⟨ι, g, μ, r, st, hm, q⟩ := h
  simp only [run, Option.some.injEq] at hm
  subst hm
  exact q ι H σ .refl st
theorem sD_seq {a b : C} (h : sD K (run c gl (.seq a b)) E σ H) : tSeq (sD K (run c gl a)) (sD K (run c gl b)) E σ H := by
  obtain ⟨ι, g, μ, r, st, hm, q⟩ := h
  simp only [run] at hm
  obtain ⟨⟨f, g1, μ1⟩, h1, hm⟩ := obind hm
  refine ⟨ι, g, μ, _, st, h1, ?_⟩
  cases f with
  | nx => exact fun ι' H' σ' x s => ⟨ι', g1, μ1, r, s, hm, q.back x s.rl⟩
  | bk => simp only [Option.some.injEq] at hm; subst hm; exact q
  | ct => simp only [Option.some.injEq] at hm; subst hm; exact q
  | ret d => simp only [Option.some.injEq] at hm; subst hm; exact q
theorem sD_kill {ks : List Nat} {b : C} (h : sD K (run c gl (.seq (.kill ks) b)) E σ H) : sD K (run c gl b) E σ H := by
  obtain ⟨ι, g, μ, r, st, hm, q⟩ := h
  simp only [run, Option.bind_some] at hm
  exact ⟨ι, kill g ks, μ, r, st.kill ks, hm, q⟩
/-- what stands below n -/
theorem sig_und {n : Nat} : ∀ {g : Sig}, sigBelow n g = true → ∀ (i : Nat) (x : S), g[i]? = some (some x) → x.und n = true
  | [], _, i, x, e => by simp at e
  | none :: r, h, 0, x, e => by simp at e
  | none :: r, h, i + 1, x, e => sig_und (g := r) (by simpa [sigBelow] using h) i x (by simpa using e)
  | some y :: r, h, 0, x, e => by
    simp only [sigBelow, Bool.and_eq_true] at h
    simp at e; subst e; exact h.1
  | some y :: r, h, i + 1, x, e => by
    simp only [sigBelow, Bool.and_eq_true] at h
    exact sig_und (g := r) h.2 i x (by simpa using e)
mutual
theorem Rep.below : ∀ {x : S} {v : V}, Rep K ι H x v → x.und ι.length = true
  | .non, _, _ => rfl
  | .bl _, _, _ => rfl
  | .int _, _, _ => rfl
  | .str _, _, _ => rfl
  | .loc n, _, h => by
    simp only [Rep] at h
    obtain ⟨a, h1, _⟩ := h
    obtain ⟨hn, _⟩ := List.getElem?_eq_some_iff.mp h1
    simpa [S.und] using hn
  | .tup xs, _, h => by
    simp only [Rep] at h
    obtain ⟨a, vs, _, _, h⟩ := h
    exact Reps.below h
  | .rol xs, _, h => by
    simp only [Rep] at h
    obtain ⟨a, vs, _, _, h⟩ := h
    exact Reps.below h
  | .ktu xs, _, h => by
    simp only [Rep] at h
    obtain ⟨a, vs, _, _, h⟩ := h
    exact Reps.below h
theorem Reps.below : ∀ {xs : List S} {vs : List V}, Reps K ι H xs vs → S.unds ι.length xs = true
  | [], _, _ => rfl
  | x :: xs, vs, h => by
    simp only [Reps] at h
    obtain ⟨v, r, _, h1, h2⟩ := h
    simp only [S.unds, Rep.below h1, Reps.below h2, Bool.and_self]
end
theorem RepO.below {a : Addr} {o : Ob} (h : RepO K ι H a o) : o.und ι.length = true := by
  cases o with
  | lst xs => obtain ⟨vs, _, h2⟩ := h; exact h2.below
  | dK kvs => obtain ⟨ws, _, _, h3⟩ := h; show kvBelow _ _ = true; rw [kvUnd]; exact h3.below
  | dT kvs => obtain ⟨ws, _, _, h3⟩ := h; show kvBelow _ _ = true; rw [kvUnd]; exact h3.below
  | ins => exact h.elim
/-- dropping what is new -/
theorem Rl.cutBack (r0 : Rl K ι μ H) (x : Ext ι ι' H H') (r : Rl K ι' μ' H') (gc : GCok μ μ') : ι = ι'.take μ.length ∧ Rl K ι (μ'.take μ.length) H' := by
  obtain ⟨t, e⟩ := x.pre
  have hle : μ.length ≤ μ'.length := by rw [← r0.len, ← r.len, e]; simp
  have e1 : ι = ι'.take μ.length := by rw [e, ← r0.len]; simp
  refine ⟨e1, ⟨by rw [List.length_take, r0.len]; omega, r0.nd, fun n o h => ?_⟩⟩
  rw [List.getElem?_take] at h
  split at h
  · rename_i hn
    obtain ⟨a, h1, h2⟩ := r.at_ n o h
    have h3 : ι[n]? = some a := by
      rw [e, List.getElem?_append_left (by rw [r0.len]; exact hn)] at h1
      exact h1
    refine ⟨a, h3, ?_⟩
    rcases gc n hn o h with h4 | h4
    · -- unchanged: it spoke of old places alone
      obtain ⟨b, h5, h6⟩ := r0.at_ n o h4
      rw [h3] at h5; cases h5
      rw [e1]
      exact h2.und (by rw [← r0.len]; exact h6.below)
    · rw [e1]; exact h2.und h4
  · cases h
/-- a statement, what it laid dropped -/
theorem sD_gc {ks : List Nat} {b : C} (h : sD K (run c gl (.gc ks b)) E σ H) : sD K (run c gl b) E σ H := by
  obtain ⟨ι, g, μ, r, st, hm, q⟩ := h
  simp only [run] at hm
  obtain ⟨⟨f, g1, μ1⟩, h1, hm⟩ := obind hm
  refine ⟨ι, g, μ, _, st, h1, ?_⟩
  have cut : ∀ {ι' H' σ'}, sigBelow μ.length (kill g1 ks) = true → GCok μ μ1 → Ext ι ι' H H' → St_ K ι' g1 μ1 σ' H' → St_ K ι (kill g1 ks) (μ1.take μ.length) σ' H' ∧ Ext ι ι H H' := fun {ι' H' σ'} hs gc x s => by
    obtain ⟨e, r⟩ := st.rl.cutBack x s.rl gc
    refine ⟨⟨r, (s.kill ks).len, fun i y e' => ?_⟩, ⟨[], by simp⟩, x.keep, fun _ h n => absurd h n⟩
    obtain ⟨v, h2, h3⟩ := (s.kill ks).at_ i y e'
    exact ⟨v, h2, by rw [e]; exact h3.und (sig_und hs i y e')⟩
  unfold gcR at hm
  cases f with
  | ret d =>
    simp only [Option.some.injEq] at hm
    subst hm
    exact q
  | nx =>
    dsimp only at hm
    split at hm
    · rename_i hc
      cases hm
      intro ι' H' σ' x s
      obtain ⟨s', x'⟩ := cut hc.1 hc.2 x s
      exact q ι H' σ' x' s'
    · cases hm
  | bk =>
    dsimp only at hm
    split at hm
    · rename_i hc
      cases hm
      intro ι' H' σ' x s
      obtain ⟨s', x'⟩ := cut hc.1 hc.2 x s
      exact q ι H' σ' x' s'
    · cases hm
  | ct =>
    dsimp only at hm
    split at hm
    · rename_i hc
      cases hm
      intro ι' H' σ' x s
      obtain ⟨s', x'⟩ := cut hc.1 hc.2 x s
      exact q ι H' σ' x' s'
    · cases hm
theorem sD_kl {ks : List Nat} {b : C} (h : sD K (run c gl (.kl ks b)) E σ H) : sD K (run c gl b) E σ H := by
  obtain ⟨ι, g, μ, r, st, hm, q⟩ := h
  simp only [run] at hm
  obtain ⟨⟨f, g1, μ1⟩, h1, e⟩ := omap hm
  subst e
  refine ⟨ι, g, μ, _, st, h1, ?_⟩
  cases f with
  | nx => exact fun ι' H' σ' x s => q ι' H' σ' x (s.kill ks)
  | bk => exact fun ι' H' σ' x s => q ι' H' σ' x (s.kill ks)
  | ct => exact fun ι' H' σ' x s => q ι' H' σ' x (s.kill ks)
  | ret d => exact q
/-- the end of a call: what it laid dropped -/
theorem fin_ok {gc : Bool} {d d' : D} {v : V} {μ2 : Sto} (r0 : Rl K ι μ H) (h : fin gc μ d μ' = some (d', μ2)) (p : Pst K ι H μ' d ι' H' v) : ∃ ι2, Pst K ι H μ2 d' ι2 H' v := by
  unfold fin at h
  split at h
  · split at h
    · rename_i hg
      obtain ⟨e, r⟩ := r0.cutBack p.ext p.rl hg
      have x' : Ext ι ι H H' := ⟨⟨[], by simp⟩, p.ext.keep, fun _ h n => absurd h n⟩
      split at h
      · rename_i k
        split at h
        · rename_i hk
          cases h
          exact ⟨ι, x', r, by rw [e]; exact Rep.und p.rep (by simpa [S.und] using hk), fun _ e => nomatch e⟩
        · rename_i hk
          obtain ⟨o, h1, h2⟩ := obind h
          split at h2
          · rename_i hu
            cases h2
            obtain ⟨a, h3, rfl⟩ := p.rep
            obtain ⟨b, h4, h5⟩ := p.rl.at_ _ _ h1
            rw [h3] at h4; cases h4
            have na : a ∉ ι := fun z => by
              rw [e] at z
              obtain ⟨j, hj, ej⟩ := List.getElem_of_mem z
              rw [List.getElem_take] at ej
              rw [List.length_take] at hj
              obtain ⟨hk', ek⟩ := List.getElem?_eq_some_iff.mp h3
              have := (List.getElem_inj p.rl.nd).mp (ej.trans ek.symm)
              omega
            refine ⟨ι, x', r, ⟨a, rfl, na, by rw [e]; exact h5.und hu⟩, fun _ _ b hb => by cases hb; exact p.ext.new a (List.mem_of_getElem? h3) na⟩
          · cases h2
      · split at h
        · rename_i hu
          cases h
          exact ⟨ι, x', r, by rw [e]; exact Rep.und p.rep hu, fun _ e => nomatch e⟩
        · cases h
      · split at h
        · rename_i o hu
          cases h
          obtain ⟨a, rfl, ha, ro⟩ := p.rep
          have na : a ∉ ι := fun z => ha (by obtain ⟨t, e⟩ := p.ext.pre; rw [e]; exact List.mem_append_left _ z)
          exact ⟨ι, x', r, ⟨a, rfl, na, by rw [e]; exact ro.und hu⟩, p.fr⟩
        · cases h
    · cases h
  · cases h; exact ⟨ι', p⟩
theorem sD_asg {i : Nat} {e : Dv.E} (h : sD K (run c gl (.asg i e)) E σ H) : tAsg (tD K (evE c gl e)) (gName i) E σ H := by
  obtain ⟨ι, g, μ, r, st, hm, q⟩ := h
  simp only [run] at hm
  obtain ⟨⟨d, μ1⟩, h1, rfl⟩ := omap hm
  refine ⟨ι, g, μ, d, μ1, st, h1, fun ι1 H1 v p1 => ?_⟩
  obtain ⟨ι2, x2, r2, rv⟩ := p1.lay
  exact q ι2 H1 _ x2 ((st.ext x2 r2).set rv)
theorem sD_asgT {t : Tg} {e : Dv.E} (h : sD K (run c gl (.asgT t e)) E σ H) : tAsg (tD K (evE c gl e)) (gT K t) E σ H := by
  obtain ⟨ι, g, μ, r, st, hm, q⟩ := h
  simp only [run] at hm
  obtain ⟨⟨d, μ1⟩, h1, hm⟩ := obind hm
  refine ⟨ι, g, μ, d, μ1, st, h1, fun ι1 H1 v p1 => ?_⟩
  dsimp only at hm
  split at hm
  · obtain ⟨g2, h2, rfl⟩ := omap hm
    exact ⟨ι1, g, μ1, _, g2, st.ext p1.ext p1.rl, p1.rep, h2, fun σ' s' _ => q ι1 H1 σ' p1.ext s'⟩
  · cases hm
theorem sD_asgL {ts : List Tg} {e : Dv.E} (h : sD K (run c gl (.asgL ts e)) E σ H) : tAsg (tD K (evE c gl e)) (gUnl K ts.length (gTs K ts)) E σ H := by
  obtain ⟨ι, g, μ, r, st, hm, q⟩ := h
  simp only [run] at hm
  obtain ⟨⟨d, μ1⟩, h1, hm⟩ := obind hm
  obtain ⟨xs, h2, hm⟩ := obind hm
  obtain ⟨g2, h3, rfl⟩ := omap hm
  refine ⟨ι, g, μ, d, μ1, st, h1, fun ι1 H1 v p1 => ?_⟩
  obtain ⟨a, vs, rfl, h4, h5⟩ := seqL_of p1.rl h2 p1.rep
  exact ⟨a, vs, rfl, h4, by rw [← h5.length]; exact gT_tp.asgs_len h3, ι1, g, μ1, xs, g2, st.ext p1.ext p1.rl, h5, h3, fun σ' s' _ => q ι1 H1 σ' p1.ext s'⟩
theorem sD_par {i j : Nat} {a b : Dv.E} (h : sD K (run c gl (.par i j a b)) E σ H) : tPar i j (tSs K (evS c gl (.cons a (.cons b .nil)))) E σ H := by
  obtain ⟨ι, g, μ, r, st, hm, q⟩ := h
  simp only [run] at hm
  obtain ⟨⟨xs, μ1⟩, h1, hm⟩ := obind hm
  refine ⟨ι, g, μ, xs, μ1, st, h1, fun ι1 H1 vs x1 r1 rs => ?_⟩
  dsimp only at hm
  split at hm
  · cases hm
    obtain ⟨v, t, rfl, h2, w, t', rfl, h3, rfl⟩ := rs
    exact ⟨v, w, rfl, q ι1 H1 _ x1 (((st.ext x1 r1).set h2).set h3)⟩
  · cases hm
theorem sD_exp {e : Dv.E} (h : sD K (run c gl (.exp e)) E σ H) : tDrop (tD K (evE c gl e)) E σ H := by
  obtain ⟨ι, g, μ, r, st, hm, q⟩ := h
  simp only [run] at hm
  obtain ⟨⟨d, μ1⟩, h1, rfl⟩ := omap hm
  exact ⟨ι, g, μ, d, μ1, st, h1, fun ι1 H1 v p1 => q ι1 H1 _ p1.ext (st.ext p1.ext p1.rl)⟩
theorem sD_ret {e : Dv.E} (h : sD K (run c gl (.ret e)) E σ H) : tRet (tD K (evE c gl e)) E σ H := by
  obtain ⟨ι, g, μ, r, st, hm, q⟩ := h
  simp only [run] at hm
  obtain ⟨⟨d, μ1⟩, h1, rfl⟩ := omap hm
  exact ⟨ι, g, μ, d, μ1, st, h1, q⟩
theorem sD_retN (h : sD K (run c gl .retN) E σ H) : tRetN E σ H := by
  obtain ⟨ι, g, μ, r, st, hm, q⟩ := h
  simp only [run, Option.some.injEq] at hm
  subst hm
  exact q ι H _ (.here st.rl rfl)
theorem sD_brk (h : sD K (run c gl .brk) E σ H) : tBreak E σ H := by
  obtain ⟨ι, g, μ, r, st, hm, q⟩ := h
  simp only [run, Option.some.injEq] at hm
  subst hm
  exact q ι H σ .refl st
theorem sD_cont (h : sD K (run c gl .cont) E σ H) : tCont E σ H := by
  obtain ⟨ι, g, μ, r, st, hm, q⟩ := h
  simp only [run, Option.some.injEq] at hm
  subst hm
  exact q ι H σ .refl st
theorem sD_ife {t : Dv.E} {a b : C} (h : sD K (run c gl (.ife t a b)) E σ H) : tIfS (tT K (evE c gl t)) (sD K (run c gl a)) (sD K (run c gl b)) E σ H := by
  obtain ⟨ι, g, μ, r, st, hm, q⟩ := h
  simp only [run] at hm
  obtain ⟨⟨d, μ1⟩, h1, hm⟩ := obind hm
  obtain ⟨tb, h2, hm⟩ := obind hm
  have e0 := blOf_ h2
  dsimp only at e0
  subst e0
  refine ⟨ι, g, μ, tb, μ1, st, h1, fun ι1 H1 x1 r1 => ?_⟩
  cases tb with
  | true => exact ⟨ι1, g, μ1, r, st.ext x1 r1, hm, q.back x1 r1⟩
  | false => exact ⟨ι1, g, μ1, r, st.ext x1 r1, hm, q.back x1 r1⟩
end
end Dv
end
section
set_option Elab.async false
set_option linter.all false
set_option maxRecDepth 100000
/-! Dv14: loops, stores. -/
namespace Dv
open PySem PySem.Spec PyProof.Rows L2
section
variable {X : Cx}
theorem ipr_iop (op : Bop) {pins : List (Addr × Obj)} {s : Shared} {σ : L2.St} {H : Hp} {v u : Value} {Q : VK} {i j k : Int} (hop : op = .add ∨ op = .sub ∨ op = .mul ∨ op = .bxor ∨ op = .bor) (I : Inv X pins σ H s) (rx : RelV (.int i) v) (ry : RelV (.int j) u) (h : iop op i j = some k) (hs : op = .mul → small64 i = true ∨ small64 j = true) (q : Q (.int k) H) :
    wpAny (model X.prog X.w) X.A (inplaceOp op.py v u) (EP X pins σ Q) X.xe s := by
  rcases hop with rfl | rfl | rfl | rfl | rfl <;> simp only [iop] at h
  · cases h; exact OpR.of iop_add I rx ry ⟨i, j, rfl, rfl, q⟩
  · cases h; exact OpR.of iop_sub I rx ry ⟨i, j, rfl, rfl, q⟩
  · split at h
    · cases h
      rcases hs rfl with hc | hc
      · exact OpR.of iop_mul I rx ry ⟨i, j, rfl, rfl, .inl (small64_ hc), q⟩
      · exact OpR.of iop_mul I rx ry ⟨i, j, rfl, rfl, .inr (small64_ hc), q⟩
    · cases h
  · cases h; exact OpR.of iop_xor I rx ry ⟨i, j, rfl, rfl, q⟩
  · cases h; exact OpR.of iop_or I rx ry ⟨i, j, rfl, rfl, q⟩
def rIp (K : PySem.W.Frag) (op : Bop) : TIp := fun x y H Q => ∃ i j k, x = .int i ∧ y = .int j ∧ iop op i j = some k ∧ Q (.int k) H
theorem ip_ok (op : Bop) (hop : op = .add ∨ op = .sub ∨ op = .bxor ∨ op = .bor) : PIp X op.py (rIp X.K op) := by
  intro pins s σ H x y v u Q I rx ry h
  obtain ⟨i, j, k, rfl, rfl, h, q⟩ := h
  refine ipr_iop op ?_ I rx ry h (fun e => ?_) q
  · rcases hop with z | z | z | z <;> simp [z]
  · rcases hop with z | z | z | z <;> rw [z] at e <;> cases e
/-- o[i] ahead of o[i] op= .. -/
def rGet (K : PySem.W.Frag) : V → V → Hp → VK → Prop := fun o i H Q => ∃ ι μ n b x, Rl K ι μ H ∧ RepD K ι H (.s (.loc n)) o ∧ RepD K ι H b i ∧ idx (.s (.loc n)) b μ = some x ∧ ∀ v, Rep K ι H x v → Q v H
theorem get_all (hu : X.A.units + 1 < cLine) : PGet X (rGet X.K) := by
  intro pins s σ H o i ov iv Q I ro ri h
  obtain ⟨ι, μ, n, b, x, rl, ra, rb, hx, q⟩ := h
  have dict : ∀ {ob : Ob}, dictOf μ (.s (.loc n)) = some ob → (dlook ob b).join = some x → wpAny (model X.prog X.w) X.A (getItem ov iv) (EP X pins σ Q) X.xe s := fun {ob} e h => by
    obtain ⟨p, rfl, r⟩ := dict_at rl e ra
    cases hk : dlook ob b with
    | none => rw [hk] at h; cases h
    | some rr =>
      rw [hk] at h
      obtain ⟨ovv, g, c⟩ := dget_of hk r rb
      have h' : rr = some x := by simpa using h
      rcases c with ⟨rfl, _⟩ | ⟨z', w, e1, rfl, rz⟩
      · cases h'
      · rw [h'] at e1; cases e1
        cases ro
        exact d_getItem hu I g ri fun w' s3 I3 rw' => ⟨w, H, I3, rw', q w rz⟩
  unfold idx at hx
  split at hx
  · rename_i e; cases e
  · rename_i e; cases e
  · split at hx
    · rename_i e; exact dict e hx
    · rename_i e; exact dict e hx
    · obtain ⟨xs, h1, hx⟩ := obind hx
      obtain ⟨k, h2, hx⟩ := obind hx
      have := intOf_ h2
      subst this
      obtain rfl := rep_int rb
      obtain ⟨p, vs, rfl, h3, h4⟩ := seqL_of rl h1 ra
      obtain ⟨w, h5, h6⟩ := at_of h4 hx
      cases ro
      obtain ⟨t, rfl⟩ := ri
      obtain ⟨its, r, pl, hz⟩ := I.list h3
      obtain ⟨j, g1, g2, g3, g4, g5⟩ := atI_get h5
      obtain ⟨w', ew, rw'⟩ := r.get g2
      have hl := r.length
      have hn := line63
      have fin : EP X pins σ Q w' s := ⟨w, H, I, rw', q w h6⟩
      by_cases h0 : 0 ≤ k
      · have hj : k.toNat = j := by
          rw [seqIndex_of h0 g5] at g1
          exact Option.some.inj g1
        exact wpAny_getItem_list pl.isList h0 (by omega) (by rw [hj]; simpa using ew) fin
      · have hj : (k + (its.toArray.size : Int)).toNat = j := by
          rw [seqIndex_neg (by omega) g4] at g1
          rw [List.size_toArray, ← hl]
          exact Option.some.inj g1
        exact wpAny_getItem_list_neg pl.isList (by omega) (by rw [List.size_toArray] <;> omega) (by omega) (by rw [hj]; simpa using ew) fin
end
section
variable {K : PySem.W.Frag} {σ : L2.St} {H : Hp} {Z : Ends} {c : Cal} {gl : List S}
theorem sD_sub {a i e : Dv.E} (h : sD K (run c gl (.sub a i e)) Z σ H) : tAsg (tD K (evE c gl e)) (gSub (tD K (evE c gl a)) (tD K (evE c gl i)) (rSt K setIx)) Z σ H := by
  obtain ⟨ι, g, μ, r, st, hm, q⟩ := h
  simp only [run] at hm
  obtain ⟨⟨d, μ1⟩, h1, hm⟩ := obind hm
  obtain ⟨⟨da, μ2⟩, h2, hm⟩ := obind hm
  obtain ⟨⟨di, μ3⟩, h3, hm⟩ := obind hm
  obtain ⟨μ4, h4, rfl⟩ := omap hm
  refine ⟨ι, g, μ, d, μ1, st, h1, fun ι1 H1 v p1 => ?_⟩
  obtain ⟨ι2, x2, r2, rv⟩ := p1.lay
  refine ⟨ι2, g, _, da, μ2, st.ext x2 r2, h2, fun ι3 H3 va p3 => ?_⟩
  refine ⟨ι3, g, _, di, μ3, (st.ext x2 r2).ext p3.ext p3.rl, h3, fun ι4 H4 vi p4 => ?_⟩
  exact ⟨ι4, μ3, da, di, _, μ4, p4.rl, p3.rep.ext p4.ext p3.rl, p4.rep, (rv.ext p3.ext r2).ext p4.ext p3.rl, h4, fun H5 r5 x5 => q ι4 H5 _ (((x2.trans p3.ext).trans p4.ext).trans x5) ((((st.ext x2 r2).ext p3.ext p3.rl).ext p4.ext p4.rl).ext x5 r5)⟩
theorem sD_aug {i : Nat} {op : Bop} {e : Dv.E} (h : sD K (run c gl (.aug i op e)) Z σ H) : tAug i (tD K (evE c gl e)) (rIp K op) Z σ H := by
  obtain ⟨ι, g, μ, r, st, hm, q⟩ := h
  simp only [run] at hm
  obtain ⟨x, h1, hm⟩ := obind hm
  obtain ⟨⟨d, μ1⟩, h2, hm⟩ := obind hm
  obtain ⟨k, h3, hm⟩ := obind hm
  obtain ⟨j, h4, hm⟩ := obind hm
  obtain ⟨z, h5, rfl⟩ := omap hm
  have e1 := intOf_ h3
  have e2 := intOf_ h4
  dsimp only at e2 q
  cases e1
  subst e2
  obtain ⟨v, h6, h7⟩ := st.get h1
  simp only [Rep] at h7
  subst h7
  refine ⟨_, h6, ι, g, μ, _, μ1, st, h2, fun ι1 H1 y p1 => ?_⟩
  obtain rfl := rep_int p1.rep
  exact ⟨k, j, z, rfl, rfl, h5, q ι1 H1 _ p1.ext ((st.ext p1.ext p1.rl).set (show Rep K ι1 H1 (.int z) (.int z) from rfl))⟩
theorem sD_augS {op : Bop} {a i e : Dv.E} (h : sD K (run c gl (.augS op a i e)) Z σ H) : tAugS (tD K (evE c gl a)) (tD K (evE c gl i)) (tD K (evE c gl e)) (rGet K) (rIp K op) (rSt K setIx) Z σ H := by
  obtain ⟨ι, g, μ, r, st, hm, q⟩ := h
  simp only [run] at hm
  obtain ⟨⟨da, μ1⟩, h1, hm⟩ := obind hm
  obtain ⟨⟨di, μ2⟩, h2, hm⟩ := obind hm
  obtain ⟨x, h3, hm⟩ := obind hm
  obtain ⟨⟨de, μ3⟩, h4, hm⟩ := obind hm
  obtain ⟨k, h5, hm⟩ := obind hm
  obtain ⟨j, h6, hm⟩ := obind hm
  obtain ⟨z, h7, hm⟩ := obind hm
  obtain ⟨μ4, h8, rfl⟩ := omap hm
  have e1 := intOf_ h5
  have e2 := intOf_ h6
  dsimp only at e2 h8 h3 q
  cases e1
  subst e2
  have hl : ∃ n, da = .s (.loc n) := by
    unfold setIx at h8
    split at h8
    · exact ⟨_, rfl⟩
    · cases h8
  obtain ⟨n, rfl⟩ := hl
  refine ⟨ι, g, μ, _, μ1, st, h1, fun ι1 H1 va p1 => ?_⟩
  refine ⟨ι1, g, μ1, di, μ2, st.ext p1.ext p1.rl, h2, fun ι2 H2 vi p2 => ?_⟩
  have pa := p1.rep.ext p2.ext p1.rl
  refine ⟨ι2, μ2, n, di, _, p2.rl, pa, p2.rep, h3, fun v hv => ?_⟩
  simp only [Rep] at hv
  subst hv
  have st2 := (st.ext p1.ext p1.rl).ext p2.ext p2.rl
  refine ⟨ι2, g, μ2, _, μ3, st2, h4, fun ι3 H3 ve p3 => ?_⟩
  obtain rfl := rep_int p3.rep
  exact ⟨k, j, z, rfl, rfl, h7, ι3, μ3, _, di, .int z, μ4, p3.rl, pa.ext p3.ext p2.rl, p2.rep.ext p3.ext p2.rl, rfl, h8, fun H5 r5 x5 => q ι3 H5 _ (((p1.ext.trans p2.ext).trans p3.ext).trans x5) ((st2.ext p3.ext p3.rl).ext x5 r5)⟩
theorem sD_del {a i : Dv.E} (h : sD K (run c gl (.del a i)) Z σ H) : sDDel (tD K (evE c gl a)) (tD K (evE c gl i)) Z σ H := by
  obtain ⟨ι, g, μ, r, st, hm, q⟩ := h
  simp only [run] at hm
  obtain ⟨⟨da, μ1⟩, h1, hm⟩ := obind hm
  obtain ⟨⟨di, μ2⟩, h2, hm⟩ := obind hm
  obtain ⟨μ3, h3, rfl⟩ := omap hm
  refine ⟨ι, g, μ, _, μ1, st, h1, fun ι1 H1 va p1 => ?_⟩
  refine ⟨ι1, g, μ1, di, μ2, st.ext p1.ext p1.rl, h2, fun ι2 H2 vi p2 => ?_⟩
  have pa := p1.rep.ext p2.ext p1.rl
  have st2 := (st.ext p1.ext p1.rl).ext p2.ext p2.rl
  dsimp only at h3 q
  unfold delIx at h3
  split at h3
  · split at h3
    · rename_i kvs e
      obtain ⟨k, h4, h5⟩ := obind h3
      split at h5
      · rename_i hk
        cases h5
        obtain ⟨p, h6, rfl⟩ := pa
        obtain ⟨p', h7, ws, h8, h9⟩ := p2.rl.at_ _ _ e
        rw [h6] at h7; cases h7
        have ei := keyOf_ h4 p2.rep
        subst ei
        obtain ⟨r5, x5⟩ := p2.rl.setK h6 (h9.drop (k := k))
        refine ⟨p, ws, k, rfl, h8, rfl, ?_, q ι2 _ _ ((p1.ext.trans p2.ext).trans x5) (st2.ext x5 r5)⟩
        rcases look_of k h9 with ⟨e1, _⟩ | ⟨x, v, _, e2, _⟩
        · rw [e1] at hk; cases hk
        · rw [e2]; rfl
      · cases h5
    · cases h3
  · cases h3
theorem sD_fr {t : Tg} {it : Dv.It} {b : C} (h : sD K (run c gl (.fr t it b)) Z σ H) : tFor (tI K (evI c gl it)) (gT K t) (sD K (run c gl b)) Z σ H := by
  obtain ⟨ι, g, μ, r, st, hm, q⟩ := h
  simp only [run] at hm
  obtain ⟨⟨items, gs, μ1⟩, h1, go0⟩ := obind hm
  dsimp only at go0
  refine ⟨ι, g, μ, items, gs, μ1, st, h1, fun ι1 H1 J x1 r1 wk => ?_⟩
  refine ⟨fun i m σ2 H2 => ∃ ι2 g2 μ2, m = items.length - i ∧ i ≤ items.length ∧ Ext ι1 ι2 H1 H2 ∧ St_ K ι2 g2 μ2 σ2 H2 ∧ forGo gs (fun x g μ => (asg t x g).bind fun g => run c gl b g μ) (items.drop i) g2 μ2 = some r, ⟨items.length, ι1, g, μ1, rfl, Nat.zero_le _, .refl, st.ext x1 r1, go0⟩, ?_⟩
  rintro i m σ2 H2 ⟨ι2, g2, μ2, rfl, hi, x2, s2, go⟩
  by_cases hlt : i < items.length
  · rw [List.drop_eq_getElem_cons hlt] at go
    simp only [forGo] at go
    split at go
    · rename_i hgs
      obtain ⟨⟨f, g3, μ3⟩, hb, go1⟩ := obind go
      clear go
      have hx : items[i]? = some items[i] := List.getElem?_eq_getElem hlt
      obtain ⟨jgo, jy⟩ := wk.go ι2 μ2 H2 i _ x2 s2.rl hgs hx
      refine .inr ⟨jgo, fun σ' H' => ∃ m', m' < items.length - i ∧ ∃ ι2 g2 μ2, m' = items.length - (i + 1) ∧ i + 1 ≤ items.length ∧ Ext ι1 ι2 H1 H' ∧ St_ K ι2 g2 μ2 σ' H' ∧ forGo gs (fun x g μ => (asg t x g).bind fun g => run c gl b g μ) (items.drop (i + 1)) g2 μ2 = some r, fun σ' H' z => z, fun v H3 hy => ?_⟩
      obtain ⟨x3, r3, rv⟩ := jy v H3 hy
      obtain ⟨g4, hg, hb⟩ := obind hb
      refine ⟨ι2, g2, μ2, items[i], g4, s2.ext x3 r3, rv, hg, fun σ3 s3 _ => ?_⟩
      refine ⟨ι2, g4, μ2, _, s3, hb, ?_⟩
      have x13 : Ext ι1 ι2 H1 H3 := x2.trans x3
      have again : ∀ ι' H' σ', Ext ι2 ι' H3 H' → St_ K ι' g3 μ3 σ' H' → forGo gs (fun x g μ => (asg t x g).bind fun g => run c gl b g μ) (items.drop (i + 1)) g3 μ3 = some r → ∃ m', m' < items.length - i ∧ ∃ ι2 g2 μ2, m' = items.length - (i + 1) ∧ i + 1 ≤ items.length ∧ Ext ι1 ι2 H1 H' ∧ St_ K ι2 g2 μ2 σ' H' ∧ forGo gs (fun x g μ => (asg t x g).bind fun g => run c gl b g μ) (items.drop (i + 1)) g2 μ2 = some r :=
        fun ι' H' σ' x s go => ⟨_, by omega, ι', g3, μ3, rfl, hlt, x13.trans x, s, go⟩
      cases f with
      | nx => exact fun ι' H' σ' x s => again ι' H' σ' x s go1
      | ct => exact fun ι' H' σ' x s => again ι' H' σ' x s go1
      | bk =>
        simp only [Option.some.injEq] at go1
        subst go1
        exact fun ι' H' σ' x s => q ι' H' σ' ((x1.trans x13).trans x) s
      | ret d =>
        simp only [Option.some.injEq] at go1
        subst go1
        exact fun ι' H' v p => q ι' H' v (p.trans (x1.trans x13) r3)
    · cases go
  · have e : i = items.length := by omega
    subst e
    rw [List.drop_length] at go
    simp only [forGo] at go
    split at go
    · rename_i hgs
      simp only [Option.some.injEq] at go
      subst go
      exact .inl ⟨wk.stop ι2 _ H2 x2 s2.rl hgs, q ι2 H2 σ2 (x1.trans x2) s2⟩
    · cases go
theorem while_N {cc : Sig → Sto → Option (Dv.D × Sto)} {bb : Sig → Sto → Rs} {g : Sig} {μ : Sto} {r : Fl × Sig × Sto} (h : whileD cc bb g μ = some r) : ∃ n, whileN cc bb n g μ = some r := by
  refine whileD.partial_correctness cc bb (fun g μ r => ∃ n, whileN cc bb n g μ = some r) (fun f ih g μ r h => ?_) g μ r h
  obtain ⟨p, h1, h⟩ := obind h
  obtain ⟨t, h2, h⟩ := obind h
  split at h
  · rename_i ht
    subst ht
    obtain ⟨q, h3, h⟩ := obind h
    split at h
    · rename_i e
      obtain ⟨n, hn⟩ := ih _ _ _ h
      exact ⟨n + 1, by simp [whileN, h1, h2, h3, e, hn]⟩
    · rename_i e
      obtain ⟨n, hn⟩ := ih _ _ _ h
      exact ⟨n + 1, by simp [whileN, h1, h2, h3, e, hn]⟩
    · rename_i e
      exact ⟨1, by simp [whileN, h1, h2, h3, e]; exact Option.some.inj h⟩
    · rename_i e
      exact ⟨1, by simp [whileN, h1, h2, h3, e]; exact Option.some.inj h⟩
  · rename_i ht
    exact ⟨1, by simp [whileN, h1, h2, ht]; exact Option.some.inj h⟩
theorem sD_whl {t : Dv.E} {b : C} (h : sD K (run c gl (.whl t b)) Z σ H) : tWhile (tT K (evE c gl t)) (sD K (run c gl b)) Z σ H := by
  obtain ⟨ι, g, μ, r, st, hm, q⟩ := h
  simp only [run] at hm
  obtain ⟨n, hn⟩ := while_N hm
  refine ⟨fun m σ2 H2 => ∃ ι2 g2 μ2, Ext ι ι2 H H2 ∧ St_ K ι2 g2 μ2 σ2 H2 ∧ whileN (evE c gl t) (run c gl b) m g2 μ2 = some r, ⟨n, ι, g, μ, .refl, st, hn⟩, ?_⟩
  rintro m σ2 H2 ⟨ι2, g2, μ2, x2, s2, go⟩
  cases m with
  | zero => cases go
  | succ m =>
    simp only [whileN] at go
    obtain ⟨⟨d, μ3⟩, h1, go1⟩ := obind go
    obtain ⟨tb, h2, go2⟩ := obind go1
    have e0 := blOf_ h2
    dsimp only at e0
    subst e0
    clear go go1
    refine ⟨ι2, g2, μ2, tb, μ3, s2, h1, fun ι3 H3 x3 r3 => ?_⟩
    have x03 := x2.trans x3
    cases tb with
    | false =>
      rw [if_neg (by decide)] at go2
      simp only [Option.some.injEq] at go2
      subst go2
      show Z.nx σ2 H3
      exact q ι3 H3 σ2 x03 (s2.ext x3 r3)
    | true =>
      rw [if_pos rfl] at go2
      obtain ⟨⟨f, g4, μ4⟩, h3, go3⟩ := obind go2
      clear go2
      show ∃ N : L2.St → Hp → Prop, _
      refine ⟨fun σ' H' => ∃ m', m' < m + 1 ∧ ∃ ι2 g2 μ2, Ext ι ι2 H H' ∧ St_ K ι2 g2 μ2 σ' H' ∧ whileN (evE c gl t) (run c gl b) m' g2 μ2 = some r, fun _ _ z => z, ι3, g2, μ3, _, s2.ext x3 r3, h3, ?_⟩
      cases f with
      | nx => exact fun ι' H' σ' x s => ⟨m, Nat.lt_succ_self _, ι', g4, μ4, x03.trans x, s, go3⟩
      | ct => exact fun ι' H' σ' x s => ⟨m, Nat.lt_succ_self _, ι', g4, μ4, x03.trans x, s, go3⟩
      | bk =>
        simp only [Option.some.injEq] at go3
        subst go3
        exact fun ι' H' σ' x s => q ι' H' σ' (x03.trans x) s
      | ret d =>
        simp only [Option.some.injEq] at go3
        subst go3
        exact fun ι' H' v p => q ι' H' v (p.trans x03 r3)
end
end Dv
end
section
set_option Elab.async false
set_option linter.all false
set_option maxRecDepth 100000
/-! Dv15: does the intermediate form fit the text. -/
namespace Dv
open PySem PySem.Spec PyProof.Rows L2
structure Ck where
  N : List Str
  sc : Scope
  loc : List Str
  fns : List Str
  free : List Str
  gls : List Str
def visB (sc : Scope) (x : Str) : Bool := match sc.names.lookup x with | some .local => true | some .cell => true | some .free => true | _ => false
def locB (sc : Scope) (x : Str) : Bool := match sc.names.lookup x with | some .local => true | some .cell => true | _ => false
def glB (sc : Scope) (x : Str) : Bool := match sc.names.lookup x with | some .globalImplicit => true | _ => false
def nmB (x : Str) : Bool := !(x == ("__debug__" : Str)) && !(x == ("__classdict__" : Str)) && decide (x ≠ ("__name__" : Str))
def strip1 : Expr → Expr
  | .BoolOp _ [x] _ => x
  | e => e
def plainE : Expr → Bool
  | .Starred .. => false
  | .Slice .. => false
  | .NamedExpr .. => false
  | .Set .. => false
  | _ => true
def isCompE : Expr → Bool
  | .ListComp .. => true
  | .SetComp .. => true
  | .DictComp .. => true
  | _ => false
def plainT : Expr → Bool
  | .UnaryOp .Not _ _ => false
  | .BoolOp .. => false
  | .IfExp .. => false
  | .Compare .. => false
  | _ => true
def baseB : Expr → Bool
  | .Call (.Name _ _) [] [] _ => false
  | _ => true
def storeNames (s : Scope) : List Str := (s.names.filter fun y => match y.2 with | .local => true | .cell => true | _ => false).map (·.1)
def Tg.isTp : Tg → Bool
  | .tp _ => true
  | _ => false
mutual
def ckG (cx : Ck) : Tg → Expr → Bool
  | .nm i, .Name x _ => decide (cx.N[i]? = some x) && cx.loc.contains x
  | .tp ts, .Tuple es _ _ => ckGs cx ts es
  | _, _ => false
def ckGs (cx : Ck) : List Tg → List Expr → Bool
  | [], [] => true
  | t :: ts, e :: es => ckG cx t e && ckGs cx ts es
  | _, _ => false
end
def tyNames (sc : Scope) (free : List Str) : List Ty → List Expr → Bool
  | [], [] => true
  | t :: ts, .Name x _ :: es => decide (x = Str.ofString t.py) && glB sc x && free.contains x && tyNames sc free ts es
  | _, _ => false
def bigG (cx : Ck) (x : Str) : Bool := glB cx.sc x && cx.free.contains x && nmB x
mutual
def ckE : Nat → Ck → E → Expr → Bool
  | 0, _, _, _ => false
  | n + 1, cx, ir, e => match ir, e with
    | .var i, .Name x _ => decide (cx.N[i]? = some x) && visB cx.sc x && nmB x
    | .k (.int z), .Constant (.int z') _ _ => decide (z = z')
    | .k (.bl z), .Constant (.bool z') _ _ => decide (z = z')
    | .k .non, .Constant .none _ _ => true
    | .k (.str z), .Constant (.str z') _ _ => decide (z = z')
    | .gl j, .Name x _ => decide (cx.gls[j]? = some x) && glB cx.sc x && nmB x
    | .bin op a b, .BinOp x o y _ => decide (op.py = o) && ckE n cx a x && ckE n cx b y
    | .neg a, .UnaryOp .USub x _ => ckE n cx a x
    | .cmp op a b, .Compare x [o] [y] _ => decide (op.py = o) && !(behindInMarks o y) && ckE n cx a x && ckE n cx b y
    | .chn o1 o2 a b c, .Compare x [p, q] [y, z] _ => decide (o1.py = p) && decide (o2.py = q) && !(lastMarks [p, q] [y, z]) && ckE n cx a x && ckE n cx b y && ckE n cx c z
    | .and a b, .BoolOp .And (x :: y :: r) p => ckE n cx a x && ckE n cx b (strip1 (.BoolOp .And (y :: r) p))
    | .or a b, .BoolOp .Or (x :: y :: r) p => ckE n cx a x && ckE n cx b (strip1 (.BoolOp .Or (y :: r) p))
    | .not a, .UnaryOp .Not x _ => ckE n cx a x
    | .ife t a b, .IfExp x y z _ => ckT n cx t x && ckE n cx a y && ckE n cx b z
    | .slc a lo hi, .Subscript x (.Slice l h none _) _ => ckE n cx a x && ckO n cx lo l && ckO n cx hi h
    | .ix a b, .Subscript x y _ => plainE y && ckE n cx a x && ckE n cx b y
    | .tup es, .Tuple xs _ _ => ckEs n cx es xs
    | .lst es, .List xs _ => ckEs n cx es xs
    | .dnK, .Dict [] [] _ => true
    | .dnT, .Dict [] [] _ => true
    | .call f _ es, .Call (.Name x _) xs [] _ => decide (cx.fns[f]? = some x) && glB cx.sc x && nmB x && ckEs n cx es xs
    | .bi b es, .Call (.Name x _) (y :: ys) [] _ => decide (x = b.nm) && bigG cx x && ckEs n cx es (y :: ys)
    | .isi a true [t], .Call (.Name x _) [y, .Name z _] [] _ => decide (x = ("isinstance" : Str)) && bigG cx x && plainE y && ckE n cx a y && tyNames cx.sc cx.free [t] [.Name z ⟨0, 0, 0, 0⟩]
    | .isi a false ts, .Call (.Name x _) [y, .Tuple zs _ _] [] _ => decide (x = ("isinstance" : Str)) && bigG cx x && plainE y && ckE n cx a y && tyNames cx.sc cx.free ts zs && !ts.isEmpty && decide (ts.length ≤ 6)
    | .rg1 t a, .Call (.Name x _) [.Call (.Name y _) [z] [] _] [] _ => decide (x = (if t then "tuple" else "list" : Str)) && bigG cx x && decide (y = ("range" : Str)) && bigG cx y && plainE z && ckE n cx a z
    | .rg2 t a b, .Call (.Name x _) [.Call (.Name y _) [z, z'] [] _] [] _ => decide (x = (if t then "tuple" else "list" : Str)) && bigG cx x && decide (y = ("range" : Str)) && bigG cx y && plainE z && plainE z' && ckE n cx a z && ckE n cx b z'
    | .app a b, .Call (.Attribute x m ap) [y] [] p => decide (m = ("append" : Str)) && baseB x && plainE y && (ap.endLine == p.line) && ckE n cx a x && ckE n cx b y
    | .mt m a es, .Call (.Attribute x nm ap) ys [] p => decide (nm = m.nm) && baseB x && (ap.endLine == p.line) && decide (ys.length ≤ 2) && ckE n cx a x && ckEs n cx es ys
    | .lc elt own t it cond, .ListComp xe [⟨tg, iter, ifs, 0⟩] scope _ =>
      let cx' : Ck := { cx with sc := relS scope cx.sc, loc := storeNames scope }
      blkC cx.N cx.sc scope (own.map fun i => (cx.N.getD i Str.empty, i)) && ckI n cx it tg iter && ckG cx' t tg && t.slots.all (fun i => own.contains i) &&
        (match ifs with
          | [] => (match cond with | .k (.bl true) => true | _ => false)
          | [c] => ckT n cx' cond c
          | _ => false) && ckE n cx' elt xe
    | _, _ => false
def ckT : Nat → Ck → E → Expr → Bool
  | 0, _, _, _ => false
  | n + 1, cx, ir, e => match ir, e with
    | .and a b, .BoolOp .And (x :: y :: r) p => ckT n cx a x && ckT n cx b (strip1 (.BoolOp .And (y :: r) p))
    | .or a b, .BoolOp .Or (x :: y :: r) p => ckT n cx a x && ckT n cx b (strip1 (.BoolOp .Or (y :: r) p))
    | .not a, .UnaryOp .Not x _ => ckT n cx a x
    | .tru a, e => plainT e && ckE n cx a e
    | .cmp op a b, .Compare x [o] [y] _ => decide (op.py = o) && !(behindInMarks o y) && ckE n cx a x && ckE n cx b y
    | .chn o1 o2 a b c, .Compare x [p, q] [y, z] _ => decide (o1.py = p) && decide (o2.py = q) && !(lastMarks [p, q] [y, z]) && ckE n cx a x && ckE n cx b y && ckE n cx c z
    | ir, e => plainT e && ckE n cx ir e
def ckO : Nat → Ck → E → Option Expr → Bool
  | 0, _, _, _ => false
  | n + 1, cx, ir, e => match ir, e with
    | .k .non, none => true
    | ir, some e => plainE e && ckE n cx ir e && (match ir with | .k .non => false | _ => true)
    | _, none => false
def ckEs : Nat → Ck → Es → List Expr → Bool
  | 0, _, _, _ => false
  | n + 1, cx, ir, e => match ir, e with
    | .nil, [] => true
    | .cons a r, x :: xs => plainE x && ckE n cx a x && ckEs n cx r xs
    | _, _ => false
def ckI : Nat → Ck → It → Expr → Expr → Bool
  | 0, _, _, _, _ => false
  | n + 1, cx, ir, tg, e => match ir, e with
    | .rng1 a, .Call (.Name x _) [y] [] _ => decide (x = ("range" : Str)) && bigG cx x && plainE y && ckE n cx a y
    | .rng2 a b, .Call (.Name x _) [y, z] [] _ => decide (x = ("range" : Str)) && bigG cx x && plainE y && plainE z && ckE n cx a y && ckE n cx b z
    | .rngD a b, .Call (.Name x _) [y, z, .UnaryOp .USub (.Constant (.int 1) _ _) _] [] _ => decide (x = ("range" : Str)) && bigG cx x && plainE y && plainE z && ckE n cx a y && ckE n cx b z
    | .enum a, .Call (.Name x _) [y] [] _ => decide (x = ("enumerate" : Str)) && bigG cx x && plainE y && (match tg with | .Tuple .. => true | _ => false) && ckE n cx a y
    | .zip a b, .Call (.Name x _) [y, z] [] _ => decide (x = ("zip" : Str)) && bigG cx x && plainE y && plainE z && (match tg with | .Tuple .. => true | _ => false) && ckE n cx a y && ckE n cx b z
    | .rev a, .Call (.Name x _) [y] [] _ => decide (x = ("reversed" : Str)) && bigG cx x && plainE y && ckE n cx a y
    | .seq a, e => plainE e && ckE n cx a e
    | _, _ => false
end
mutual
def ckS : Nat → Ck → C → Stmt → Bool
  | 0, _, _, _ => false
  | n + 1, cx, ir, st => match ir, st with
    | .gc _ b, st => ckS n cx b st
    | .kl _ b, st => ckS n cx b st
    | .skip, .Pass _ => true
    | .asg i e, .Assign [.Name x p] v pos => decide (cx.N[i]? = some x) && cx.loc.contains x && plainE v && ckE n cx e v &&
      (match v with
        | .ListComp _ gs scope vp => (match cx.sc.names.lookup x with
            | some .cell => true
            | some .local => (match gs with | [⟨_, _, _, 0⟩] => true | _ => false) && (p.line == vp.line) && !(scope.names.any fun (m, k) => m == x && (k == .local || k == .cell))
            | _ => false)
        | .SetComp .. => false
        | .DictComp .. => false
        | _ => true)
    | .asgT t e, .Assign [.Tuple es k p] v _ => t.isTp && (match v with | .Tuple .. => false | _ => true) && plainE v && ckG cx t (.Tuple es k p) && ckE n cx e v
    | .asgL ts e, .Assign [.Tuple es _ _] v _ => (match v with | .Tuple .. => false | _ => true) && plainE v && ckGs cx ts es && ckE n cx e v
    | .sub a i e, .Assign [.Subscript x y _] v _ => plainE y && plainE v && ckE n cx a x && ckE n cx i y && ckE n cx e v
    | .aug i op e, .AugAssign (.Name x _) o v _ => (match op with | .add => true | .sub => true | .bxor => true | .bor => true | _ => false) && decide (op.py = o) && decide (cx.N[i]? = some x) && cx.loc.contains x && ckE n cx e v
    | .augS op a i e, .AugAssign (.Subscript x y _) o v _ => (match op with | .add => true | .sub => true | .bxor => true | .bor => true | _ => false) && decide (op.py = o) && plainE y && ckE n cx a x && ckE n cx i y && ckE n cx e v
    | .exp e, .Expr v _ => !(isCompE v) && ckE n cx e v
    | .ret e, .Return (some v) _ => ckE n cx e v
    | .retN, .Return none _ => true
    | .ife t a b, .If x y z _ => ckT n cx t x && ckSs n cx a y && ckSs n cx b z
    | .whl t b, .While x y [] _ => ckT n cx t x && ckSs n cx b y
    | .fr t it b, .For tg iter y [] _ => plainE iter && ckI n cx it tg iter && ckG cx t tg && ckSs n cx b y
    | .brk, .Break _ => true
    | .cont, .Continue _ => true
    | .del a i, .Delete [.Subscript x y _] _ => plainE y && ckE n cx a x && ckE n cx i y
    | _, _ => false
def ckSs : Nat → Ck → C → List Stmt → Bool
  | 0, _, _, _ => false
  | n + 1, cx, ir, sts => match ir, sts with
    | .skip, [] => true
    | .kill _, [] => true
    | .gc _ b, sts => ckSs n cx b sts
    | .kl _ b, sts => ckSs n cx b sts
    | .seq (.kill _) b, sts => ckSs n cx b sts
    | .seq a b, st :: rest => ckS n cx a st && ckSs n cx b rest
    | a, [st] => ckS n cx a st
    | _, _ => false
end
/-- where a body runs -/
structure XOk (k : Nat) (cx : Ck) (cal : Cal) (gl : List S) (X : Cx) : Prop where
  N : X.N = cx.N
  nd : X.N.Nodup
  sc : X.env.scope = cx.sc
  calm : X.calm = true
  kind : X.env.scope.kind = .function
  xe : X.xe = fun _ _ => False
  loc : ∀ x, x ∈ cx.loc → Loc X.env.scope x ∧ (X.fn x = true ∨ X.env.scope.names.lookup x = some .local)
  room : Room k X.A
  free : ∀ x, x ∈ cx.free → X.mg x = none
  gls : ∀ (j : Nat) (x : Str) (s : S), cx.gls[j]? = some x → gl[j]? = some s → ∃ u v, X.mg x = some u ∧ RelV v u ∧ ∀ ι H, Rep X.K ι H s v
  fns : ∀ (f : Nat) (x : Str), cx.fns[f]? = some x → ∃ (a : Addr) (fd : FuncData) (ps : List Str) (m : Nat), X.mg x = some (.ref a) ∧ PySem.W.keepIn X.K (.ref a) = true ∧ Binds X.K fd ps [] ∧ ps.length = m ∧
    (∀ xs μ r, cal f xs μ = some r → xs.length = m) ∧
    FnOk X.prog X.w X.K X.mg X.base CX0 k a fd ps (fun vs H Q E => ∃ ι μ xs d μ', Rl X.K ι μ H ∧ Reps X.K ι H xs vs ∧ cal f xs μ = some (d, μ') ∧ ∀ ι' H' v, Pst X.K ι H μ' d ι' H' v → Q v H')
end Dv
end
section
set_option Elab.async false
set_option linter.all false
set_option maxRecDepth 100000
/-! Dv16: what fits the text tells what it does: expressions. -/
namespace Dv
open PySem PySem.Spec PyProof.Rows L2
theorem star_plain {e : Expr} (h : plainE e = true) (es : List Expr) (env : Env) : starEach (e :: es) env = (false, eval e env) :: starEach es env := by
  cases e <;> first | rfl | cases h
theorem ix_plain {e : Expr} (h : plainE e = true) : ∀ o i, subscripted e false o i = operate [o, i] (getItem o i) := by
  cases e <;> first | (intro _ _; rfl) | cases h
theorem set_plain {e : Expr} (h : plainE e = true) (env : Env) : ∀ x, foldedSetIterable e env x = pure x := by
  cases e <;> first | (intro _; rfl) | cases h
theorem base_plain {e : Expr} (h : baseB e = true) (m : Str) (env : Env) (t : Sem Value) : attributeBase e m env t = t := by
  cases e with
  | Call f as ks p =>
    cases f <;> first | rfl | (cases as <;> first | rfl | (cases ks <;> first | rfl | cases h))
  | _ => rfl
theorem true_plain {e : Expr} (h : plainT e = true) (env : Env) : ∀ whole, isTrue e env whole = (do let v ← whole; standAt e.pos; holding [v] (truthy v)) := by
  cases e with
  | UnaryOp op => cases op <;> first | (intro _; rfl) | cases h
  | _ => first | (intro _; rfl) | cases h
theorem swaps_plain {v : Expr} (h : isCompE v = false) (t : Option Expr) (line : Nat) (env : Env) : swapsWith v t line env = pure false := by
  cases v <;> first | rfl | cases h
def allPlain : List Expr → Bool
  | [] => true
  | e :: es => plainE e && allPlain es
theorem any_plain (env : Env) (pos : Pos) : ∀ {es : List Expr}, allPlain es = true → (backTo pos (starEach es env)).any (·.1) = false
  | [], _ => rfl
  | e :: es, h => by
    simp only [allPlain, Bool.and_eq_true] at h
    rw [star_plain h.1]
    have := any_plain env pos h.2
    unfold backTo at this ⊢
    simp only [List.map_cons, List.any_cons, this, Bool.or_false]
theorem few_plain (env : Env) (pos : Pos) {e : Expr} {es : List Expr} (h : allPlain (e :: es) = true) (hl : (e :: es).length ≤ 2) :
    ((backTo pos (starEach (e :: es) env)).all (fun x => !x.1) && (backToKw pos (keywordEach [] env)).all (fun x => x.1.isSome)
      && decide ((e :: es).length + ([] : List Keyword).length + (if ([] : List Keyword).isEmpty then 0 else 1) < 30)) = true := by
  have h1 : (backTo pos (starEach (e :: es) env)).all (fun x => !x.1) = true := by
    have := any_plain env pos h
    rw [List.all_eq_not_any_not, Bool.not_eq_true']
    simpa using this
  rw [h1]
  simp only [Bool.true_and, Bool.and_eq_true, decide_eq_true_eq]
  refine ⟨by rfl, ?_⟩
  simp at hl ⊢
  omega
theorem ckEs_plain : ∀ {n : Nat} {cx : Ck} {ir : Es} {es : List Expr}, ckEs n cx ir es = true → allPlain es = true
  | 0, _, _, _, h => by simp [ckEs] at h
  | n + 1, cx, ir, es, h => by
    unfold ckEs at h
    split at h
    · rfl
    · simp only [Bool.and_eq_true] at h
      simp only [allPlain, h.1.1, ckEs_plain h.2, Bool.and_self]
    · cases h
theorem nmB_ {x : Str} (h : nmB x = true) : (x == ("__debug__" : Str)) = false ∧ (x == ("__classdict__" : Str)) = false ∧ x ≠ ("__name__" : Str) := by
  simp only [nmB, Bool.and_eq_true, Bool.not_eq_true', decide_eq_true_eq] at h
  exact ⟨h.1.1, h.1.2, h.2⟩
theorem boot_bi (b : Bi) : bootBuiltins b.nm = some b.fn := by cases b <;> decide +kernel
section
variable {k : Nat} {cx : Ck} {cal : Cal} {gl : List S} {X : Cx}
theorem XOk.vis (o : XOk k cx cal gl X) {x : Str} (h : visB cx.sc x = true) : Vis X.env.scope x := by
  rw [o.sc]
  unfold visB at h
  split at h
  · rename_i e; exact .inl e
  · rename_i e; exact .inr (.inl e)
  · rename_i e; exact .inr (.inr e)
  · cases h
theorem XOk.gl' (o : XOk k cx cal gl X) {x : Str} (h : glB cx.sc x = true) : Gl X x := by
  unfold Gl Env.kindOf
  rw [o.sc]
  unfold glB at h
  split at h
  · rename_i e; exact e
  · cases h
theorem XOk.big (o : XOk k cx cal gl X) {x : Str} (h : bigG cx x = true) : Gl X x ∧ X.mg x = none ∧ (x == ("__debug__" : Str)) = false ∧ x ≠ ("__name__" : Str) := by
  simp only [bigG, Bool.and_eq_true, List.contains_iff_mem] at h
  obtain ⟨⟨h1, h2⟩, h3⟩ := h
  exact ⟨o.gl' h1, o.free _ h2, (nmB_ h3).1, (nmB_ h3).2.2⟩
theorem XOk.u64 (o : XOk k cx cal gl X) : X.A.units + 64 < cLine := o.room.units
theorem XOk.u1 (o : XOk k cx cal gl X) : X.A.units + 1 < cLine := by have := o.room.units; omega
/-- within a comprehension -/
theorem XOk.blk (o : XOk k cx cal gl X) {own : List (Str × Nat)} {scope : Scope} (ok : BlkOk X.N X.env.scope scope own) (s : Shared) (H : Hp) (cl : List (Str × Addr)) (C : Addr) (fp : List Addr) :
    XOk k { cx with sc := relS scope cx.sc, loc := storeNames scope } cal gl (X.blk s H scope (compEnvC scope cl C X.env) fp) where
  N := o.N
  nd := o.nd
  sc := by
    show relabel scope X.env = relS scope cx.sc
    rw [← o.sc]; rfl
  calm := o.calm
  kind := ok.kind
  xe := rfl
  loc := fun x hx => by
    have hx' : ∃ kk, (x, kk) ∈ scope.names ∧ (kk = .local ∨ kk = .cell) := by
      unfold storeNames at hx
      obtain ⟨⟨y, kk⟩, h1, h2⟩ := List.mem_map.mp hx
      obtain ⟨h3, h4⟩ := List.mem_filter.mp h1
      cases h2
      refine ⟨kk, h3, ?_⟩
      cases kk <;> simp at h4 ⊢
    obtain ⟨kk, h1, h2⟩ := hx'
    have h3 : scope.names.lookup x = some kk := ok.uniq _ h1
    have h4 : (relS scope X.env.scope).names.lookup x = some kk := lookup_relS_keep (by rcases h2 with rfl | rfl <;> decide) h3
    rcases h2 with rfl | rfl
    · exact ⟨.inl h4, .inr h4⟩
    · exact ⟨.inr h4, .inl (by show (scope.names.lookup x == some .cell) = true; rw [h3]; rfl)⟩
  room := o.room
  free := o.free
  gls := o.gls
  fns := o.fns

/-- a part of a slice -/
def tO (K : PySem.W.Frag) (ir : E) (m : Sig → Sto → Option (D × Sto)) : TO := fun σ H Q => ∃ ι g μ d o μ', St_ K ι g μ σ H ∧ m g μ = some (d, μ') ∧ part ir d = some o ∧ ∀ ι' H', Ext ι ι' H H' → Rl K ι' μ' H' → Q o H'
theorem PO.of {X : Cx} {e : Option Expr} {t t' : TO} (h : PO X e t) (i : ∀ σ H Q, t' σ H Q → t σ H Q) : PO X e t' := ⟨fun pins s σ H Q I q => h.run pins s σ H Q I (i σ H Q q)⟩
theorem PT.of {X : Cx} {e : Expr} {t t' : TT} (h : PT X e t) (i : ∀ σ H Q, t' σ H Q → t σ H Q) : PT X e t' := ⟨fun pins s σ H Q I q => h.run pins s σ H Q I (i σ H Q q)⟩
theorem PA.of {X : Cx} {e : List Expr} {t t' : TA} (h : PA X e t) (i : ∀ σ H Q, t' σ H Q → t σ H Q) : PA X e t' := ⟨fun pos pins s σ H Q I q => h.run pos pins s σ H Q I (i σ H Q q)⟩
theorem tO_none {K : PySem.W.Frag} {σ : L2.St} {H : Hp} {Q : Option Int → Hp → Prop} (h : tO K (.k .non) (evE cal gl (.k .non)) σ H Q) : tNoPart σ H Q := by
  obtain ⟨ι, g, μ, d, o, μ', st, hm, hp, q⟩ := h
  simp only [evE, Option.some.injEq, Prod.mk.injEq] at hm
  obtain ⟨rfl, rfl⟩ := hm
  simp only [part, E.isNone, if_true, Option.some.injEq] at hp
  subst hp
  exact q ι H .refl st.rl
theorem tO_some {K : PySem.W.Frag} {ir : E} {m : Sig → Sto → Option (D × Sto)} {σ : L2.St} {H : Hp} {Q : Option Int → Hp → Prop} (hn : ir.isNone = false) (h : tO K ir m σ H Q) : tPart (tD K m) σ H Q := by
  obtain ⟨ι, g, μ, d, o, μ', st, hm, hp, q⟩ := h
  simp only [part, hn, Bool.false_eq_true, if_false] at hp
  obtain ⟨i, h1, rfl⟩ := omap hp
  have e := intOf_ h1
  subst e
  refine ⟨ι, g, μ, _, μ', st, hm, fun ι1 H1 v p1 => ?_⟩
  obtain rfl := rep_int p1.rep
  exact ⟨i, rfl, q ι1 H1 p1.ext p1.rl⟩
/-! ### the readings, one layer -/
variable {K : PySem.W.Frag} {σ : L2.St} {H : Hp} {Q : VK}
theorem l_var {i : Nat} (h : tD K (evE cal gl (.var i)) σ H Q) : tVar i σ H Q := by
  obtain ⟨ι, g, μ, d, μ', st, hm, q⟩ := h
  simp only [evE] at hm
  obtain ⟨x, h1, e⟩ := omap hm
  obtain ⟨rfl, rfl⟩ := Prod.mk.inj e
  obtain ⟨v, h2, h3⟩ := st.get h1
  exact ⟨v, h2, q ι H v (.here st.rl h3)⟩
theorem l_k {s : S} {v : V} (hv : ∀ ι H, Rep K ι H s v) (h : tD K (evE cal gl (.k s)) σ H Q) : tC v σ H Q := by
  obtain ⟨ι, g, μ, d, μ', st, hm, q⟩ := h
  simp only [evE, Option.some.injEq, Prod.mk.injEq] at hm
  obtain ⟨rfl, rfl⟩ := hm
  exact q ι H v (.here st.rl (hv ι H))
theorem l_neg {a : E} (h : tD K (evE cal gl (.neg a)) σ H Q) : tUn (rU fun i => .int (-i)) (tD K (evE cal gl a)) σ H Q := by
  obtain ⟨ι, g, μ, d, μ', st, hm, q⟩ := h
  simp only [evE] at hm
  obtain ⟨⟨a, μ1⟩, h1, hm⟩ := obind hm
  obtain ⟨i, h2, e⟩ := omap hm
  obtain ⟨rfl, rfl⟩ := Prod.mk.inj e
  have e0 := intOf_ h2
  dsimp only at e0
  subst e0
  refine ⟨ι, g, μ, _, μ1, st, h1, fun ι1 H1 v p1 => ?_⟩
  obtain rfl := rep_int p1.rep
  exact ⟨i, rfl, q ι1 H1 _ ((Pst.here p1.rl (show Rep K ι1 H1 (.int (-i)) (.int (-i)) from rfl)).trans p1.ext p1.rl)⟩
theorem l_chn {o1 o2 : Cop} {a b e : E} (h : tD K (evE cal gl (.chn o1 o2 a b e)) σ H Q) : tChain (rC2 K (cop o1)) (rC2 K (cop o2)) (tD K (evE cal gl a)) (tD K (evE cal gl b)) (tD K (evE cal gl e)) σ H Q := by
  obtain ⟨ι, g, μ, d, μ', st, hm, q⟩ := h
  simp only [evE] at hm
  obtain ⟨⟨da, μ1⟩, h1, hm⟩ := obind hm
  obtain ⟨⟨db, μ2⟩, h2, hm⟩ := obind hm
  obtain ⟨t, h3, hm⟩ := obind hm
  dsimp only at hm h3
  refine ⟨ι, g, μ, da, μ1, st, h1, fun ι1 H1 x p1 => ?_⟩
  refine ⟨ι1, g, μ1, db, μ2, st.ext p1.ext p1.rl, h2, fun ι2 H2 y p2 => ?_⟩
  have st2 := (st.ext p1.ext p1.rl).ext p2.ext p2.rl
  refine ⟨ι2, μ2, da, db, t, p2.rl, p1.rep.ext p2.ext p1.rl, p2.rep, h3, t, rfl, ?_⟩
  cases t with
  | false =>
    rw [if_neg (by decide)] at hm ⊢
    simp only [Option.some.injEq, Prod.mk.injEq] at hm
    obtain ⟨rfl, rfl⟩ := hm
    exact q ι2 H2 _ (((Pst.here p2.rl (show Rep K ι2 H2 (.bl false) (.bl false) from rfl)).trans p2.ext p2.rl).trans p1.ext p1.rl)
  | true =>
    rw [if_pos rfl] at hm ⊢
    obtain ⟨⟨de, μ3⟩, h4, hm⟩ := obind hm
    obtain ⟨t', h5, e5⟩ := omap hm
    obtain ⟨rfl, rfl⟩ := Prod.mk.inj e5
    refine ⟨ι2, g, μ2, de, μ3, st2, h4, fun ι3 H3 z p3 => ?_⟩
    exact ⟨ι3, μ3, db, de, t', p3.rl, p2.rep.ext p3.ext p2.rl, p3.rep, h5, q ι3 H3 _ ((((Pst.here p3.rl (show Rep K ι3 H3 (.bl t') (.bl t') from rfl)).trans p3.ext p3.rl).trans p2.ext p2.rl).trans p1.ext p1.rl)⟩
theorem l_and {a b : E} (h : tD K (evE cal gl (.and a b)) σ H Q) : tAndV (tD K (evE cal gl a)) (tD K (evE cal gl b)) σ H Q := by
  obtain ⟨ι, g, μ, d, μ', st, hm, q⟩ := h
  simp only [evE] at hm
  obtain ⟨⟨da, μ1⟩, h1, hm1⟩ := obind hm
  obtain ⟨t, h2, hm2⟩ := obind hm1
  clear hm hm1
  have e0 := blOf_ h2
  dsimp only at e0 hm2
  subst e0
  refine ⟨ι, g, μ, _, μ1, st, h1, fun ι1 H1 x p1 => ⟨t, rep_bl p1.rep, ?_⟩⟩
  cases t with
  | true =>
    rw [if_pos rfl] at hm2 ⊢
    exact ⟨ι1, g, μ1, d, μ', st.ext p1.ext p1.rl, hm2, fun ι2 H2 v p2 => q ι2 H2 v (p2.trans p1.ext p1.rl)⟩
  | false =>
    rw [if_neg (by decide)] at hm2 ⊢
    simp only [Option.some.injEq, Prod.mk.injEq] at hm2
    obtain ⟨rfl, rfl⟩ := hm2
    exact q ι1 H1 _ ((Pst.here p1.rl (show Rep K ι1 H1 (.bl false) (.bl false) from rfl)).trans p1.ext p1.rl)
theorem l_or {a b : E} (h : tD K (evE cal gl (.or a b)) σ H Q) : tOrV (tD K (evE cal gl a)) (tD K (evE cal gl b)) σ H Q := by
  obtain ⟨ι, g, μ, d, μ', st, hm, q⟩ := h
  simp only [evE] at hm
  obtain ⟨⟨da, μ1⟩, h1, hm1⟩ := obind hm
  obtain ⟨t, h2, hm2⟩ := obind hm1
  clear hm hm1
  have e0 := blOf_ h2
  dsimp only at e0 hm2
  subst e0
  refine ⟨ι, g, μ, _, μ1, st, h1, fun ι1 H1 x p1 => ⟨t, rep_bl p1.rep, ?_⟩⟩
  cases t with
  | false =>
    rw [if_neg (by decide)] at hm2 ⊢
    exact ⟨ι1, g, μ1, d, μ', st.ext p1.ext p1.rl, hm2, fun ι2 H2 v p2 => q ι2 H2 v (p2.trans p1.ext p1.rl)⟩
  | true =>
    rw [if_pos rfl] at hm2 ⊢
    simp only [Option.some.injEq, Prod.mk.injEq] at hm2
    obtain ⟨rfl, rfl⟩ := hm2
    exact q ι1 H1 _ ((Pst.here p1.rl (show Rep K ι1 H1 (.bl true) (.bl true) from rfl)).trans p1.ext p1.rl)
theorem l_not {a : E} (h : tD K (evE cal gl (.not a)) σ H Q) : tNotV (tD K (evE cal gl a)) σ H Q := by
  obtain ⟨ι, g, μ, d, μ', st, hm, q⟩ := h
  simp only [evE] at hm
  obtain ⟨⟨da, μ1⟩, h1, hm⟩ := obind hm
  obtain ⟨t, h2, e⟩ := omap hm
  obtain ⟨rfl, rfl⟩ := Prod.mk.inj e
  have e0 := blOf_ h2
  dsimp only at e0
  subst e0
  exact ⟨ι, g, μ, _, μ1, st, h1, fun ι1 H1 x p1 => ⟨t, rep_bl p1.rep, q ι1 H1 _ ((Pst.here p1.rl (show Rep K ι1 H1 (.bl (!t)) (.bl (!t)) from rfl)).trans p1.ext p1.rl)⟩⟩
theorem l_ife {t a b : E} (h : tD K (evE cal gl (.ife t a b)) σ H Q) : tIf (tT K (evE cal gl t)) (tD K (evE cal gl a)) (tD K (evE cal gl b)) σ H Q := by
  obtain ⟨ι, g, μ, d, μ', st, hm, q⟩ := h
  simp only [evE] at hm
  obtain ⟨⟨da, μ1⟩, h1, hm1⟩ := obind hm
  obtain ⟨tb, h2, hm2⟩ := obind hm1
  clear hm hm1
  have e0 := blOf_ h2
  dsimp only at e0 hm2
  subst e0
  refine ⟨ι, g, μ, tb, μ1, st, h1, fun ι1 H1 x1 r1 => ?_⟩
  cases tb with
  | true =>
    rw [if_pos rfl] at hm2 ⊢
    exact ⟨ι1, g, μ1, d, μ', st.ext x1 r1, hm2, fun ι2 H2 v p2 => q ι2 H2 v (p2.trans x1 r1)⟩
  | false =>
    rw [if_neg (by decide)] at hm2 ⊢
    exact ⟨ι1, g, μ1, d, μ', st.ext x1 r1, hm2, fun ι2 H2 v p2 => q ι2 H2 v (p2.trans x1 r1)⟩
theorem l_slc {a lo hi : E} (h : tD K (evE cal gl (.slc a lo hi)) σ H Q) : tSl (fun x lo hi H Q => ∃ ι μ a d, Rl K ι μ H ∧ RepD K ι H a x ∧ slc a lo hi μ = some d ∧ ∀ ι' H' v, Pst K ι H μ d ι' H' v → Q v H') (tD K (evE cal gl a)) (tO K lo (evE cal gl lo)) (tO K hi (evE cal gl hi)) σ H Q := by
  obtain ⟨ι, g, μ, d, μ', st, hm, q⟩ := h
  simp only [evE] at hm
  obtain ⟨⟨da, μ1⟩, h1, hm⟩ := obind hm
  obtain ⟨⟨dl, μ2⟩, h2, hm⟩ := obind hm
  obtain ⟨⟨dh, μ3⟩, h3, hm⟩ := obind hm
  obtain ⟨ol, h4, hm⟩ := obind hm
  obtain ⟨oh, h5, hm⟩ := obind hm
  obtain ⟨d', h6, e⟩ := omap hm
  obtain ⟨rfl, rfl⟩ := Prod.mk.inj e
  refine ⟨ι, g, μ, da, μ1, st, h1, fun ι1 H1 x p1 => ?_⟩
  refine ⟨ι1, g, μ1, dl, ol, μ2, st.ext p1.ext p1.rl, h2, h4, fun ι2 H2 x2 r2 => ?_⟩
  refine ⟨ι2, g, μ2, dh, oh, μ3, (st.ext p1.ext p1.rl).ext x2 r2, h3, h5, fun ι3 H3 x3 r3 => ?_⟩
  exact ⟨ι3, μ3, da, d', r3, (p1.rep.ext x2 p1.rl).ext x3 r2, h6, fun ι4 H4 v p4 => q ι4 H4 v (((p4.trans x3 r3).trans x2 r2).trans p1.ext p1.rl)⟩
theorem l_tup {es : Es} (h : tD K (evE cal gl (.tup es)) σ H Q) : tTup (tSs K (evS cal gl es)) σ H Q := by
  obtain ⟨ι, g, μ, d, μ', st, hm, q⟩ := h
  simp only [evE] at hm
  obtain ⟨⟨xs, μ1⟩, h1, hm⟩ := obind hm
  split at hm
  · rename_i hz
    simp only [Option.some.injEq, Prod.mk.injEq] at hm
    obtain ⟨rfl, rfl⟩ := hm
    exact ⟨ι, g, μ, xs, μ1, st, h1, fun ι1 H1 vs x1 r1 rs => ⟨by rw [← rs.length]; exact hz, fun p hp => q _ _ _ ((Pst.tup r1 hp rs).trans x1 r1)⟩⟩
  · cases hm
theorem l_lst {es : Es} (h : tD K (evE cal gl (.lst es)) σ H Q) : tLst (tSs K (evS cal gl es)) σ H Q := by
  obtain ⟨ι, g, μ, d, μ', st, hm, q⟩ := h
  simp only [evE] at hm
  obtain ⟨⟨xs, μ1⟩, h1, hm⟩ := obind hm
  split at hm
  · rename_i hz
    simp only [Option.some.injEq, Prod.mk.injEq] at hm
    obtain ⟨rfl, rfl⟩ := hm
    exact ⟨ι, g, μ, xs, μ1, st, h1, fun ι1 H1 vs x1 r1 rs => ⟨by rw [← rs.length]; exact hz, fun p hp => q _ _ _ ((Pst.lst r1 hp rs).trans x1 r1)⟩⟩
  · cases hm
theorem l_dnK (h : tD K (evE cal gl .dnK) σ H Q) : tDNewK σ H Q := by
  obtain ⟨ι, g, μ, d, μ', st, hm, q⟩ := h
  simp only [evE, Option.some.injEq, Prod.mk.injEq] at hm
  obtain ⟨rfl, rfl⟩ := hm
  exact fun p hp => q _ _ _ (.new st.rl hp ⟨[], upd_same, rfl, rfl⟩)
theorem l_dnT (h : tD K (evE cal gl .dnT) σ H Q) : tDNewT σ H Q := by
  obtain ⟨ι, g, μ, d, μ', st, hm, q⟩ := h
  simp only [evE, Option.some.injEq, Prod.mk.injEq] at hm
  obtain ⟨rfl, rfl⟩ := hm
  exact fun p hp => q _ _ _ (.new st.rl hp ⟨[], upd_same, rfl, rfl⟩)
/-- what a def is promised to do -/
def spC (K : PySem.W.Frag) (m : List S → Sto → Option (D × Sto)) : Sp := fun vs H Q E => ∃ ι μ xs d μ', Rl K ι μ H ∧ Reps K ι H xs vs ∧ m xs μ = some (d, μ') ∧ ∀ ι' H' v, Pst K ι H μ' d ι' H' v → Q v H'
theorem l_call {f : Nat} {gc : Bool} {es : Es} (h : tD K (evE cal gl (.call f gc es)) σ H Q) : tCall (spC K (cal f)) [] E0 (tSs K (evS cal gl es)) σ H Q := by
  obtain ⟨ι, g, μ, d, μ', st, hm, q⟩ := h
  simp only [evE] at hm
  obtain ⟨⟨xs, μ1⟩, h1, hm⟩ := obind hm
  obtain ⟨⟨d1, μ2⟩, h2, hm⟩ := obind hm
  refine ⟨ι, g, μ, xs, μ1, st, h1, fun ι1 H1 vs x1 r1 rs => ?_⟩
  show spC K (cal f) (vs ++ []) H1 Q E0
  rw [List.append_nil]
  refine ⟨ι1, μ1, xs, d1, μ2, r1, rs, h2, fun ι2 H2 v p2 => ?_⟩
  obtain ⟨ι3, p3⟩ := fin_ok st.rl hm (p2.trans x1 r1)
  exact q ι3 H2 v p3
theorem l_mt {m : Mt} {a : E} {es : Es} (h : tD K (evE cal gl (.mt m a es)) σ H Q) : tBM K m.T (rM K (mtd m)) (tD K (evE cal gl a)) (tDs K (evD cal gl es)) σ H Q := by
  obtain ⟨ι, g, μ, d, μ', st, hm, q⟩ := h
  simp only [evE] at hm
  obtain ⟨⟨da, μ1⟩, h1, hm⟩ := obind hm
  split at hm
  · rename_i hr
    obtain ⟨⟨ds, μ2⟩, h2, hm⟩ := obind hm
    refine ⟨ι, g, μ, da, μ1, st, h1, fun ι1 H1 x p1 => ⟨rcv_ty p1.rl hr p1.rep, ?_⟩⟩
    refine ⟨ι1, g, μ1, ds, μ2, st.ext p1.ext p1.rl, h2, fun ι2 H2 vs x2 r2 rs => ?_⟩
    exact ⟨ι2, μ2, da, ds, d, μ', r2, p1.rep.ext x2 p1.rl, rs, hm, fun ι3 H3 v p3 => q ι3 H3 v ((p3.trans x2 r2).trans p1.ext p1.rl)⟩
  · cases hm
theorem l_mt0 {m : Mt} {a : E} (h : tD K (evE cal gl (.mt m a .nil)) σ H Q) : tBM0 K m.T (rM K (mtd m)) (tD K (evE cal gl a)) σ H Q := by
  obtain ⟨ι, g, μ, d, μ', st, hm, q⟩ := h
  simp only [evE] at hm
  obtain ⟨⟨da, μ1⟩, h1, hm⟩ := obind hm
  split at hm
  · rename_i hr
    simp only [evD, Option.bind_some] at hm
    refine ⟨ι, g, μ, da, μ1, st, h1, fun ι1 H1 x p1 => ⟨rcv_ty p1.rl hr p1.rep, ?_⟩⟩
    exact ⟨ι1, μ1, da, [], d, μ', p1.rl, p1.rep, rfl, hm, fun ι3 H3 v p3 => q ι3 H3 v (p3.trans p1.ext p1.rl)⟩
  · cases hm
theorem l_rg1 {t : Bool} {a : E} (h : tD K (evE cal gl (.rg1 t a)) σ H Q) : (if t then tTupRg (tRg1 (tD K (evE cal gl a))) else tLstRg (tRg1 (tD K (evE cal gl a)))) σ H Q := by
  obtain ⟨ι, g, μ, d, μ', st, hm, q⟩ := h
  simp only [evE] at hm
  obtain ⟨⟨da, μ1⟩, h1, hm⟩ := obind hm
  obtain ⟨j, h2, hm⟩ := obind hm
  obtain ⟨d', h3, e⟩ := omap hm
  obtain ⟨rfl, rfl⟩ := Prod.mk.inj e
  have e0 := intOf_ h2
  dsimp only at e0
  subst e0
  have fin : tRg1 (tD K (evE cal gl a)) σ H fun a b H1 => RgOk a b ∧ ∀ p, H1 p = none → Q (.ref p) (upd H1 p (if t then .tup (rgV a b) else .lst (rgV a b))) := by
    refine ⟨ι, g, μ, _, μ1, st, h1, fun ι1 H1 x p1 => ⟨j, rep_int p1.rep, ?_⟩⟩
    exact rg_of p1.rl h3 fun ι2 H2 v p2 => q ι2 H2 v (p2.trans p1.ext p1.rl)
  cases t <;> exact fin
theorem l_rg2 {t : Bool} {a b : E} (h : tD K (evE cal gl (.rg2 t a b)) σ H Q) : (if t then tTupRg (tRg2 (tD K (evE cal gl a)) (tD K (evE cal gl b))) else tLstRg (tRg2 (tD K (evE cal gl a)) (tD K (evE cal gl b)))) σ H Q := by
  obtain ⟨ι, g, μ, d, μ', st, hm, q⟩ := h
  simp only [evE] at hm
  obtain ⟨⟨da, μ1⟩, h1, hm⟩ := obind hm
  obtain ⟨⟨db, μ2⟩, h2, hm⟩ := obind hm
  obtain ⟨i, h3, hm⟩ := obind hm
  obtain ⟨j, h4, hm⟩ := obind hm
  obtain ⟨d', h5, e⟩ := omap hm
  obtain ⟨rfl, rfl⟩ := Prod.mk.inj e
  have e0 := intOf_ h3
  dsimp only at e0
  subst e0
  have e0 := intOf_ h4
  dsimp only at e0
  subst e0
  have fin : tRg2 (tD K (evE cal gl a)) (tD K (evE cal gl b)) σ H fun a b H1 => RgOk a b ∧ ∀ p, H1 p = none → Q (.ref p) (upd H1 p (if t then .tup (rgV a b) else .lst (rgV a b))) := by
    refine ⟨ι, g, μ, _, μ1, st, h1, fun ι1 H1 x p1 => ⟨ι1, g, μ1, _, μ2, st.ext p1.ext p1.rl, h2, fun ι2 H2 y p2 => ⟨i, j, rep_int p1.rep, rep_int p2.rep, ?_⟩⟩⟩
    exact rg_of p2.rl h5 fun ι3 H3 v p3 => q ι3 H3 v ((p3.trans p2.ext p2.rl).trans p1.ext p1.rl)
  cases t <;> exact fin
end
end Dv
end
section
set_option Elab.async false
set_option linter.all false
set_option maxRecDepth 100000
set_option maxHeartbeats 4000000
/-! Dv17: what fits the text tells what it does. -/
namespace Dv
open PySem PySem.Spec PyProof.Rows L2
section
variable {cal : Cal} {gl : List S} {K : PySem.W.Frag} {σ : L2.St} {H : Hp}
theorem l_andT {a b : E} {Q : Bool → Hp → Prop} (h : tT K (evE cal gl (.and a b)) σ H Q) : tAnd (tT K (evE cal gl a)) (tT K (evE cal gl b)) σ H Q := by
  obtain ⟨ι, g, μ, d, μ', st, hm, q⟩ := h
  simp only [evE] at hm
  obtain ⟨⟨da, μ1⟩, h1, hm1⟩ := obind hm
  obtain ⟨t, h2, hm2⟩ := obind hm1
  clear hm hm1
  have e0 := blOf_ h2
  dsimp only at e0 hm2
  subst e0
  refine ⟨ι, g, μ, t, μ1, st, h1, fun ι1 H1 x1 r1 => ?_⟩
  cases t with
  | true =>
    rw [if_pos rfl] at hm2 ⊢
    exact ⟨ι1, g, μ1, d, μ', st.ext x1 r1, hm2, fun ι2 H2 x2 r2 => q ι2 H2 (x1.trans x2) r2⟩
  | false =>
    rw [if_neg (by decide)] at hm2 ⊢
    simp only [Option.some.injEq, Prod.mk.injEq, D.s.injEq, S.bl.injEq] at hm2
    obtain ⟨rfl, rfl⟩ := hm2
    exact q ι1 H1 x1 r1
theorem l_orT {a b : E} {Q : Bool → Hp → Prop} (h : tT K (evE cal gl (.or a b)) σ H Q) : tOr (tT K (evE cal gl a)) (tT K (evE cal gl b)) σ H Q := by
  obtain ⟨ι, g, μ, d, μ', st, hm, q⟩ := h
  simp only [evE] at hm
  obtain ⟨⟨da, μ1⟩, h1, hm1⟩ := obind hm
  obtain ⟨t, h2, hm2⟩ := obind hm1
  clear hm hm1
  have e0 := blOf_ h2
  dsimp only at e0 hm2
  subst e0
  refine ⟨ι, g, μ, t, μ1, st, h1, fun ι1 H1 x1 r1 => ?_⟩
  cases t with
  | false =>
    rw [if_neg (by decide)] at hm2 ⊢
    exact ⟨ι1, g, μ1, d, μ', st.ext x1 r1, hm2, fun ι2 H2 x2 r2 => q ι2 H2 (x1.trans x2) r2⟩
  | true =>
    rw [if_pos rfl] at hm2 ⊢
    simp only [Option.some.injEq, Prod.mk.injEq, D.s.injEq, S.bl.injEq] at hm2
    obtain ⟨rfl, rfl⟩ := hm2
    exact q ι1 H1 x1 r1
theorem l_notT {a : E} {Q : Bool → Hp → Prop} (h : tT K (evE cal gl (.not a)) σ H Q) : tNot (tT K (evE cal gl a)) σ H Q := by
  obtain ⟨ι, g, μ, d, μ', st, hm, q⟩ := h
  simp only [evE] at hm
  obtain ⟨⟨da, μ1⟩, h1, hm1⟩ := obind hm
  obtain ⟨t, h2, e⟩ := omap hm1
  simp only [Prod.mk.injEq, D.s.injEq, S.bl.injEq] at e
  obtain ⟨rfl, rfl⟩ := e
  have e0 := blOf_ h2
  dsimp only at e0
  subst e0
  exact ⟨ι, g, μ, t, μ1, st, h1, q⟩
theorem l_tru {a : E} {Q : Bool → Hp → Prop} (h : tT K (evE cal gl (.tru a)) σ H Q) : tD K (evE cal gl a) σ H fun x H' => ∃ k, TruV K x H' k ∧ Q k H' := by
  obtain ⟨ι, g, μ, d, μ', st, hm, q⟩ := h
  simp only [evE] at hm
  obtain ⟨⟨da, μ1⟩, h1, hm1⟩ := obind hm
  obtain ⟨t, h2, e⟩ := omap hm1
  simp only [Prod.mk.injEq, D.s.injEq, S.bl.injEq] at e
  obtain ⟨rfl, rfl⟩ := e
  exact ⟨ι, g, μ, da, μ1, st, h1, fun ι1 H1 v p1 => ⟨t, tru_of p1.rl h2 p1.rep, q ι1 H1 p1.ext p1.rl⟩⟩
theorem l_yes {Q : Bool → Hp → Prop} (h : tT K (evE cal gl (.k (.bl true))) σ H Q) : tYes σ H Q := by
  obtain ⟨ι, g, μ, d, μ', st, hm, q⟩ := h
  simp only [evE, Option.some.injEq, Prod.mk.injEq, D.s.injEq, S.bl.injEq] at hm
  obtain ⟨rfl, rfl⟩ := hm
  exact q ι H .refl st.rl
end
section
variable {k : Nat} {cx : Ck} {cal : Cal} {gl : List S} {X : Cx}
theorem pe_strip {op : BoolOp} {y : Expr} {r : List Expr} {p : Pos} {t : TE} (h : PE X (strip1 (.BoolOp op (y :: r) p)) t) : PE X (.BoolOp op (y :: r) p) t := by
  cases r with
  | nil => exact pe_one h
  | cons => exact h
theorem pw_strip {op : BoolOp} {y : Expr} {r : List Expr} {p : Pos} {t : TT} (h : PT X (strip1 (.BoolOp op (y :: r) p)) t) : PW X (.BoolOp op (y :: r) p) t := by
  cases r with
  | nil => cases op; exact pw_and1 h; exact pw_or1 h
  | cons => exact ⟨fun whole pins s σ H Q I q => h.run pins s σ H Q I q⟩
/-- the names of types -/
theorem pa_types (o : XOk k cx cal gl X) : ∀ {ts : List Ty} {es : List Expr}, tyNames cx.sc cx.free ts es = true → ∃ t, PA X es t ∧ allPlain es = true ∧ es.length = ts.length ∧ ∀ σ H Q, Q (ts.map fun t => V.ty t.py) H → t σ H Q
  | [], [], _ => ⟨_, pa_nil, rfl, rfl, fun _ _ _ h => h⟩
  | t :: ts, [], h => by simp [tyNames] at h
  | [], e :: es, h => by cases e <;> simp [tyNames] at h
  | t :: ts, e :: es, h => by
    cases e with
    | Name x p =>
      simp only [tyNames, Bool.and_eq_true, decide_eq_true_eq, List.contains_iff_mem] at h
      obtain ⟨⟨⟨h1, h2⟩, h3⟩, h4⟩ := h
      obtain ⟨tt, p1, p2, p3, p4⟩ := pa_types o h4
      have hb : bootBuiltins x = some (.type t.py) := by rw [h1]; cases t <;> decide +kernel
      have hn : x ≠ ("__name__" : Str) := by rw [h1]; cases t <;> decide +kernel
      have hd : (x == ("__debug__" : Str)) = false := by rw [h1]; cases t <;> decide +kernel
      have pe : PE X (.Name x p) (tC (.ty t.py)) := pe_bltn (o.gl' h2) (o.free _ h3) hb rfl hn hd
      exact ⟨_, pa_cons pe p1, by simp [allPlain, plainE, p2], by simp [p3], fun σ H Q h => p4 σ H _ h⟩
    | _ => simp [tyNames] at h
structure Snd (n k : Nat) (cal : Cal) (gl : List S) : Prop where
  e : ∀ {cx ir e X}, ckE n cx ir e = true → XOk k cx cal gl X → PE X e (tD X.K (evE cal gl ir))
  t : ∀ {cx ir e X}, ckT n cx ir e = true → XOk k cx cal gl X → PT X e (tT X.K (evE cal gl ir))
  o : ∀ {cx ir e X}, ckO n cx ir e = true → XOk k cx cal gl X → PO X e (tO X.K ir (evE cal gl ir))
  s : ∀ {cx ir es X}, ckEs n cx ir es = true → XOk k cx cal gl X → PA X es (tSs X.K (evS cal gl ir))
  d : ∀ {cx ir es X}, ckEs n cx ir es = true → XOk k cx cal gl X → PA X es (tDs X.K (evD cal gl ir))
  i : ∀ {cx ir tg e X}, ckI n cx ir tg e = true → XOk k cx cal gl X → PI X tg e (tI X.K (evI cal gl ir))
mutual
theorem pg_of (o : XOk k cx cal gl X) : ∀ {t : Tg} {e : Expr}, ckG cx t e = true → PG X e (gT X.K t)
  | .nm i, e, h => by
    cases e with
    | Name x p =>
      simp only [ckG, Bool.and_eq_true, decide_eq_true_eq, List.contains_iff_mem] at h
      obtain ⟨h1, h2⟩ := o.loc _ h.2
      exact PG.of (pg_name (i := i) o.nd (by rw [o.N]; exact h.1) h1 h2) fun v σ H Q q => gT_nm q
    | _ => simp [ckG] at h
  | .tp ts, e, h => by
    cases e with
    | Tuple es kk p =>
      simp only [ckG] at h
      obtain ⟨h1, h2, h3⟩ := pgs_of o h
      exact PG.of (pg_tup o.calm h1 (n := ts.length) (by rw [h2.1, h3]) h2.2) fun v σ H Q q => gT_tp rfl q
    | _ => simp [ckG] at h
theorem pgs_of (o : XOk k cx cal gl X) : ∀ {ts : List Tg} {es : List Expr}, ckGs cx ts es = true → PGs X es (gTs X.K ts) ∧ ((assignEach es X.env).length = es.length ∧ (assignEach es X.env).findIdx? (·.1) = none) ∧ es.length = ts.length
  | [], [], _ => ⟨PGs.of pgs_nil fun v σ H Q q => gTs_nil q, ⟨rfl, rfl⟩, rfl⟩
  | t :: ts, [], h => by simp [ckGs] at h
  | [], e :: es, h => by simp [ckGs] at h
  | t :: ts, e :: es, h => by
    simp only [ckGs, Bool.and_eq_true] at h
    obtain ⟨h1, h2, h3⟩ := pgs_of o h.2
    have hp : assignEach (e :: es) X.env = (false, assign e X.env) :: assignEach es X.env := by
      have := h.1
      cases e <;> first | rfl | (cases t <;> simp [ckG] at this)
    refine ⟨PGs.of (pgs_cons (pg_of o h.1) h1 (by rw [hp]; rfl)) fun v σ H Q q => gTs_cons q, ⟨by rw [hp]; simp [h2.1], by rw [hp]; simp [List.findIdx?_cons, h2.2]⟩, by simp [h3]⟩
end
end
end Dv
end
section
set_option Elab.async false
set_option linter.all false
set_option maxRecDepth 100000
set_option maxHeartbeats 4000000
/-! Dv18: the induction over expressions. -/
namespace Dv
open PySem PySem.Spec PyProof.Rows L2
section
variable {n k : Nat} {cal : Cal} {gl : List S}
theorem bi_pe {X : Cx} {cx : Ck} (o : XOk k cx cal gl X) {b : Bi} {x : Str} {y : Expr} {ys : List Expr} {p pos : Pos} {es : Es} (hx : x = b.nm) (hb : bigG cx x = true) (ha : PA X (y :: ys) (tDs X.K (evD cal gl es))) (hp : allPlain (y :: ys) = true) :
    PE X (.Call (.Name x p) (y :: ys) [] pos) (tD X.K (evE cal gl (.bi b es))) := by
  obtain ⟨h1, h2, h3, h4⟩ := o.big hb
  have hv : bootBuiltins x = some b.fn := by rw [hx]; exact boot_bi b
  have hcr := cr_bi o.calm b
  have hs := star_plain (env := X.env) (es := ys) (by simp only [allPlain, Bool.and_eq_true] at hp; exact hp.1)
  have hpl := any_plain X.env pos (es := ys) (by simp only [allPlain, Bool.and_eq_true] at hp; exact hp.2)
  have key : PE X (.Call (.Name x p) (y :: ys) [] pos) (tCB (rDn X.K fun ds μ => (bfn b ds μ).map fun d => (d, μ)) (tDs X.K (evD cal gl es))) := by
    cases b <;> first
      | exact pe_callB hcr h1 h2 hv ha h4 h3 hs hpl
      | exact pe_callTy hcr h1 h2 hv ha h4 h3 hs hpl
  exact PE.of key fun σ H Q q => tD_bi (by simpa only [evE] using q)
theorem ckI_plain {n : Nat} {cx : Ck} {ir : Dv.It} {tg e : Expr} (h : ckI n cx ir tg e = true) : plainE e = true := by
  cases n with
  | zero => simp [ckI] at h
  | succ n =>
    unfold ckI at h
    split at h <;> first | rfl | (simp only [Bool.and_eq_true] at h; exact h.1) | cases h
theorem lc_inv (ih : Snd n k cal gl) {cx : Ck} {ir : E} {xe : Expr} {gs : List Comprehension} {scope : Scope} {pos : Pos} {X : Cx} (h : ckE (n + 1) cx ir (.ListComp xe gs scope pos) = true) (o : XOk k cx cal gl X) :
    ∃ elt own t it cond tg iter ifs, ir = .lc elt own t it cond ∧ gs = [⟨tg, iter, ifs, 0⟩] ∧ (∀ i ∈ t.slots, i ∈ own) ∧ ∃ ownP : List (Str × Nat), ownP.map (·.2) = own ∧ BlkOk X.N X.env.scope scope ownP ∧ PI X tg iter (tI X.K (evI cal gl it)) ∧
      (∀ (s : Shared) (H : Hp) (C : Addr) (cl : List (Str × Addr)) (fp : List Addr), PG (X.blk s H scope (compEnvC scope cl C X.env) fp) tg (gT X.K t)) ∧
      (∀ (s : Shared) (H : Hp) (C : Addr) (cl : List (Str × Addr)) (fp : List Addr), PTs (X.blk s H scope (compEnvC scope cl C X.env) fp) ifs (tT X.K (evE cal gl cond))) ∧
      (∀ (s : Shared) (H : Hp) (C : Addr) (cl : List (Str × Addr)) (fp : List Addr), PE (X.blk s H scope (compEnvC scope cl C X.env) fp) xe (tD X.K (evE cal gl elt))) ∧ plainE iter = true := by
  cases ir with
  | lc elt own t it cond =>
    have hg : ∃ tg iter ifs, gs = [⟨tg, iter, ifs, 0⟩] := by
      unfold ckE at h
      split at h <;> first | (rename_i heq; cases heq; done) | (rename_i heq _; cases heq; done) | skip
      · rename_i h1 h2
        cases h1; cases h2
        exact ⟨_, _, _, rfl⟩
      · cases h
    obtain ⟨tg, iter, ifs, rfl⟩ := hg
    simp only [ckE, Bool.and_eq_true] at h
    obtain ⟨⟨⟨⟨⟨hblk, hI⟩, hG⟩, hsl⟩, hc⟩, hE⟩ := h
    have ok : BlkOk X.N X.env.scope scope (own.map fun i => (cx.N.getD i Str.empty, i)) := by
      rw [o.N, o.sc]
      exact blkOk_by hblk
    have hown : ∀ i ∈ t.slots, i ∈ own := fun i hi => by
      have := List.all_eq_true.mp hsl i hi
      simpa using this
    have hm : (own.map fun i => (cx.N.getD i Str.empty, i)).map (·.2) = own := by
      rw [List.map_map]
      exact (List.map_congr_left fun _ _ => rfl).trans (List.map_id own)
    refine ⟨elt, own, t, it, cond, tg, iter, ifs, rfl, rfl, hown, _, hm, ok, ih.i hI o, fun s H C cl fp => pg_of (o.blk ok s H cl C fp) hG, fun s H C cl fp => ?_, fun s H C cl fp => ih.e hE (o.blk ok s H cl C fp), ckI_plain hI⟩
    split at hc
    · split at hc
      · exact ⟨fun pins s σ H Q I q => pts_nil.run pins s σ H Q I (l_yes q)⟩
      · cases hc
    · exact pts_one (ih.t hc (o.blk ok s H cl C fp))
    · cases hc
  | _ => simp [ckE] at h
theorem snd_e (ih : Snd n k cal gl) {cx : Ck} {ir : E} {e : Expr} {X : Cx} (h : ckE (n + 1) cx ir e = true) (o : XOk k cx cal gl X) : PE X e (tD X.K (evE cal gl ir)) := by
  unfold ckE at h
  split at h
  · -- var
    simp only [Bool.and_eq_true, decide_eq_true_eq] at h
    obtain ⟨h3, h4, _⟩ := nmB_ h.2
    exact PE.of (pe_var (by rw [o.N]; exact h.1.1) (o.vis h.1.2) h3 h4) fun σ H Q q => l_var q
  · simp only [decide_eq_true_eq] at h
    subst h
    exact PE.of pe_int fun σ H Q q => l_k (by intro _ _; rfl) q
  · simp only [decide_eq_true_eq] at h
    subst h
    exact PE.of pe_bl fun σ H Q q => l_k (by intro _ _; rfl) q
  · exact PE.of pe_non fun σ H Q q => l_k (by intro _ _; rfl) q
  · simp only [decide_eq_true_eq] at h
    subst h
    exact PE.of pe_str fun σ H Q q => l_k (by intro _ _; rfl) q
  · -- gl
    rename_i j x p
    simp only [Bool.and_eq_true, decide_eq_true_eq] at h
    cases hs : gl[j]? with
    | none =>
      refine ⟨fun pins s σ H Q I q => ?_⟩
      obtain ⟨ι, g, μ, d, μ', st, hm, _⟩ := q
      simp [evE, hs] at hm
    | some s =>
      obtain ⟨u, v, h1, h2, h3⟩ := o.gls j x s h.1.1 hs
      refine PE.of (pe_glob (o.gl' h.1.2) h1 h2 (nmB_ h.2).1) fun σ H Q q => ?_
      obtain ⟨ι, g, μ, d, μ', st, hm, q⟩ := q
      simp only [evE, hs, Option.map_some, Option.some.injEq, Prod.mk.injEq] at hm
      obtain ⟨rfl, rfl⟩ := hm
      exact q ι H v (.here st.rl (h3 ι H))
  · -- bin
    simp only [Bool.and_eq_true, decide_eq_true_eq] at h
    obtain ⟨⟨rfl, h1⟩, h2⟩ := h
    exact PE.of (pe_op (opr_bop _) (ih.e h1 o) (ih.e h2 o)) fun σ H Q q => tD_2 (by simpa only [evE] using q)
  · exact PE.of (pe_un un_neg (ih.e h o)) fun σ H Q q => l_neg q
  · -- cmp
    simp only [Bool.and_eq_true, decide_eq_true_eq, Bool.not_eq_true'] at h
    obtain ⟨⟨⟨rfl, hm⟩, h1⟩, h2⟩ := h
    exact PE.of (pe_cmpR (opr_cop o.u64 _) (ih.e h1 o) (ih.e h2 o) hm) fun σ H Q q => tD_c2 (by simpa only [evE] using q)
  · simp only [Bool.and_eq_true, decide_eq_true_eq, Bool.not_eq_true'] at h
    obtain ⟨⟨⟨⟨⟨rfl, rfl⟩, hm⟩, h1⟩, h2⟩, h3⟩ := h
    exact PE.of (pe_chain (opr_cop o.u64 _) (opr_cop o.u64 _) (ih.e h1 o) (ih.e h2 o) (ih.e h3 o) hm) fun σ H Q q => l_chn q
  · simp only [Bool.and_eq_true] at h
    exact PE.of (pe_and (ih.e h.1 o) (pe_strip (ih.e h.2 o))) fun σ H Q q => l_and q
  · simp only [Bool.and_eq_true] at h
    exact PE.of (pe_or (ih.e h.1 o) (pe_strip (ih.e h.2 o))) fun σ H Q q => l_or q
  · exact PE.of (pe_not (ih.e h o)) fun σ H Q q => l_not q
  · simp only [Bool.and_eq_true] at h
    exact PE.of (pe_ifExp (ih.t h.1.1 o) (ih.e h.1.2 o) (ih.e h.2 o)) fun σ H Q q => l_ife q
  · -- slc
    simp only [Bool.and_eq_true] at h
    exact PE.of (pe_slice sl_all (ih.e h.1.1 o) (ih.o h.1.2 o) (ih.o h.2 o)) fun σ H Q q => l_slc q
  · simp only [Bool.and_eq_true] at h
    exact PE.of (pe_ix (ix_all o.u1) (ih.e h.1.2 o) (ih.e h.2 o) (ix_plain h.1.1)) fun σ H Q q => tD_2 (by simpa only [evE] using q)
  · exact PE.of (pe_tup (ih.s h o)) fun σ H Q q => l_tup q
  · exact PE.of (pe_lst (ih.s h o)) fun σ H Q q => l_lst q
  · exact PE.of pe_dnewK fun σ H Q q => l_dnK q
  · exact PE.of pe_dnewT fun σ H Q q => l_dnT q
  · -- call
    rename_i f gc es x p xs pos
    simp only [Bool.and_eq_true, decide_eq_true_eq] at h
    obtain ⟨⟨⟨h1, h2⟩, h3⟩, h4⟩ := h
    obtain ⟨a, fd, ps, m, e1, e2, e3, e4, e5, F⟩ := o.fns f x h1
    have hpl := ckEs_plain h4
    have ha := ih.s h4 o
    have key : PE X (.Call (.Name x p) xs [] pos) (tCall (spC X.K (cal f)) [] E0 (tSs X.K (evS cal gl es))) := by
      cases xs with
      | nil =>
        refine PE.of (pe_call0 F o.room (o.gl' h2) e1 e2 e3 .nil pass0 (nmB_ h3).1) fun σ H Q q => ?_
        have he : es = .nil := by
          cases n <;> cases es <;> simp [ckEs] at h4 ⊢
        subst he
        exact tSs_nil q
      | cons y ys =>
        simp only [allPlain, Bool.and_eq_true] at hpl
        exact pe_call F o.room (o.gl' h2) e1 e2 e3 .nil pass0 ha (nmB_ h3).1 (star_plain hpl.1 ys X.env) (any_plain X.env pos hpl.2)
    exact PE.of key fun σ H Q q => l_call q
  · -- built-in
    simp only [Bool.and_eq_true, decide_eq_true_eq] at h
    exact bi_pe o h.1.1 h.1.2 (ih.d h.2 o) (ckEs_plain h.2)
  · -- isinstance, one class
    rename_i a t x p y z p2 pos
    simp only [Bool.and_eq_true, decide_eq_true_eq] at h
    obtain ⟨⟨⟨⟨rfl, hb⟩, hy⟩, h1⟩, h2⟩ := h
    obtain ⟨g1, g2, g3, g4⟩ := o.big hb
    have h2' : tyNames cx.sc cx.free [t] [.Name z p2] = true := h2
    simp only [tyNames, Bool.and_true, Bool.and_eq_true, decide_eq_true_eq, List.contains_iff_mem] at h2'
    obtain ⟨⟨k1, k2⟩, k3⟩ := h2'
    have hb2 : bootBuiltins z = some (.type t.py) := by rw [k1]; cases t <;> decide +kernel
    have hn : z ≠ ("__name__" : Str) := by rw [k1]; cases t <;> decide +kernel
    have hd : (z == ("__debug__" : Str)) = false := by rw [k1]; cases t <;> decide +kernel
    have pt : PE X (.Name z p2) (tC (.ty t.py)) := pe_bltn (o.gl' k2) (o.free _ k3) hb2 rfl hn hd
    refine PE.of (pe_callB call_isi g1 g2 boot_isinstance (pa_cons (ih.e h1 o) (pa_cons pt pa_nil) (star_plain hy _ _)) g4 g3 (star_plain hy _ _) rfl) fun σ H Q q => isi_one (by simpa only [evE] using q)
  · -- isinstance, several
    rename_i a ts x p y zs kk p2 pos
    simp only [Bool.and_eq_true, decide_eq_true_eq, Bool.not_eq_true'] at h
    obtain ⟨⟨⟨⟨⟨⟨rfl, hb⟩, hy⟩, h1⟩, h2⟩, h3⟩, h4⟩ := h
    obtain ⟨g1, g2, g3, g4⟩ := o.big hb
    obtain ⟨tt, q1, q2, q3, q4⟩ := pa_types o h2
    have hts : ts.length ≤ sizeLine := Nat.le_trans h4 (by decide)
    refine PE.of (pe_callB call_isiT g1 g2 boot_isinstance (pa_cons (ih.e h1 o) (pa_cons (pe_tup q1) pa_nil) (star_plain hy _ _)) g4 g3 (star_plain hy _ _) rfl) fun σ H Q q => isi_many hts (by intro z; rw [z] at h3; cases h3) q4 (by simpa only [evE] using q)
  · -- ranges
    rename_i t a x p y p2 z pos2 pos
    simp only [Bool.and_eq_true, decide_eq_true_eq] at h
    obtain ⟨⟨⟨⟨⟨rfl, hb⟩, rfl⟩, hb2⟩, hz⟩, h1⟩ := h
    obtain ⟨g1, g2, g3, g4⟩ := o.big hb
    obtain ⟨g5, g6, g7, g8⟩ := o.big hb2
    have pr := prg_1 (pos := pos2) (p := p2) g5 g6 (ih.e h1 o) (star_plain hz _ _)
    cases t with
    | true => exact PE.of (pe_tupRg o.calm g1 g2 pr (star_plain rfl _ _)) fun σ H Q q => l_rg1 q
    | false => exact PE.of (pe_listRg o.calm g1 g2 pr (star_plain rfl _ _)) fun σ H Q q => l_rg1 q
  · rename_i t a b x p y p2 z z' pos2 pos
    simp only [Bool.and_eq_true, decide_eq_true_eq] at h
    obtain ⟨⟨⟨⟨⟨⟨⟨rfl, hb⟩, rfl⟩, hb2⟩, hz⟩, hz'⟩, h1⟩, h2⟩ := h
    obtain ⟨g1, g2, g3, g4⟩ := o.big hb
    obtain ⟨g5, g6, g7, g8⟩ := o.big hb2
    have pr := prg_2 (pos := pos2) (p := p2) g5 g6 (ih.e h1 o) (ih.e h2 o) (star_plain hz _ _) (star_plain hz' _ _) (any_plain X.env pos2 (es := [z']) (by simp [allPlain, hz']))
    cases t with
    | true => exact PE.of (pe_tupRg o.calm g1 g2 pr (star_plain rfl _ _)) fun σ H Q q => l_rg2 q
    | false => exact PE.of (pe_listRg o.calm g1 g2 pr (star_plain rfl _ _)) fun σ H Q q => l_rg2 q
  · -- append
    rename_i a b x m ap y p
    simp only [Bool.and_eq_true, decide_eq_true_eq] at h
    obtain ⟨⟨⟨⟨⟨rfl, hx⟩, hy⟩, hl⟩, h1⟩, h2⟩ := h
    have hp : allPlain [y] = true := by simp [allPlain, hy]
    refine PE.of (pe_bm PySem.F.plainAttrs_list PySem.F.slot_list_append PySem.F.type_list_append mt_append (ih.e h1 o) (pa_cons (ih.e h2 o) pa_nil (star_plain hy _ _)) (base_plain hx _ _ _) (few_plain X.env p hp (by simp)) hl (star_plain hy _ _) rfl) fun σ H Q q => app_of (by simpa only [evE] using q)
  · -- a method
    rename_i m a es x nm ap ys p
    simp only [Bool.and_eq_true, decide_eq_true_eq] at h
    obtain ⟨⟨⟨⟨⟨rfl, hx⟩, hl⟩, hy⟩, h1⟩, h2⟩ := h
    have hp := ckEs_plain h2
    cases ys with
    | nil =>
      have he : es = .nil := by
        cases n <;> cases es <;> simp [ckEs] at h2 ⊢
      subst he
      exact PE.of (pe_bm0 m.pa m.slot m.hty (mt_all o.u1 m) (ih.e h1 o) (base_plain hx _ _ _) hl) fun σ H Q q => l_mt0 q
    | cons y ys =>
      have hp' := hp
      simp only [allPlain, Bool.and_eq_true] at hp'
      exact PE.of (pe_bm m.pa m.slot m.hty (mt_all o.u1 m) (ih.e h1 o) (ih.d h2 o) (base_plain hx _ _ _) (few_plain X.env p hp hy) hl (star_plain hp'.1 _ _) (any_plain _ _ hp'.2)) fun σ H Q q => l_mt q
  · -- a comprehension
    rename_i elt' own' t' it' cond' xe tg' iter' ifs' scope pos
    have h' : ckE (n + 1) cx (.lc elt' own' t' it' cond') (.ListComp xe [⟨tg', iter', ifs', 0⟩] scope pos) = true := by simp only [ckE]; exact h
    obtain ⟨elt, own, t, it, cond, tg, iter, ifs, e1, e2, hown, ownP, hm, ok, hi, hgs, hts, hes, hp⟩ := lc_inv ih h' o
    cases e1
    cases e2
    have key := pe_lc (pos := pos) o.calm o.nd hi ok hgs hts hes (set_plain hp _)
    rw [hm] at key
    exact PE.of key fun σ H Q q => tLc_of hown (by simpa only [evE] using q)
  · cases h

theorem snd_t (ih : Snd n k cal gl) {cx : Ck} {ir : E} {e : Expr} {X : Cx} (h : ckT (n + 1) cx ir e = true) (o : XOk k cx cal gl X) : PT X e (tT X.K (evE cal gl ir)) := by
  unfold ckT at h
  split at h
  · simp only [Bool.and_eq_true] at h
    exact PT.of (pw_and (ih.t h.1 o) (pw_strip (ih.t h.2 o))).pt fun σ H Q q => l_andT q
  · simp only [Bool.and_eq_true] at h
    exact PT.of (pw_or (ih.t h.1 o) (pw_strip (ih.t h.2 o))).pt fun σ H Q q => l_orT q
  · exact PT.of (pt_not (ih.t h o)) fun σ H Q q => l_notT q
  · simp only [Bool.and_eq_true] at h
    exact PT.of (pt_truth (ih.e h.2 o) (true_plain h.1 _)) fun σ H Q q => l_tru q
  · simp only [Bool.and_eq_true, decide_eq_true_eq, Bool.not_eq_true'] at h
    obtain ⟨⟨⟨rfl, hm⟩, h1⟩, h2⟩ := h
    exact PT.of (pt_cmpR (opr_cop o.u64 _) (ih.e h1 o) (ih.e h2 o) hm) fun σ H Q q => tD_c2 (by simpa only [evE] using tT_D q)
  · simp only [Bool.and_eq_true, decide_eq_true_eq, Bool.not_eq_true'] at h
    obtain ⟨⟨⟨⟨⟨rfl, rfl⟩, hm⟩, h1⟩, h2⟩, h3⟩ := h
    exact PT.of (pt_chain (opr_cop o.u64 _) (opr_cop o.u64 _) (ih.e h1 o) (ih.e h2 o) (ih.e h3 o) hm) fun σ H Q q => l_chn (tT_D q)
  · simp only [Bool.and_eq_true] at h
    exact PT.of (pt_val (ih.e h.2 o) (true_plain h.1 _)) fun σ H Q q => tT_D q
theorem snd_o (ih : Snd n k cal gl) {cx : Ck} {ir : E} {e : Option Expr} {X : Cx} (h : ckO (n + 1) cx ir e = true) (o : XOk k cx cal gl X) : PO X e (tO X.K ir (evE cal gl ir)) := by
  unfold ckO at h
  split at h
  · exact PO.of po_none fun σ H Q q => tO_none q
  · simp only [Bool.and_eq_true] at h
    refine PO.of (po_some (ih.e h.1.2 o)) fun σ H Q q => tO_some ?_ q
    have := h.2
    unfold E.isNone
    split at this
    · cases this
    · rename_i hn
      first
        | rfl
        | (split
           · exact (hn rfl).elim
           · rfl)
  · cases h
theorem snd_s (ih : Snd n k cal gl) {cx : Ck} {ir : Es} {es : List Expr} {X : Cx} (h : ckEs (n + 1) cx ir es = true) (o : XOk k cx cal gl X) : PA X es (tSs X.K (evS cal gl ir)) := by
  unfold ckEs at h
  split at h
  · exact PA.of pa_nil fun σ H Q q => tSs_nil q
  · simp only [Bool.and_eq_true] at h
    exact PA.of (pa_cons (ih.e h.1.2 o) (ih.s h.2 o) (star_plain h.1.1 _ _)) fun σ H Q q => tSs_cons q
  · cases h
theorem snd_d (ih : Snd n k cal gl) {cx : Ck} {ir : Es} {es : List Expr} {X : Cx} (h : ckEs (n + 1) cx ir es = true) (o : XOk k cx cal gl X) : PA X es (tDs X.K (evD cal gl ir)) := by
  unfold ckEs at h
  split at h
  · exact PA.of pa_nil fun σ H Q q => tDs_nil q
  · simp only [Bool.and_eq_true] at h
    exact PA.of (pa_cons (ih.e h.1.2 o) (ih.d h.2 o) (star_plain h.1.1 _ _)) fun σ H Q q => tDs_cons q
  · cases h
theorem snd_i (ih : Snd n k cal gl) {cx : Ck} {ir : Dv.It} {tg e : Expr} {X : Cx} (h : ckI (n + 1) cx ir tg e = true) (o : XOk k cx cal gl X) : PI X tg e (tI X.K (evI cal gl ir)) := by
  unfold ckI at h
  split at h
  · simp only [Bool.and_eq_true, decide_eq_true_eq] at h
    obtain ⟨⟨⟨rfl, hb⟩, hy⟩, h1⟩ := h
    obtain ⟨g1, g2, g3, g4⟩ := o.big hb
    exact PI.of (pi_range1 g1 g2 (pa_cons (ih.e h1 o) pa_nil (star_plain hy _ _)) (star_plain hy _ _)) fun σ H R q => tI_rng1 q
  · simp only [Bool.and_eq_true, decide_eq_true_eq] at h
    obtain ⟨⟨⟨⟨⟨rfl, hb⟩, hy⟩, hz⟩, h1⟩, h2⟩ := h
    obtain ⟨g1, g2, g3, g4⟩ := o.big hb
    exact PI.of (pi_range2 g1 g2 (pa_cons (ih.e h1 o) (pa_cons (ih.e h2 o) pa_nil (star_plain hz _ _)) (star_plain hy _ _)) (by rw [star_plain hy, star_plain hz]; rfl) (by rw [star_plain hz]; rfl)) fun σ H R q => tI_rng2 q
  · simp only [Bool.and_eq_true, decide_eq_true_eq] at h
    obtain ⟨⟨⟨⟨⟨rfl, hb⟩, hy⟩, hz⟩, h1⟩, h2⟩ := h
    obtain ⟨g1, g2, g3, g4⟩ := o.big hb
    have hm : ∀ {kk : Nat} {p1 p2 : Pos}, PE X (.UnaryOp .USub (.Constant (.int 1) kk p1) p2) (tC (.int (-1))) := PE.of (pe_un un_neg pe_int) fun σ H Q q => ⟨1, rfl, q⟩
    exact PI.of (pi_range3 g1 g2 (pa_cons (ih.e h1 o) (pa_cons (ih.e h2 o) (pa_cons hm pa_nil) (star_plain hz _ _)) (star_plain hy _ _)) (star_plain hy _ _) (any_plain _ _ (by unfold allPlain; rw [hz]; rfl))) fun σ H R q => tI_rngD q
  · simp only [Bool.and_eq_true, decide_eq_true_eq] at h
    obtain ⟨⟨⟨⟨rfl, hb⟩, hy⟩, ht⟩, h1⟩ := h
    obtain ⟨g1, g2, g3, g4⟩ := o.big hb
    split at ht
    · exact PI.of (pi_enA g1 g2 (pa_cons (ih.e h1 o) pa_nil (star_plain hy _ _)) (star_plain hy _ _)) fun σ H R q => tI_enum q
    · cases ht
  · simp only [Bool.and_eq_true, decide_eq_true_eq] at h
    obtain ⟨⟨⟨⟨⟨⟨rfl, hb⟩, hy⟩, hz⟩, ht⟩, h1⟩, h2⟩ := h
    obtain ⟨g1, g2, g3, g4⟩ := o.big hb
    split at ht
    · exact PI.of (RZ.pi_zipA g1 g2 (pa_cons (ih.e h1 o) (pa_cons (ih.e h2 o) pa_nil (star_plain hz _ _)) (star_plain hy _ _)) (star_plain hy _ _) (any_plain _ _ (by simp [allPlain, hz]))) fun σ H R q => tI_zip q
    · cases ht
  · simp only [Bool.and_eq_true, decide_eq_true_eq] at h
    obtain ⟨⟨⟨rfl, hb⟩, hy⟩, h1⟩ := h
    obtain ⟨g1, g2, g3, g4⟩ := o.big hb
    exact PI.of (RT.pi_revA g1 g2 (ih.e h1 o) (star_plain hy _ _)) fun σ H R q => tI_rev q
  · simp only [Bool.and_eq_true] at h
    exact PI.of (pi_seq (ih.e h.2 o)) fun σ H R q => tI_seq q
  · cases h
theorem snd : ∀ n, Snd n k cal gl
  | 0 => ⟨fun h => by simp [ckE] at h, fun h => by simp [ckT] at h, fun h => by simp [ckO] at h, fun h => by simp [ckEs] at h, fun h => by simp [ckEs] at h, fun h => by simp [ckI] at h⟩
  | n + 1 => ⟨fun h o => snd_e (snd n) h o, fun h o => snd_t (snd n) h o, fun h o => snd_o (snd n) h o, fun h o => snd_s (snd n) h o, fun h o => snd_d (snd n) h o, fun h o => snd_i (snd n) h o⟩
end
end Dv
end
section
set_option Elab.async false
set_option linter.all false
set_option maxRecDepth 100000
set_option maxHeartbeats 4000000
/-! Dv19: statements, defs. -/
namespace Dv
open PySem PySem.Spec PyProof.Rows L2
section
variable {n k : Nat} {cal : Cal} {gl : List S} {cx : Ck} {X : Cx}
theorem XOk.st (o : XOk k cx cal gl X) {i : Nat} {x : Str} (h1 : cx.N[i]? = some x) (h2 : x ∈ cx.loc) : X.N[i]? = some x ∧ Loc X.env.scope x ∧ (X.fn x = true ∨ X.env.scope.names.lookup x = some .local) :=
  ⟨by rw [o.N]; exact h1, o.loc x h2⟩
theorem sole_plain {tg v : Expr} {line : Nat} {env : Env} (h : isCompE v = false) : swapsWithSole [tg] v line env = pure false := swaps_plain h _ _ _
theorem sole_sub {a b v : Expr} {p : Pos} {line : Nat} {env : Env} : swapsWithSole [.Subscript a b p] v line env = pure false := by
  cases v <;> rfl
theorem sole_tup {es : List Expr} {kk : Nat} {v : Expr} {p : Pos} {line : Nat} {env : Env} : swapsWithSole [.Tuple es kk p] v line env = pure false := by
  cases v <;> rfl
theorem stores_sub {a b v : Expr} {p : Pos} {env : Env} : swappedStores [.Subscript a b p] v env = pure none := by
  cases v <;> rfl
theorem stores_tup {es : List Expr} {kk : Nat} {v : Expr} {p : Pos} {env : Env} (h : (match v with | .Tuple .. => false | _ => true) = true) : swappedStores [.Tuple es kk p] v env = pure none := by
  cases v <;> first | rfl | cases h
theorem assign_sub {o i : Expr} {pos : Pos} (h : plainE i = true) (env : Env) : ∀ v, assign (.Subscript o i pos) env v = (do
      let ov ← holding [v] (eval o env)
      let iv ← holding [v, ov] (eval i env)
      standAt pos
      holding [v, ov, iv] (setItem ov iv v)
      release [v, ov, iv] []) := by
  cases i <;> first | (intro _; rfl) | cases h
theorem aug_plain {i : Expr} (h : plainE i = true) : ∀ ov iv new, augStore i ov iv new = (do holding [new, ov, iv] (setItem ov iv new); release [new, ov, iv] []; pure .next) := by
  cases i <;> first | (intro _ _ _; rfl) | cases h
theorem swaps_cell {x : Str} {px : Pos} {e : Expr} {gs : List Comprehension} {scope : Scope} {pos : Pos} {line : Nat} {env : Env} (h : env.scope.names.lookup x = some .cell) : swapsWith (.ListComp e gs scope pos) (some (.Name x px)) line env = pure false := by
  have hk : (env.kindOf x == some .local) = false := by unfold Env.kindOf; rw [h]; rfl
  show (pure (env.blockKind == .function && env.kindOf x == some .local && px.line == pos.line && !(scope.names.any fun (n, k) => n == x && (k == .local || k == .cell))) : Sem Bool) = pure false
  rw [hk]
  simp
structure SndS (n k : Nat) (cal : Cal) (gl : List S) : Prop where
  s : ∀ {cx ir st X}, ckS n cx ir st = true → XOk k cx cal gl X → PS X st (sD X.K (run cal gl ir))
  ss : ∀ {cx ir sts X}, ckSs n cx ir sts = true → XOk k cx cal gl X → PSs X sts (sD X.K (run cal gl ir))
theorem own_passes (o : XOk k cx cal gl X) : PassesOwn (model X.prog X.w) X.A X.env X.xe := by rw [o.xe]; exact PassesOwn.never
theorem sndS_s (ih : SndS n k cal gl) {cx : Ck} {ir : C} {st : Stmt} {X : Cx} (h : ckS (n + 1) cx ir st = true) (o : XOk k cx cal gl X) : PS X st (sD X.K (run cal gl ir)) := by
  have sn := snd (k := k) (cal := cal) (gl := gl) n
  unfold ckS at h
  split at h
  · exact PS.of (ih.s h o) fun D σ H q => sD_gc q
  · exact PS.of (ih.s h o) fun D σ H q => sD_kl q
  · exact PS.of ps_pass fun D σ H q => sD_skip q
  · -- name = e
    rename_i i e x p v pos
    simp only [Bool.and_eq_true, decide_eq_true_eq, List.contains_iff_mem] at h
    obtain ⟨⟨⟨⟨h1, h2⟩, h3⟩, h4⟩, h5⟩ := h
    obtain ⟨k1, k2, k3⟩ := o.st h1 h2
    have plain : isCompE v = false → PS X (.Assign [.Name x p] v pos) (sD X.K (run cal gl (.asg i e))) := fun hc =>
      PS.of (ps_set o.nd k1 k2 (sn.e h4 o) (swaps_plain hc _ _ _) k3) fun D σ H q => sD_asg q
    split at h5
    · rename_i xe gs scope vp
      split at h5
      · rename_i hl
        exact PS.of (ps_set o.nd k1 k2 (sn.e h4 o) (swaps_cell (by rw [o.sc]; exact hl)) k3) fun D σ H q => sD_asg q
      · rename_i hl
        simp only [Bool.and_eq_true, Bool.not_eq_true'] at h5
        obtain ⟨⟨hg, hline⟩, hany⟩ := h5
        split at hg
        · rename_i tg iter ifs
          -- the comprehension again, its target within
          cases n with
          | zero => simp [ckE] at h4
          | succ n =>
            have sn' := snd (k := k) (cal := cal) (gl := gl) n
            obtain ⟨elt, own, t, it, cond, tg, iter, ifs, rfl, e2, hown, ownP, hm, ok, hi, hgs, hts, hes, hp⟩ := lc_inv sn' h4 o
            cases e2
            have hl' : X.env.scope.names.lookup x = some .local := by rw [o.sc]; exact hl
            have key := ps_setLc (pos := vp) (spos := pos) (py := p) o.calm o.nd k1 hl' (sw_true o.kind hl' hline hany) hi ok hgs hts hes (set_plain hp _)
            rw [hm] at key
            exact PS.of key fun D σ H q => by
              have q' : tD X.K (evE cal gl (.lc elt own t it cond)) σ H (fun y H1 => gName i y σ H1 D.nx) := sD_asg q
              exact tLc_of hown (by simpa only [evE] using q')
        · cases hg
      · cases h5
    · cases h5
    · cases h5
    · rename_i a1 a2 a3
      refine plain ?_
      cases v <;> first | rfl | exact (a1 _ _ _ _ rfl).elim | exact (a2 _ _ _ _ rfl).elim | exact (a3 _ _ _ _ _ rfl).elim
  · -- a, b = e
    rename_i t e es kk p v pos
    simp only [Bool.and_eq_true] at h
    obtain ⟨⟨⟨⟨h1, h2⟩, h3⟩, h4⟩, h5⟩ := h
    exact PS.of (ps_asg (sn.e h5 o) (pg_of o h4) sole_tup (stores_tup h2) rfl) fun D σ H q => sD_asgT q
  · rename_i ts e es kk p v pos
    simp only [Bool.and_eq_true] at h
    obtain ⟨⟨⟨h1, h2⟩, h3⟩, h4⟩ := h
    obtain ⟨g1, g2, g3⟩ := pgs_of o h3
    exact PS.of (ps_asg (sn.e h4 o) (pg_unl o.calm g1 (n := ts.length) (by rw [g2.1, g3]) g2.2) sole_tup (stores_tup h1) rfl) fun D σ H q => sD_asgL q
  · rename_i a i e x y p v pos
    simp only [Bool.and_eq_true] at h
    obtain ⟨⟨⟨⟨h1, h2⟩, h3⟩, h4⟩, h5⟩ := h
    exact PS.of (ps_asg (sn.e h5 o) (pg_sub (sn.e h3 o) (sn.e h4 o) (set_all o.u1) (assign_sub h1 _)) sole_sub stores_sub rfl) fun D σ H q => sD_sub q
  · rename_i i op e x p oo v pos
    simp only [Bool.and_eq_true, decide_eq_true_eq, List.contains_iff_mem] at h
    obtain ⟨⟨⟨⟨h1, rfl⟩, h2⟩, h3⟩, h4⟩ := h
    obtain ⟨k1, k2, k3⟩ := o.st h2 h3
    exact PS.of (ps_aug o.nd k1 k2 (sn.e h4 o) (ip_ok op (by cases op <;> simp at h1 ⊢)) k3) fun D σ H q => sD_aug q
  · rename_i op a i e x y p oo v pos
    simp only [Bool.and_eq_true, decide_eq_true_eq] at h
    obtain ⟨⟨⟨⟨⟨h1, rfl⟩, h2⟩, h3⟩, h4⟩, h5⟩ := h
    exact PS.of (ps_augS (sn.e h3 o) (sn.e h4 o) (get_all o.u1) (sn.e h5 o) (ip_ok op (by cases op <;> simp at h1 ⊢)) (set_all o.u1) (aug_plain h2)) fun D σ H q => sD_augS q
  · simp only [Bool.and_eq_true, Bool.not_eq_true'] at h
    exact PS.of (ps_expr (sn.e h.2 o) (swaps_plain h.1 _ _ _)) fun D σ H q => sD_exp q
  · exact PS.of (ps_ret (sn.e h o)) fun D σ H q => sD_ret q
  · exact PS.of ps_retN fun D σ H q => sD_retN q
  · simp only [Bool.and_eq_true] at h
    exact PS.of (ps_if (sn.t h.1.1 o) (ih.ss h.1.2 o) (ih.ss h.2 o)) fun D σ H q => sD_ife q
  · simp only [Bool.and_eq_true] at h
    exact PS.of (ps_while (own_passes o) (sn.t h.1 o) (ih.ss h.2 o)) fun D σ H q => sD_whl q
  · simp only [Bool.and_eq_true] at h
    obtain ⟨⟨⟨h1, h2⟩, h3⟩, h4⟩ := h
    exact PS.of (ps_for (own_passes o) o.calm (sn.i h2 o) (pg_of o h3) (ih.ss h4 o) (set_plain h1 _)) fun D σ H q => sD_fr q
  · exact PS.of ps_break fun D σ H q => sD_brk q
  · exact PS.of ps_continue fun D σ H q => sD_cont q
  · simp only [Bool.and_eq_true] at h
    exact PS.of (ps_ddel (sn.e h.1.2 o) (sn.e h.2 o)) fun D σ H q => sD_del q
  · cases h

theorem sndS_ss (ih : SndS n k cal gl) {cx : Ck} {ir : C} {sts : List Stmt} {X : Cx} (h : ckSs (n + 1) cx ir sts = true) (o : XOk k cx cal gl X) : PSs X sts (sD X.K (run cal gl ir)) := by
  unfold ckSs at h
  split at h
  · exact PSs.of pss_nil fun D σ H q => sD_skip q
  · refine PSs.of pss_nil fun D σ H q => ?_
    obtain ⟨ι, g, μ, r, st, hm, q⟩ := q
    simp only [run, Option.some.injEq] at hm
    subst hm
    exact q ι H σ .refl (st.kill _)
  · exact PSs.of (ih.ss h o) fun D σ H q => sD_gc q
  · exact PSs.of (ih.ss h o) fun D σ H q => sD_kl q
  · exact PSs.of (ih.ss h o) fun D σ H q => sD_kill q
  · simp only [Bool.and_eq_true] at h
    exact PSs.of (pss_cons (ih.s h.1 o) (ih.ss h.2 o)) fun D σ H q => sD_seq q
  · exact pss_one (ih.s h o)
  · cases h
theorem sndS : ∀ n, SndS n k cal gl
  | 0 => ⟨fun h => by simp [ckS] at h, fun h => by simp [ckSs] at h⟩
  | n + 1 => ⟨fun h o => sndS_s (sndS n) h o, fun h o => sndS_ss (sndS n) h o⟩
end
end Dv
end
section
set_option Elab.async false
set_option linter.all false
set_option maxRecDepth 100000
set_option maxHeartbeats 4000000
/-! Dv20: a program by its defs. -/
namespace Dv
open PySem PySem.Spec PyProof.Rows L2
theorem zip_lookup : ∀ {ns : List Str} {us : List Value}, us.length = ns.length → ∀ n, n ∈ ns → ((ns.zip us).lookup n).isSome = true
  | [], _, _, n, h => by simp at h
  | m :: ns, [], h, _, _ => by simp at h
  | m :: ns, u :: us, h, n, hn => by
    rw [List.zip_cons_cons, List.lookup_cons]
    cases e : n == m with
    | true => rfl
    | false =>
      rcases List.mem_cons.mp hn with z | z
      · subst z; simp at e
      · exact zip_lookup (by simpa using h) n z
theorem zip_binds : ∀ {ns : List Str} {us : List Value}, us.length = ns.length → ns.Nodup → ns.filterMap (fun n => ((ns.zip us).lookup n).map (n, ·)) = ns.zip us := by
  have gen : ∀ (ns : List Str) (us : List Value) (pre : List (Str × Value)), us.length = ns.length → ns.Nodup → (∀ n ∈ ns, ∀ p ∈ pre, p.1 ≠ n) → ns.filterMap (fun n => ((pre ++ ns.zip us).lookup n).map (n, ·)) = ns.zip us := by
    intro ns
    induction ns with
    | nil => intro us pre h _ _; rfl
    | cons m ns ih =>
      intro us pre h nd hp
      cases us with
      | nil => simp at h
      | cons u us =>
        have hl : ∀ (pre : List (Str × Value)) (r : List (Str × Value)), (∀ p ∈ pre, p.1 ≠ m) → (pre ++ (m, u) :: r).lookup m = some u := by
          intro pre
          induction pre with
          | nil => intro r _; simp [List.lookup_cons]
          | cons q pre ih2 =>
            intro r hq
            have hne : (m == q.1) = false := by
              have := hq q (by simp)
              simpa using (fun z => this z.symm)
            rw [List.cons_append, List.lookup_cons, hne]
            exact ih2 r fun p hp => hq p (by simp [hp])
        rw [List.zip_cons_cons, List.filterMap_cons, hl pre _ (hp m (by simp))]
        simp only [Option.map_some]
        congr 1
        have := ih us (pre ++ [(m, u)]) (by simpa using h) (List.nodup_cons.mp nd).2 (fun n hn p hpm => by
          rcases List.mem_append.mp hpm with z | z
          · exact hp n (by simp [hn]) p z
          · simp at z
            subst z
            intro e
            have e' : m = n := e
            exact (List.nodup_cons.mp nd).1 (by rw [e']; exact hn))
        have e : pre ++ (m, u) :: ns.zip us = pre ++ [(m, u)] ++ ns.zip us := by simp
        rw [e]
        exact this
  intro ns us h nd
  exact gen ns us [] h nd (by simp)
/-- parameters that are names alone -/
def plainArgs (p : Arguments) : Bool := match p with
  | ⟨[], as, none, [], [], none, []⟩ => true
  | _ => false
theorem bind_plain {x qual : Str} {params : Arguments} {body : List Stmt} {scope : Scope} {kV doc pm cd ct : Value} {an : Option Addr} {us : List Value} (hp : plainArgs params = true) (hl : us.length = (params.args.map (·.arg)).length) (nd : (params.args.map (·.arg)).Nodup) :
    bindArgs (PySem.W.fnOf x qual params body scope .none kV doc pm an cd ct) ⟨us, []⟩ = pure ((params.args.map (·.arg)).zip us) := by
  obtain ⟨po, as, va, ko, kd, kw, df⟩ := params
  unfold plainArgs at hp
  split at hp
  · rename_i as' heq
    cases heq
    dsimp only at hl nd ⊢
    generalize hns : as.map (·.arg) = ns at hl nd ⊢
    have hpos : (PySem.W.fnOf x qual ⟨[], as, none, [], [], none, []⟩ body scope .none kV doc pm an cd ct).params = ⟨[], as, none, [], [], none, []⟩ := rfl
    have hdf : (PySem.W.fnOf x qual ⟨[], as, none, [], [], none, []⟩ body scope .none kV doc pm an cd ct).defaults = .none := rfl
    have hse : seqItems? .none = pure none := rfl
    have hmiss : (ns.filter fun n => ((ns.zip us).lookup n).isNone) = [] := by
      rw [List.filter_eq_nil_iff]
      intro n hn
      have := zip_lookup hl n hn
      cases e : (ns.zip us).lookup n <;> simp [e] at this ⊢
    unfold bindArgs
    rw [hpos, hdf, hse]
    simp only [hns, List.map_nil, List.nil_append, List.append_nil, pure_bind, Option.getD_none, List.forIn_nil, List.drop_nil, List.length_nil, Nat.sub_zero, List.take_length, List.zip_nil_right, List.isEmpty_nil, hmiss, zip_binds hl nd, hl]
    simp
  · cases hp

/-! ### the table of defs -/
structure Df where
  st : Stmt
  x : Str
  N : List Str
  fn : Fn
def Df.ps (d : Df) : List Str := (defArgs d.st).args.map (·.arg)
def Df.dd (d : Df) : He.DefD := ⟨(d.x, none), d.x, d.x, defArgs d.st, defBody d.st, defScope d.st, [], []⟩
def ckDf (fns free gls : List Str) (d : Df) : Bool :=
  let sc := defScope d.st
  plainArgs (defArgs d.st) && (match sc.kind with | .function => true | _ => false) && !sc.isCoroutine && !sc.isGenerator && decide d.N.Nodup && decide (d.N.take d.ps.length = d.ps) && decide d.ps.Nodup &&
    d.ps.all (fun x => locB sc x) && sc.names.all (fun y => decide (y.2 ≠ .free)) && sc.names.all (fun y => decide (sc.names.lookup y.1 = some y.2)) && decide (d.fn.np = d.ps.length) && decide (d.fn.ns = d.N.length) && decide (d.ps.length ≤ d.N.length) &&
    ckSs 300 ⟨d.N, sc, storeNames sc, fns, free, gls⟩ d.fn.body (defBody d.st)
def faOf (defs : List Df) (free : List Str) : List He.Fa := defs.map (fun d => .glo d.x) ++ free.map .free
theorem locB_ {sc : Scope} {x : Str} (h : locB sc x = true) : sc.names.lookup x = some .local ∨ sc.names.lookup x = some .cell := by
  unfold locB at h
  split at h
  · rename_i e; exact .inl e
  · rename_i e; exact .inr e
  · cases h
section
variable {P : Program} {w : World} {K : PySem.W.Frag} {mg : Str → Option Value} {base : Heap} {defs : List Df} {free gls : List Str} {gl : List S}
/-- what a def's table entry needs of the heap -/
structure Std (K : PySem.W.Frag) (mg : Str → Option Value) (d : Df) (a : Addr) (fd : FuncData) : Prop where
  fn : FunD K d.x d.x (defArgs d.st) (defBody d.st) (defScope d.st) [] [] a fd
  glo : mg d.x = some (.ref a)
theorem start_ok {ι : List Addr} {μ : Sto} {H : Hp} {xs : List S} {vs : List V} {N : List Str} (rl : Rl K ι μ H) (rs : Reps K ι H xs vs) (hl : xs.length ≤ N.length) : St_ K ι (xs.map some ++ List.replicate (N.length - xs.length) none) μ (L2.start N vs) H := by
  have hv := rs.length
  refine ⟨rl, by unfold L2.start; simp [hv], fun i x e => ?_⟩
  unfold L2.start
  rw [List.getElem?_append] at e ⊢
  split at e
  · rename_i hi
    simp only [List.getElem?_map] at e
    obtain ⟨y, e1, e2⟩ := omap e
    cases e2
    obtain ⟨v, h1, h2⟩ := rs.get e1
    refine ⟨v, ?_, h2⟩
    rw [if_pos (by simpa [← hv] using hi), List.getElem?_map, h1]
    rfl
  · rename_i hi
    rw [List.getElem?_replicate] at e
    split at e <;> cases e
theorem prog_ok (hck : defs.all (ckDf (defs.map (·.x)) free gls) = true) (adr : Df → Addr) (fds : Df → FuncData) (hs : ∀ d ∈ defs, Std K mg d (adr d) (fds d)) (hfree : ∀ x ∈ free, mg x = none)
    (hgl : ∀ (j : Nat) (x : Str) (s : S), gls[j]? = some x → gl[j]? = some s → ∃ u v, mg x = some u ∧ RelV v u ∧ ∀ ι H, Rep K ι H s v) :
    ∀ (k f : Nat) (d : Df), defs[f]? = some d → FnOk P w K mg base CX0 k (adr d) (fds d) d.ps (spC K (callK (defs.map (·.fn)) gl k f)) := by
  intro k
  induction k with
  | zero =>
    intro f d hd
    refine ⟨fun vs H Q E h => ?_, fun A outer s H args us vs Q E _ _ _ _ h => ?_⟩
    · obtain ⟨ι, μ, xs, d', μ', _, _, h, _⟩ := h
      cases h
    · obtain ⟨ι, μ, xs, d', μ', _, _, h, _⟩ := h
      cases h
  | succ k ih =>
    intro f d hd
    have hmem := List.mem_of_getElem? hd
    have hc := List.all_eq_true.mp hck d hmem
    simp only [ckDf, Bool.and_eq_true, Bool.not_eq_true', decide_eq_true_eq] at hc
    obtain ⟨⟨⟨⟨⟨⟨⟨⟨⟨⟨⟨⟨⟨c1, c2⟩, c3⟩, c4⟩, c5⟩, c6⟩, c7⟩, c8⟩, c9⟩, c10⟩, c11⟩, c12⟩, c13⟩, c14⟩ := hc
    have hk : (defScope d.st).kind = .function := by
      split at c2
      · rename_i e; exact e
      · cases c2
    have uniq : ∀ y ∈ (defScope d.st).names, (defScope d.st).names.lookup y.1 = some y.2 := fun y hy => by
      have := List.all_eq_true.mp c10 y hy
      simpa using this
    have S : FnScope d.N d.ps (defScope d.st) := ⟨hk, c3, c4, c5, c6, fun x hx => locB_ (List.all_eq_true.mp c8 x hx), fun y hy => by
      have := List.all_eq_true.mp c9 y hy
      simpa using this⟩
    have hfn : (defs.map (·.fn))[f]? = some d.fn := by rw [List.getElem?_map, hd]; rfl
    have lens : ∀ {kk f d xs μ r}, defs[f]? = some d → d.fn.np = d.ps.length → callK (defs.map (·.fn)) gl kk f xs μ = some r → xs.length = d.ps.length := fun {kk f d xs μ r} hd hn h => by
      cases kk with
      | zero => cases h
      | succ kk =>
        have hfn : (defs.map (·.fn))[f]? = some d.fn := by rw [List.getElem?_map, hd]; rfl
        simp only [callK, hfn, Option.bind_some] at h
        split at h
        · rename_i e; rw [e, hn]
        · cases h
    refine (hs d hmem).fn.ok S (fun vs H Q E h => ?_) (fun cdv A outer s H vs Q E hr h => ⟨sD K (run (callK (defs.map (·.fn)) gl k) gl d.fn.body), PSs.nox ?_, ?_⟩)
    · obtain ⟨ι, μ, xs, d', μ', _, rs, h, _⟩ := h
      rw [← rs.length]
      exact lens hd c11 h
    · refine (sndS (k := k) 300).ss c14 ⟨rfl, c5, rfl, rfl, hk, rfl, fun x hx => ?_, hr, hfree, hgl, fun f' x' hx' => ?_⟩
      · unfold storeNames at hx
        obtain ⟨⟨y, kk⟩, h1, h2⟩ := List.mem_map.mp hx
        obtain ⟨h3, h4⟩ := List.mem_filter.mp h1
        cases h2
        have h5 := uniq _ h3
        cases kk <;> simp at h4
        · exact ⟨.inl h5, .inl rfl⟩
        · exact ⟨.inr h5, .inl rfl⟩
      · obtain ⟨d', hd', e'⟩ := omap (show (defs[f']?).map (·.x) = some x' by rw [← List.getElem?_map]; exact hx')
        subst e'
        have hm' := List.mem_of_getElem? hd'
        have hc' := List.all_eq_true.mp hck d' hm'
        simp only [ckDf, Bool.and_eq_true, Bool.not_eq_true', decide_eq_true_eq] at hc'
        obtain ⟨⟨⟨⟨⟨⟨⟨⟨⟨⟨⟨⟨⟨k1, _⟩, _⟩, _⟩, _⟩, _⟩, k7⟩, _⟩, _⟩, _⟩, k11⟩, _⟩, _⟩, _⟩ := hc'
        refine ⟨adr d', fds d', d'.ps, d'.ps.length, (hs d' hm').glo, (hs d' hm').fn.kp, (hs d' hm').fn.bindsN fun kV doc pm an cdv ct us hl => bind_plain k1 hl k7, rfl, fun xs μ r h => lens hd' k11 h, ih f' d' hd'⟩
    · obtain ⟨ι, μ, xs, d', μ', rl, rs, h, q⟩ := h
      simp only [callK, hfn, Option.bind_some] at h
      split at h
      · rename_i hl
        obtain ⟨r, h1, h2⟩ := obind h
        have hlx : xs.length ≤ d.N.length := by rw [hl, c11]; exact c13
        refine ⟨ι, _, μ, r, start_ok rl rs hlx, ?_, ?_⟩
        · rw [c12] at h1
          rw [hl]
          exact h1
        · obtain ⟨fl, g2, μ2⟩ := r
          cases fl with
          | ret dd =>
            dsimp only at h2
            intro ι' H' v p
            obtain ⟨ι2, p2⟩ := fin_ok rl h2 p
            exact q ι2 H' v p2
          | nx =>
            dsimp only at h2
            intro ι' H' σ' x s'
            obtain ⟨ι2, p2⟩ := fin_ok (v := .non) rl h2 ⟨x, s'.rl, rfl, fun _ e => nomatch e⟩
            exact q ι2 H' .non p2
          | bk => cases h2
          | ct => cases h2
      · cases h
end
end Dv
end
section
set_option Elab.async false
set_option linter.all false
set_option maxRecDepth 100000
set_option maxHeartbeats 4000000
/-! Dv21: the end: a law by its table. -/
namespace Dv
open PySem PySem.Spec PyProof.Rows L2
/-! ### the text's own constants -/
def vB : S → Value → Bool
  | .non, .none => true
  | .bl b, .bool c => b == c
  | .int i, .int j _ => i == j
  | .str x, .str y _ => decide (x = y)
  | _, _ => false
def vsB : List S → List Value → Bool
  | [], [] => true
  | x :: xs, v :: vs => vB x v && vsB xs vs
  | _, _ => false
def conB (K : PySem.W.Frag) (c : Str × S) : Bool :=
  match c.2 with
  | .ktu xs => (match PySem.W.nsIn K mainGlobals c.1 with
    | some (some (.ref a)) => (match K.lookup a with
      | some ⟨.type t, _, .seq its _, _⟩ => decide (t = "tuple") && decide (its.size ≤ sizeLine) && vsB xs its.toList
      | _ => false)
    | _ => false)
  | s => (match PySem.W.nsIn K mainGlobals c.1 with
    | some (some u) => vB s u
    | _ => false)
theorem vB_ok {K : PySem.W.Frag} {s : S} {u : Value} (h : vB s u = true) : ∃ v, RelV v u ∧ ∀ ι H, Rep K ι H s v := by
  unfold vB at h
  split at h
  · exact ⟨.non, rfl, fun _ _ => rfl⟩
  · rename_i b c
    have e : b = c := by simpa using h
    subst e
    exact ⟨.bl b, rfl, fun _ _ => rfl⟩
  · rename_i i j t
    have e : i = j := by simpa using h
    subst e
    exact ⟨.int i, ⟨t, rfl⟩, fun _ _ => rfl⟩
  · rename_i x y t
    have e : x = y := by simpa using h
    subst e
    exact ⟨.str x, ⟨t, rfl⟩, fun _ _ => rfl⟩
  · cases h
theorem vsB_ok {K : PySem.W.Frag} : ∀ {xs : List S} {us : List Value}, vsB xs us = true → ∃ vs, Vals vs us ∧ ∀ ι H, Reps K ι H xs vs
  | [], [], _ => ⟨[], .nil, fun _ _ => rfl⟩
  | [], _ :: _, h => by simp [vsB] at h
  | _ :: _, [], h => by simp [vsB] at h
  | x :: xs, u :: us, h => by
    simp only [vsB, Bool.and_eq_true] at h
    obtain ⟨v, h1, h2⟩ := vB_ok (K := K) h.1
    obtain ⟨vs, h3, h4⟩ := vsB_ok h.2
    exact ⟨v :: vs, .cons h1 h3, fun ι H => ⟨v, vs, rfl, h2 ι H, h4 ι H⟩⟩
theorem conB_ok {K : PySem.W.Frag} {h : Heap} {mg : Str → Option Value} (X : K.In h) (G : h.Ns mainGlobals mg) {x : Str} {s : S} (c : conB K (x, s) = true) : ∃ u v, mg x = some u ∧ RelV v u ∧ ∀ ι H, Rep K ι H s v := by
  have flat : (match PySem.W.nsIn K mainGlobals x with
    | some (some u) => vB s u
    | _ => false) = true → ∃ u v, mg x = some u ∧ RelV v u ∧ ∀ ι H, Rep K ι H s v := fun q => by
    split at q
    · rename_i u e
      obtain ⟨v, h1, h2⟩ := vB_ok (K := K) q
      exact ⟨u, v, PySem.W.mg_of X G e, h1, h2⟩
    · cases q
  unfold conB at c
  dsimp only at c
  split at c
  · rename_i xs
    split at c
    · rename_i a e
      split at c
      · rename_i t dd its nn sl e2
        simp only [Bool.and_eq_true, decide_eq_true_eq] at c
        obtain ⟨⟨rfl, hz⟩, hv⟩ := c
        obtain ⟨vs, h1, h2⟩ := vsB_ok (K := K) hv
        exact ⟨_, .ref a, PySem.W.mg_of X G e, rfl, fun ι H => ⟨a, vs, rfl, ⟨_, its, nn, e2, rfl, rfl, hz, h1⟩, h2 ι H⟩⟩
      · cases c
    · cases c
  · exact flat c
/-! ### the head's hook -/
abbrev AlX : Type := He.AlD × Bool
def obsX (fa : List He.Fa) (fn : List He.DefD) (cs : List (Str × S)) (K : PySem.W.Frag) : AlX := (He.obsD fa fn K, cs.all fun c => conB K c)
def obsXG (n : Nat) (fa : List He.Fa) (fn : List He.DefD) (cs : List (Str × S)) (g : Addr → Option Obj) : AlX := obsX fa fn cs (He.frG g (He.asD g n))
def hookX (n : Nat) (fa : List He.Fa) (fn : List He.DefD) (cs : List (Str × S)) : PySem.W.Hook where
  α := AlX
  obs := fun s => obsXG n fa fn cs s.heap.get?
  val := fun _ => (He.valD fn, true)
  says := fun _ h => ∃ K : PySem.W.Frag, K.In h ∧ obsX fa fn cs K = (He.valD fn, true)
  of := fun _ _ e => ⟨_, He.frG_in, e⟩
  keeps := fun _ _ _ ⟨K, hK, c⟩ k => ⟨K, PySem.W.Frag.In.keeps hK k, c⟩
theorem obsXG_eq {n : Nat} {fa : List He.Fa} {fn : List He.DefD} {cs : List (Str × S)} {g : Addr → Option Obj} {s : Shared} (h : ∀ a, g a = s.heap.get? a) : obsXG n fa fn cs g = (hookX n fa fn cs).obs s := by
  have e : g = s.heap.get? := funext h
  rw [e] <;> rfl
/-! ### the law -/
section
variable {defs : List Df} {free gls : List Str} {gl : List S}
/-- the law's def, by the table -/
theorem law_fn {P : Program} {w : World} {K : PySem.W.Frag} {h : Heap} {mg : Str → Option Value} {fa0 : Addr} {n : Nat} {dl : Df} (hck : defs.all (ckDf (defs.map (·.x)) free gls) = true) (hgl : gls.length = gl.length) (hd : defs[n]? = some dl) (hx : dl.x = ("law" : Str)) (hps : dl.ps = (["script"] : List Str)) (k : Nat)
    (X : K.In h) (G : h.Ns mainGlobals mg) (c : obsX (faOf defs free) (defs.map Df.dd) (gls.zip gl) K = (He.valD (defs.map Df.dd), true)) (hfa : mg ("law" : Str) = some (.ref fa0)) :
    ∃ fd : FuncData, (∀ (s : Shared) (v : Value), BindsTo s fd ⟨[v], []⟩ [(("script" : Str), v)]) ∧ ∀ base : Heap, K.In base → base.Ns mainGlobals mg → FnOk P w K mg base CX0 k fa0 fd (["script"] : List Str) (spC K (callK (defs.map (·.fn)) gl k n)) := by
  have c1 : He.SaysD (faOf defs free) (defs.map Df.dd) K := congrArg (fun z : AlX => z.1) c
  have c2 : ((gls.zip gl).all fun c => conB K c) = true := congrArg (fun z : AlX => z.2) c
  have glo : ∀ d ∈ defs, mg d.x = some (.ref (He.ga K d.x)) := fun d hdm => by
    obtain ⟨i, hi, e⟩ := List.getElem_of_mem hdm
    have e' : (faOf defs free)[i]? = some (.glo d.x) := by
      unfold faOf
      rw [List.getElem?_append_left (by simpa using hi), List.getElem?_map, List.getElem?_eq_getElem hi, e]
      rfl
    exact He.glo_ok X G (c1.fact i e')
  have fr : ∀ x ∈ free, mg x = none := fun x hx => by
    obtain ⟨i, hi, e⟩ := List.getElem_of_mem hx
    have e' : (faOf defs free)[defs.length + i]? = some (.free x) := by
      unfold faOf
      rw [List.getElem?_append_right (by simp), List.getElem?_map]
      simp [List.getElem?_eq_getElem hi, e]
    exact He.free_ok X G (c1.fact _ e')
  have fns : ∀ d ∈ defs, ∃ fd, FunD K d.x d.x (defArgs d.st) (defBody d.st) (defScope d.st) [] [] (He.ga K d.x) fd := fun d hdm => by
    obtain ⟨i, hi, e⟩ := List.getElem_of_mem hdm
    have e' : (defs.map Df.dd)[i]? = some d.dd := by rw [List.getElem?_map, List.getElem?_eq_getElem hi, e]; rfl
    exact c1.def_ i e'
  have gls' : ∀ (j : Nat) (x : Str) (s : S), gls[j]? = some x → gl[j]? = some s → ∃ u v, mg x = some u ∧ RelV v u ∧ ∀ ι H, Rep K ι H s v := fun j x s h1 h2 => by
    have hm : (x, s) ∈ gls.zip gl := by
      have : (gls.zip gl)[j]? = some (x, s) := by rw [List.getElem?_zip_eq_some]; exact ⟨h1, h2⟩
      exact List.mem_of_getElem? this
    exact conB_ok X G (List.all_eq_true.mp c2 _ hm)
  classical
  let fds : Df → FuncData := fun d => if hm : d ∈ defs then Classical.choose (fns d hm) else default
  have hfds : ∀ d ∈ defs, Std K mg d (He.ga K d.x) (fds d) := fun d hm => by
    refine ⟨?_, glo d hm⟩
    show FunD K _ _ _ _ _ _ _ _ (if hm : d ∈ defs then Classical.choose (fns d hm) else default)
    rw [dif_pos hm]
    exact Classical.choose_spec (fns d hm)
  have hdm := List.mem_of_getElem? hd
  have eadr : He.ga K dl.x = fa0 := by
    have := glo dl hdm
    rw [hx] at this ⊢
    rw [hfa] at this
    cases this; rfl
  have hc := List.all_eq_true.mp hck dl hdm
  simp only [ckDf, Bool.and_eq_true, Bool.not_eq_true', decide_eq_true_eq] at hc
  obtain ⟨⟨⟨⟨⟨⟨⟨⟨⟨⟨⟨⟨⟨k1, _⟩, _⟩, _⟩, _⟩, _⟩, k7⟩, _⟩, _⟩, _⟩, k11⟩, _⟩, _⟩, _⟩ := hc
  refine ⟨fds dl, fun s v => ?_, fun base _ _ => ?_⟩
  · have b := (hfds dl hdm).fn.bindsA (ps := dl.ps) (fun kV doc pm an cdv ct us hl => bind_plain k1 hl k7) s [v] (by rw [hps]; rfl)
    rw [hps] at b
    exact b
  · have F := prog_ok (P := P) (w := w) (K := K) (mg := mg) (base := base) (gl := gl) hck (fun d => He.ga K d.x) fds hfds fr gls' k n dl hd
    rw [hps] at F
    rw [eadr] at F
    exact F
/-- THE END: a law holds if the table's law gives True for every script -/
theorem walk_law {l : PySem.W.OpenLaw} {q : Program} {loose : List Str} {XP : (Str → Option Value) → Heap → Prop} {d : DefRec} {n k N : Nat} {dl : Df} (hn : l.most = some N) (hn2 : N ≤ sizeLine) (hdf : d.params.defaults = []) (hr : Room k callerA) (hdn : d.name = ("law" : Str))
    (hck : defs.all (ckDf (defs.map (·.x)) free gls) = true) (hgl : gls.length = gl.length) (hd : defs[n]? = some dl) (hx : dl.x = ("law" : Str)) (hps : dl.ps = (["script"] : List Str))
    (law : ∀ ns : List Int, ns.length ≤ N → ∃ μ, callK (defs.map (·.fn)) gl k n [.rol (ns.map .int)] [] = some (.s (.bl true), μ)) :
    PySem.W.WalkO q loose XP (hookX 4 (faOf defs free) (defs.map Df.dd) (gls.zip gl)).says l.row.toRowW d [] (fun f vs => PySem.call f vs) := by
  refine L2.walk_ofE (n := N) (k := k) (x := "script") (CX := CX0) hn hn2 hdf hr ?F fun _ _ _ _ z => z
  intro w mg fa h Y G hmg
  obtain ⟨K, KX, c⟩ := Y
  rw [hdn] at hmg
  obtain ⟨fd, hb, hF⟩ := law_fn (P := l.prog) (w := w) hck hgl hd hx hps k KX G c hmg
  refine ⟨K, fd, _, KX, hb, fun H a ns hl ho hS => ?_, hF⟩
  obtain ⟨μ, hlaw⟩ := law ns hl
  have hF' : SqF K H a (ns.map V.int) := by
    rcases hS with hS | hS
    · rcases hS with hS | ⟨ob, hS⟩
      · rcases ho a with z | ⟨o, xs, z⟩
        · rw [z] at hS; cases hS
        · rw [z] at hS; cases hS
      · exact .inl ⟨ob, hS⟩
    · exact .inr hS
  refine ⟨[], [], [.rol (ns.map .int)], .s (.bl true), μ, ⟨rfl, List.nodup_nil, fun n o h => by simp at h⟩, ⟨.ref a, [], rfl, ⟨a, _, rfl, hF', reps_ints.mpr rfl⟩, rfl⟩, hlaw, fun ι' H' v p => rep_bl p.rep⟩
end
end Dv
end
section
set_option Elab.async false
set_option linter.all false
set_option maxRecDepth 100000
set_option maxHeartbeats 4000000
/-! Dw1: rules by which a def of the table is run. -/
namespace Dv
open PySem PySem.Spec PyProof.Rows L2
/-- it gives something, of which Q is so -/
def W {α : Type} (m : Option α) (Q : α → Prop) : Prop := ∃ a, m = some a ∧ Q a
section
variable {α β : Type}
theorem W_some {a : α} {Q : α → Prop} : W (some a) Q ↔ Q a := ⟨fun ⟨_, e, h⟩ => by cases e; exact h, fun h => ⟨a, rfl, h⟩⟩
theorem W_none {Q : α → Prop} : W (none : Option α) Q ↔ False := ⟨fun ⟨_, e, _⟩ => (by cases e), fun h => h.elim⟩
theorem W_bind {m : Option α} {f : α → Option β} {Q : β → Prop} : W (m.bind f) Q ↔ W m fun a => W (f a) Q := by
  cases m with
  | none => simp only [Option.bind_none, W_none]
  | some a => simp only [Option.bind_some, W_some]
theorem W_map {m : Option α} {f : α → β} {Q : β → Prop} : W (m.map f) Q ↔ W m fun a => Q (f a) := by
  cases m with
  | none => simp only [Option.map_none, W_none]
  | some a => simp only [Option.map_some, W_some]
theorem W_guard {c : Prop} [Decidable c] {m : Option α} {Q : α → Prop} : W (if c then m else none) Q ↔ c ∧ W m Q := by
  by_cases h : c
  · rw [if_pos h]; exact ⟨fun q => ⟨h, q⟩, fun q => q.2⟩
  · rw [if_neg h, W_none]; exact ⟨False.elim, fun q => h q.1⟩
theorem W_if {c : Prop} [Decidable c] {m n : Option α} {Q : α → Prop} : W (if c then m else n) Q ↔ (c → W m Q) ∧ (¬ c → W n Q) := by
  by_cases h : c
  · rw [if_pos h]; exact ⟨fun q => ⟨fun _ => q, fun n => absurd h n⟩, fun q => q.1 h⟩
  · rw [if_neg h]; exact ⟨fun q => ⟨fun n => absurd n h, fun _ => q⟩, fun q => q.2 h⟩
theorem W_mono {m : Option α} {P Q : α → Prop} (h : W m P) (k : ∀ a, P a → Q a) : W m Q := by
  obtain ⟨a, e, p⟩ := h
  exact ⟨a, e, k a p⟩
theorem W_eq {m : Option α} {a : α} : W m (fun b => b = a) ↔ m = some a := ⟨fun ⟨_, e, h⟩ => by rw [e, h], fun h => ⟨a, h, rfl⟩⟩
theorem W_of {m : Option α} {a : α} {Q : α → Prop} (h : m = some a) (q : Q a) : W m Q := ⟨a, h, q⟩
end
/-! ### the frame -/
theorem get_zero {a : Option S} {g : Sig} : get (a :: g) 0 = a := by
  simp only [get, List.getElem?_cons_zero, Option.join_some]
theorem get_succ {a : Option S} {g : Sig} {n : Nat} : get (a :: g) (n + 1) = get g n := by
  simp only [get, List.getElem?_cons_succ]
theorem toS_s {x : S} {μ : Sto} : toS (.s x) μ = (x, μ) := rfl
theorem toS_new {o : Ob} {μ : Sto} : toS (.new o) μ = (.loc μ.length, μ ++ [o]) := rfl
/-! ### the store -/
theorem app_get0 (μ : Sto) (o : Ob) (l : Sto) : (μ ++ o :: l)[μ.length]? = some o := by
  rw [List.getElem?_append_right (Nat.le_refl _), Nat.sub_self]; rfl
theorem app_get (μ l : Sto) (i : Nat) : (μ ++ l)[μ.length + i]? = l[i]? := by
  rw [List.getElem?_append_right (Nat.le_add_right _ _), Nat.add_sub_cancel_left]
theorem app_set0 (μ : Sto) (o p : Ob) (l : Sto) : (μ ++ o :: l).set μ.length p = μ ++ p :: l := by
  rw [List.set_append_right _ _ (Nat.le_refl _), Nat.sub_self]; rfl
theorem app_set (μ l : Sto) (i : Nat) (p : Ob) : (μ ++ l).set (μ.length + i) p = μ ++ l.set i p := by
  rw [List.set_append_right _ _ (Nat.le_add_right _ _), Nat.add_sub_cancel_left]
theorem app_app (μ l m : Sto) : (μ ++ l) ++ m = μ ++ (l ++ m) := List.append_assoc ..
theorem app_take (μ l : Sto) (i : Nat) : (μ ++ l).take (μ.length + i) = μ ++ l.take i := List.take_length_add_append i
theorem app_take0 (μ l : Sto) : (μ ++ l).take μ.length = μ := List.take_left
/-- the lists that were there are the same or hold nothing new -/
def gcP (n : Nat) : Sto → Sto → Prop
  | [], _ => True
  | _ :: _, [] => True
  | o :: r, p :: q => (o = p ∨ p.und n = true) ∧ gcP n r q
theorem gcP_iff (n : Nat) : ∀ (μ μ' : Sto), gcP n μ μ' ↔ gcB n μ μ' = true
  | [], _ => by simp [gcP, gcB]
  | _ :: _, [] => by simp [gcP, gcB]
  | o :: r, p :: q => by simp [gcP, gcB, gcP_iff n r q]
theorem GCok_P {μ μ' : Sto} : GCok μ μ' ↔ gcP μ.length μ μ' := by
  rw [gcP_iff, gcB_iff]; rfl
theorem gcP_nil {n : Nat} {l : Sto} : gcP n [] l ↔ True := Iff.rfl
theorem gcP_cons {n : Nat} {o p : Ob} {r q : Sto} : gcP n (o :: r) (p :: q) ↔ (o = p ∨ p.und n = true) ∧ gcP n r q := Iff.rfl
theorem gcP_refl {n : Nat} : ∀ {μ : Sto}, gcP n μ μ ↔ True
  | [] => Iff.rfl
  | o :: r => by simp only [gcP, true_or, true_and, gcP_refl]
theorem gcP_app {n : Nat} {μ l m : Sto} : gcP n (μ ++ l) (μ ++ m) ↔ gcP n l m := by
  induction μ with
  | nil => exact Iff.rfl
  | cons o r ih => simp only [List.cons_append, gcP, true_or, true_and, ih]
theorem gcP_app_l {n : Nat} {μ m : Sto} : gcP n μ (μ ++ m) ↔ True := by
  have := @gcP_app n μ [] m
  rw [List.append_nil] at this
  rw [this]; exact Iff.rfl
theorem gcP_app_r {n : Nat} {μ m : Sto} : gcP n (μ ++ m) μ ↔ True := by
  have := @gcP_app n μ m []
  rw [List.append_nil] at this
  rw [this]
  cases m <;> exact Iff.rfl
/-! ### plain rows -/
theorem unds_all {n : Nat} : ∀ {xs : List S}, S.unds n xs = true ↔ ∀ x ∈ xs, x.und n = true
  | [] => by simp [S.unds]
  | x :: r => by simp [S.unds, @unds_all n r]
theorem unds_map {n : Nat} {α : Type} {f : α → S} {l : List α} (h : ∀ a, (f a).und n = true) : S.unds n (l.map f) = true :=
  unds_all.mpr fun x hx => by obtain ⟨a, _, rfl⟩ := List.mem_map.mp hx; exact h a
theorem unds_int {n : Nat} {l : List Int} : S.unds n (l.map S.int) = true := unds_map fun _ => rfl
/-- a row of ints -/
abbrev iS (l : List Int) : S := .tup (l.map .int)
abbrev iO (l : List Int) : Ob := .lst (l.map .int)
theorem und_iS {n : Nat} {l : List Int} : (iS l).und n = true := unds_int
theorem und_iO {n : Nat} {l : List Int} : (iO l).und n = true := unds_int
theorem asInts_map : ∀ (l : List Int), asInts (l.map .int) = some l
  | [] => rfl
  | x :: r => by simp only [List.map_cons, asInts, asInts_map r, Option.map_some]
theorem atI_map {α : Type} {f : α → S} {l : List α} {i : Int} (a : α) (h0 : 0 ≤ i) (h : l[i.toNat]? = some a) : atI (l.map f) i = some (f a) := by
  have : i = ((i.toNat : Nat) : Int) := by omega
  rw [this]
  apply atI_nat
  rw [List.getElem?_map, h]; rfl
abbrev nI (i : Nat) : S := .int (i : Int)
theorem rngI_nat (n : Nat) : rngI 0 1 n = (List.range n).map nI := by
  unfold rngI
  congr 1
  funext i
  simp
/-! ### loops -/
theorem gOk_nil {μ : Sto} : gOk [] μ = true := rfl
section
variable {α σ : Type}
/-- a loop that folds -/
theorem for_fold {gs : Grd} {body : S → Sig → Sto → Rs} (f : α → S) (G : σ → Sig) (M : σ → Sto) (P : σ → Prop) (step : σ → α → σ) (hg : ∀ s, P s → gOk gs (M s) = true) :
    ∀ (l : List α) (_ : ∀ s a, a ∈ l → P s → body (f a) (G s) (M s) = some (.nx, G (step s a), M (step s a)) ∧ P (step s a)) (s : σ), P s → forGo gs body (l.map f) (G s) (M s) = some (.nx, G (l.foldl step s), M (l.foldl step s)) ∧ P (l.foldl step s)
  | [], _, s, h => ⟨by simp only [List.map_nil, forGo, hg s h, if_true, List.foldl_nil], h⟩
  | a :: r, hb, s, h => by
    obtain ⟨e, h'⟩ := hb s a (by simp) h
    obtain ⟨e2, h2⟩ := for_fold f G M P step hg r (fun s a ha => hb s a (by simp [ha])) (step s a) h'
    refine ⟨?_, h2⟩
    simp only [List.map_cons, forGo, hg s h, if_true, e, Option.bind_some, List.foldl_cons]
    exact e2
/-- a loop with an invariant, no early end -/
theorem for_inv {gs : Grd} {body : S → Sig → Sto → Rs} (I : List S → Sig → Sto → Prop) (hg : ∀ r g μ, I r g μ → gOk gs μ = true) (hb : ∀ x r g μ, I (x :: r) g μ → W (body x g μ) fun q => (q.1 = .nx ∨ q.1 = .ct) ∧ I r q.2.1 q.2.2) {Q : Fl × Sig × Sto → Prop} :
    ∀ (l : List S) (g : Sig) (μ : Sto), I l g μ → (∀ g μ, I [] g μ → Q (.nx, g, μ)) → W (forGo gs body l g μ) Q
  | [], g, μ, h, hq => by
    simp only [forGo, hg _ _ _ h, if_true, W_some]
    exact hq _ _ h
  | x :: r, g, μ, h, hq => by
    simp only [forGo, hg _ _ _ h, if_true, W_bind]
    refine W_mono (hb x r g μ h) ?_
    rintro ⟨fl, g', μ'⟩ ⟨h1, h2⟩
    rcases h1 with h1 | h1
    · cases h1; exact for_inv I hg hb r g' μ' h2 hq
    · cases h1; exact for_inv I hg hb r g' μ' h2 hq
/-- a loop that may end early -/
theorem for_any {gs : Grd} {body : S → Sig → Sto → Rs} (I : List S → Sig → Sto → Prop) {Q : Fl × Sig × Sto → Prop} (hg : ∀ r g μ, I r g μ → gOk gs μ = true)
    (hb : ∀ x r g μ, I (x :: r) g μ → W (body x g μ) fun q => match q.1 with | .nx => I r q.2.1 q.2.2 | .ct => I r q.2.1 q.2.2 | .bk => Q (.nx, q.2) | .ret d => Q (.ret d, q.2)) :
    ∀ (l : List S) (g : Sig) (μ : Sto), I l g μ → (∀ g μ, I [] g μ → Q (.nx, g, μ)) → W (forGo gs body l g μ) Q
  | [], g, μ, h, hq => by
    simp only [forGo, hg _ _ _ h, if_true, W_some]
    exact hq _ _ h
  | x :: r, g, μ, h, hq => by
    simp only [forGo, hg _ _ _ h, if_true, W_bind]
    refine W_mono (hb x r g μ h) ?_
    rintro ⟨fl, g', μ'⟩ h1
    cases fl with
    | nx => exact for_any I hg hb r g' μ' h1 hq
    | ct => exact for_any I hg hb r g' μ' h1 hq
    | bk => exact ⟨_, rfl, h1⟩
    | ret d => exact ⟨_, rfl, h1⟩
/-- a comprehension that keeps the store -/
theorem lc_map {gs : Grd} {body : S → Sto → Option (Option S × Sto)} {μ : Sto} (f : α → S) (e : α → S) (hg : gOk gs μ = true) :
    ∀ (l : List α) (_ : ∀ a ∈ l, body (f a) μ = some (some (e a), μ)) (acc : List S), acc.length + l.length ≤ LINE → lcGo gs body (l.map f) acc μ = some (acc ++ l.map e, μ)
  | [], _, acc, _ => by simp only [List.map_nil, lcGo, hg, if_true, List.append_nil]
  | a :: r, hb, acc, hl => by
    have h1 : acc.length < LINE := by simp only [List.length_cons] at hl; omega
    simp only [List.map_cons, lcGo, hg, if_true, hb a (by simp), Option.bind_some, if_pos h1]
    rw [lc_map f e hg r (fun a ha => hb a (by simp [ha])) (acc ++ [e a]) (by simp only [List.length_append, List.length_cons, List.length_nil] at hl ⊢; omega)]
    simp
/-- one that leaves out -/
theorem lc_filter {gs : Grd} {body : S → Sto → Option (Option S × Sto)} {μ : Sto} (f : α → S) (p : α → Bool) (e : α → S) (hg : gOk gs μ = true) :
    ∀ (l : List α) (_ : ∀ a ∈ l, body (f a) μ = some (if p a = true then some (e a) else none, μ)) (acc : List S), acc.length + l.length ≤ LINE → lcGo gs body (l.map f) acc μ = some (acc ++ (l.filter p).map e, μ)
  | [], _, acc, _ => by simp only [List.map_nil, lcGo, hg, if_true, List.filter_nil, List.map_nil, List.append_nil]
  | a :: r, hb, acc, hl => by
    have h1 : acc.length < LINE := by simp only [List.length_cons] at hl; omega
    simp only [List.map_cons, lcGo, hg, if_true, hb a (by simp), Option.bind_some]
    by_cases hp : p a = true
    · simp only [if_pos hp, if_pos h1]
      rw [lc_filter f p e hg r (fun a ha => hb a (by simp [ha])) (acc ++ [e a]) (by simp only [List.length_append, List.length_cons, List.length_nil] at hl ⊢; omega)]
      simp [List.filter_cons, hp]
    · simp only [if_neg hp]
      rw [lc_filter f p e hg r (fun a ha => hb a (by simp [ha])) acc (by simp only [List.length_cons] at hl; omega)]
      simp [List.filter_cons, hp]
/-- a comprehension with an invariant: the places so far, the rest -/
theorem lcI {gs : Grd} {body : S → Sto → Option (Option S × Sto)} (I : List S → List S → Sto → Prop) (hg : ∀ r acc μ, I r acc μ → gOk gs μ = true ∧ acc.length + r.length ≤ LINE) (hb : ∀ x r acc μ, I (x :: r) acc μ → W (body x μ) fun q => match q.1 with | some y => I r (acc ++ [y]) q.2 | none => I r acc q.2) {Q : List S × Sto → Prop} :
    ∀ (l : List S) (acc : List S) (μ : Sto), I l acc μ → (∀ acc μ, I [] acc μ → Q (acc, μ)) → W (lcGo gs body l acc μ) Q
  | [], acc, μ, h, hq => by
    simp only [lcGo, (hg _ _ _ h).1, if_true, W_some]
    exact hq _ _ h
  | x :: r, acc, μ, h, hq => by
    have hh := (hg _ _ _ h).2
    have h1 : acc.length < LINE := by simp only [List.length_cons] at hh; omega
    simp only [lcGo, (hg _ _ _ h).1, if_true, W_bind]
    refine W_mono (hb x r acc μ h) ?_
    rintro ⟨fl, μ'⟩ h2
    cases fl with
    | none => exact lcI I hg hb r acc μ' h2 hq
    | some y => simp only [if_pos h1]; exact lcI I hg hb r (acc ++ [y]) μ' h2 hq
end
section
variable {α β σ : Type}
/-- a loop over states -/
theorem for_st {gs : Grd} {body : S → Sig → Sto → Rs} (f : α → S) (G : σ → Sig) (M : σ → Sto) (I : List α → σ → Prop) (hg : ∀ r s, I r s → gOk gs (M s) = true) (hb : ∀ a r s, I (a :: r) s → ∃ s', body (f a) (G s) (M s) = some (.nx, G s', M s') ∧ I r s') :
    ∀ (l : List α) (s : σ), I l s → ∃ s', forGo gs body (l.map f) (G s) (M s) = some (.nx, G s', M s') ∧ I [] s'
  | [], s, h => ⟨s, by simp only [List.map_nil, forGo, hg _ _ h, if_true], h⟩
  | a :: r, s, h => by
    obtain ⟨s1, e, h1⟩ := hb a r s h
    obtain ⟨s2, e2, h2⟩ := for_st f G M I hg hb r s1 h1
    refine ⟨s2, ?_, h2⟩
    simp only [List.map_cons, forGo, hg _ _ h, if_true, e, Option.bind_some]
    exact e2
/-- a loop that folds, by what is left -/
theorem for_foldI {gs : Grd} {body : S → Sig → Sto → Rs} (f : α → S) (G : σ → Sig) (M : σ → Sto) (step : σ → α → σ) (I : List α → σ → Prop) (hg : ∀ r s, I r s → gOk gs (M s) = true) (hb : ∀ a r s, I (a :: r) s → body (f a) (G s) (M s) = some (.nx, G (step s a), M (step s a)) ∧ I r (step s a)) :
    ∀ (l : List α) (s : σ), I l s → forGo gs body (l.map f) (G s) (M s) = some (.nx, G (l.foldl step s), M (l.foldl step s)) ∧ I [] (l.foldl step s)
  | [], s, h => ⟨by simp only [List.map_nil, forGo, hg _ _ h, if_true, List.foldl_nil], h⟩
  | a :: r, s, h => by
    obtain ⟨e, h1⟩ := hb a r s h
    obtain ⟨e2, h2⟩ := for_foldI f G M step I hg hb r _ h1
    refine ⟨?_, h2⟩
    simp only [List.map_cons, forGo, hg _ _ h, if_true, e, Option.bind_some, List.foldl_cons]
    exact e2
/-- a comprehension over states -/
theorem lc_st {gs : Grd} {body : S → Sto → Option (Option S × Sto)} (f : α → S) (e : β → S) (M : σ → Sto) (I : List α → List β → σ → Prop) (hg : ∀ r acc s, I r acc s → gOk gs (M s) = true) (hb : ∀ a r acc s, I (a :: r) acc s → ∃ b s', body (f a) (M s) = some (some (e b), M s') ∧ I r (acc ++ [b]) s') :
    ∀ (l : List α) (acc : List β) (s : σ), I l acc s → acc.length + l.length ≤ LINE → ∃ bs s', lcGo gs body (l.map f) (acc.map e) (M s) = some (bs.map e, M s') ∧ I [] bs s'
  | [], acc, s, h, _ => ⟨acc, s, by simp only [List.map_nil, lcGo, hg _ _ _ h, if_true], h⟩
  | a :: r, acc, s, h, hl => by
    obtain ⟨b, s1, e1, h1⟩ := hb a r acc s h
    simp only [List.length_cons] at hl
    obtain ⟨bs, s2, e2, h2⟩ := lc_st f e M I hg hb r (acc ++ [b]) s1 h1 (by simp only [List.length_append, List.length_cons, List.length_nil]; omega)
    refine ⟨bs, s2, ?_, h2⟩
    have hl' : (acc.map e).length < LINE := by rw [List.length_map]; omega
    simp only [List.map_cons, lcGo, hg _ _ _ h, if_true, e1, Option.bind_some, if_pos hl']
    rw [List.map_append] at e2
    exact e2
end
/-! ### a call -/
theorem call_at {tb : List Fn} {gl : List S} {k f : Nat} {xs : List S} {μ : Sto} {fn : Fn} (h : tb[f]? = some fn) (hl : xs.length = fn.np) :
    callK tb gl (k + 1) f xs μ = (run (callK tb gl k) gl fn.body (xs.map some ++ List.replicate (fn.ns - fn.np) none) μ).bind fun r => match r.1 with
        | .ret d => fin fn.gc μ d r.2.2
        | .nx => fin fn.gc μ (.s .non) r.2.2
        | _ => none := by
  simp only [callK, h, Option.bind_some, if_pos hl]
  all_goals rfl
/-! ### operators -/
theorem iop_mod {i j : Int} (h : 0 < j) : iop .mod i j = some (i % j) := by simp only [iop, if_pos h]
theorem iop_add {i j : Int} : iop .add i j = some (i + j) := rfl
theorem iop_sub {i j : Int} : iop .sub i j = some (i - j) := rfl
theorem iop_mulR {i j : Int} (h : -18446744073709551616 < j ∧ j < 18446744073709551616) : iop .mul i j = some (i * j) := by
  have e : small64 j = true := by simp only [small64, Bool.and_eq_true, decide_eq_true_eq]; exact ⟨by omega, by omega⟩
  simp only [iop, e, Bool.or_true, Bool.true_or, if_true]
theorem iop_mulL {i j : Int} (h : -18446744073709551616 < i ∧ i < 18446744073709551616) : iop .mul i j = some (i * j) := by
  have e : small64 i = true := by simp only [small64, Bool.and_eq_true, decide_eq_true_eq]; exact ⟨by omega, by omega⟩
  simp only [iop, e, Bool.or_true, Bool.true_or, if_true]
theorem iop_fdiv {i j : Int} (h : 0 < j) (h2 : j < 1073741824) : iop .fdiv i j = some (i / j) := by simp only [iop, if_pos h, if_pos (Or.inl h2 : j < 1073741824 ∨ _)]
theorem iop_pow {i j : Int} (h : 0 ≤ j ∧ j ≤ 1000000 ∧ i.natAbs < 2 ^ 64) : iop .pow i j = some (i ^ j.toNat) := by simp only [iop, if_pos h]
theorem iop_shl {i j : Int} (h : 0 ≤ j ∧ j ≤ 1000000 ∧ i.natAbs < 2 ^ 64) : iop .shl i j = some (i * 2 ^ j.toNat) := by simp only [iop, if_pos h]
theorem iop_shr {i j : Int} (h : 0 ≤ j) : iop .shr i j = some (i / 2 ^ j.toNat) := by simp only [iop, if_pos h]
theorem bop_int {op : Bop} {i j : Int} {μ : Sto} : bop op (.s (.int i)) (.s (.int j)) μ = (iop op i j).map fun k => .s (.int k) := rfl
theorem fin_f {μ : Sto} {d : D} {μ' : Sto} : fin false μ d μ' = some (d, μ') := rfl
end Dv
end
section
set_option Elab.async false
set_option linter.all false
set_option maxRecDepth 100000
set_option maxHeartbeats 4000000
/-! Dw2: the meaning, a step a rule: what comes after stands as a name with its parts, so that simp leaves it alone. -/
namespace Dv
section
variable {c : Cal} {gl : List S}
/-! ### expressions -/
def kBin2 (op : Bop) (d : D) (q : D × Sto) : Option (D × Sto) := (bop op d q.1 q.2).map fun x => (x, q.2)
def kBin1 (c : Cal) (gl : List S) (op : Bop) (b : E) (g : Sig) (p : D × Sto) : Option (D × Sto) := (evE c gl b g p.2).bind (kBin2 op p.1)
def kNeg (p : D × Sto) : Option (D × Sto) := (intOf p.1).map fun i => (.s (.int (-i)), p.2)
def kCmp2 (op : Cop) (d : D) (q : D × Sto) : Option (D × Sto) := (cop op d q.1 q.2).map fun x => (.s (.bl x), q.2)
def kCmp1 (c : Cal) (gl : List S) (op : Cop) (b : E) (g : Sig) (p : D × Sto) : Option (D × Sto) := (evE c gl b g p.2).bind (kCmp2 op p.1)
def kChn3 (c : Cal) (gl : List S) (o2 : Cop) (e : E) (g : Sig) (d : D) (μ : Sto) (t : Bool) : Option (D × Sto) := if t = true then (evE c gl e g μ).bind (kCmp2 o2 d) else some (.s (.bl false), μ)
def kChn2 (c : Cal) (gl : List S) (o1 o2 : Cop) (e : E) (g : Sig) (d : D) (q : D × Sto) : Option (D × Sto) := (cop o1 d q.1 q.2).bind (kChn3 c gl o2 e g q.1 q.2)
def kChn1 (c : Cal) (gl : List S) (o1 o2 : Cop) (b e : E) (g : Sig) (p : D × Sto) : Option (D × Sto) := (evE c gl b g p.2).bind (kChn2 c gl o1 o2 e g p.1)
def kAnd2 (c : Cal) (gl : List S) (b : E) (g : Sig) (μ : Sto) (t : Bool) : Option (D × Sto) := if t = true then evE c gl b g μ else some (.s (.bl false), μ)
def kAnd (c : Cal) (gl : List S) (b : E) (g : Sig) (p : D × Sto) : Option (D × Sto) := (blOf p.1).bind (kAnd2 c gl b g p.2)
def kOr2 (c : Cal) (gl : List S) (b : E) (g : Sig) (μ : Sto) (t : Bool) : Option (D × Sto) := if t = true then some (.s (.bl true), μ) else evE c gl b g μ
def kOr (c : Cal) (gl : List S) (b : E) (g : Sig) (p : D × Sto) : Option (D × Sto) := (blOf p.1).bind (kOr2 c gl b g p.2)
def kNot (p : D × Sto) : Option (D × Sto) := (blOf p.1).map fun t => (.s (.bl (!t)), p.2)
def kTru (p : D × Sto) : Option (D × Sto) := (tru p.1 p.2).map fun t => (.s (.bl t), p.2)
def kIfe2 (c : Cal) (gl : List S) (a b : E) (g : Sig) (μ : Sto) (t : Bool) : Option (D × Sto) := if t = true then evE c gl a g μ else evE c gl b g μ
def kIfe (c : Cal) (gl : List S) (a b : E) (g : Sig) (p : D × Sto) : Option (D × Sto) := (blOf p.1).bind (kIfe2 c gl a b g p.2)
def kIx2 (d : D) (q : D × Sto) : Option (D × Sto) := (idx d q.1 q.2).map fun d => (.s d, q.2)
def kIx1 (c : Cal) (gl : List S) (b : E) (g : Sig) (p : D × Sto) : Option (D × Sto) := (evE c gl b g p.2).bind (kIx2 p.1)
def kSl3 (lo hi : E) (d l : D) (r : D × Sto) : Option (D × Sto) := (part lo l).bind fun l => (part hi r.1).bind fun h => (slc d l h r.2).map fun d => (d, r.2)
def kSl2 (c : Cal) (gl : List S) (lo hi : E) (g : Sig) (d : D) (q : D × Sto) : Option (D × Sto) := (evE c gl hi g q.2).bind (kSl3 lo hi d q.1)
def kSl1 (c : Cal) (gl : List S) (lo hi : E) (g : Sig) (p : D × Sto) : Option (D × Sto) := (evE c gl lo g p.2).bind (kSl2 c gl lo hi g p.1)
def kTup (p : List S × Sto) : Option (D × Sto) := if p.1.length ≤ LINE then some (.s (.tup p.1), p.2) else none
def kLst (p : List S × Sto) : Option (D × Sto) := if p.1.length ≤ LINE then some (.new (.lst p.1), p.2) else none
def kFin (gc : Bool) (μ : Sto) (q : D × Sto) : Option (D × Sto) := fin gc μ q.1 q.2
def kCall (c : Cal) (f : Nat) (gc : Bool) (μ : Sto) (p : List S × Sto) : Option (D × Sto) := (c f p.1 p.2).bind (kFin gc μ)
def kBi (b : Bi) (p : List D × Sto) : Option (D × Sto) := (bfn b p.1 p.2).map fun d => (d, p.2)
def kMt2 (m : Mt) (d : D) (q : List D × Sto) : Option (D × Sto) := mtd m d q.1 q.2
def kMt1 (c : Cal) (gl : List S) (m : Mt) (es : Es) (g : Sig) (p : D × Sto) : Option (D × Sto) := if rcv m p.1 p.2 = true then (evD c gl es g p.2).bind (kMt2 m p.1) else none
def kApp2 (d : D) (q : D × Sto) : Option (D × Sto) := (appD d (toS q.1 q.2).1 (toS q.1 q.2).2).map fun μ => (.s .non, μ)
def kApp1 (c : Cal) (gl : List S) (e : E) (g : Sig) (p : D × Sto) : Option (D × Sto) := if (lstOf p.2 p.1).isSome = true then (evE c gl e g p.2).bind (kApp2 p.1) else none
def kIsi (ts : List Ty) (p : D × Sto) : Option (D × Sto) := (tyAny p.2 p.1 ts).map fun b => (.s (.bl b), p.2)
def kRg1 (t : Bool) (p : D × Sto) : Option (D × Sto) := (intOf p.1).bind fun j => (rgD t 0 j).map fun d => (d, p.2)
def kRg2b (t : Bool) (d : D) (q : D × Sto) : Option (D × Sto) := (intOf d).bind fun i => (intOf q.1).bind fun j => (rgD t i j).map fun d => (d, q.2)
def kRg2 (c : Cal) (gl : List S) (t : Bool) (b : E) (g : Sig) (p : D × Sto) : Option (D × Sto) := (evE c gl b g p.2).bind (kRg2b t p.1)
/-- a comprehension's turn -/
def kLs3 (q : D × Sto) : Option (Option S × Sto) := some (some (toS q.1 q.2).1, (toS q.1 q.2).2)
def kLs2 (c : Cal) (gl : List S) (elt : E) (g : Sig) (μ : Sto) (t : Bool) : Option (Option S × Sto) := if t = true then (evE c gl elt g μ).bind kLs3 else some (none, μ)
def kLs1 (c : Cal) (gl : List S) (elt : E) (g : Sig) (q : D × Sto) : Option (Option S × Sto) := (blOf q.1).bind (kLs2 c gl elt g q.2)
def kLs0 (c : Cal) (gl : List S) (elt cond : E) (μ : Sto) (g : Sig) : Option (Option S × Sto) := (evE c gl cond g μ).bind (kLs1 c gl elt g)
def lbd (c : Cal) (gl : List S) (elt : E) (own : List Nat) (t : Tg) (cond : E) (g : Sig) (x : S) (μ : Sto) : Option (Option S × Sto) := (asg t x (kill g own)).bind (kLs0 c gl elt cond μ)
def kLcR (r : List S × Sto) : Option (D × Sto) := some (.new (.lst r.1), r.2)
def kLc (c : Cal) (gl : List S) (elt : E) (own : List Nat) (t : Tg) (cond : E) (g : Sig) (p : List S × Grd × Sto) : Option (D × Sto) := (lcGo p.2.1 (lbd c gl elt own t cond g) p.1 [] p.2.2).bind kLcR
def kCons2 (x : S) (q : List S × Sto) : Option (List S × Sto) := some (x :: q.1, q.2)
def kCons (c : Cal) (gl : List S) (r : Es) (g : Sig) (p : D × Sto) : Option (List S × Sto) := (evS c gl r g (toS p.1 p.2).2).bind (kCons2 (toS p.1 p.2).1)
def kConsD2 (x : D) (q : List D × Sto) : Option (List D × Sto) := some (x :: q.1, q.2)
def kConsD (c : Cal) (gl : List S) (r : Es) (g : Sig) (p : D × Sto) : Option (List D × Sto) := (evD c gl r g p.2).bind (kConsD2 p.1)
def kSq (p : D × Sto) : Option (List S × Grd × Sto) := (seqOf p.2 p.1).map fun xs => (xs, grd p.1 p.2, p.2)
def kR1 (p : D × Sto) : Option (List S × Grd × Sto) := (intOf p.1).bind fun j => if b62 j = true then some (rngI 0 1 j.toNat, [], p.2) else none
def kR2b (d : D) (q : D × Sto) : Option (List S × Grd × Sto) := (intOf d).bind fun i => (intOf q.1).bind fun j => if (b62 i && b62 j) = true then some (rngI i 1 (j - i).toNat, [], q.2) else none
def kR2 (c : Cal) (gl : List S) (b : E) (g : Sig) (p : D × Sto) : Option (List S × Grd × Sto) := (evE c gl b g p.2).bind (kR2b p.1)
def kRDb (d : D) (q : D × Sto) : Option (List S × Grd × Sto) := (intOf d).bind fun i => (intOf q.1).bind fun j => if (b62 i && b62 j) = true then some (rngI i (-1) (i - j).toNat, [], q.2) else none
def kRD (c : Cal) (gl : List S) (b : E) (g : Sig) (p : D × Sto) : Option (List S × Grd × Sto) := (evE c gl b g p.2).bind (kRDb p.1)
def kEn (p : D × Sto) : Option (List S × Grd × Sto) := (seqOf p.2 p.1).map fun xs => (enumS 0 xs, grd p.1 p.2, p.2)
def kZp2 (d : D) (q : D × Sto) : Option (List S × Grd × Sto) := if (tupOf d).isSome ≠ (tupOf q.1).isSome then none else (seqOf q.2 d).bind fun xs => (seqOf q.2 q.1).map fun ys => (zipS xs ys, grd d q.2 ++ grd q.1 q.2, q.2)
def kZp1 (c : Cal) (gl : List S) (b : E) (g : Sig) (p : D × Sto) : Option (List S × Grd × Sto) := (evE c gl b g p.2).bind (kZp2 p.1)
def kRv (p : D × Sto) : Option (List S × Grd × Sto) := (seqOf p.2 p.1).map fun xs => (xs.reverse, grd p.1 p.2, p.2)

theorem e_var {i : Nat} {g : Sig} {μ : Sto} : evE c gl (.var i) g μ = (get g i).map fun x => (.s x, μ) := rfl
theorem e_k {x : S} {g : Sig} {μ : Sto} : evE c gl (.k x) g μ = some (.s x, μ) := rfl
theorem e_gl {j : Nat} {g : Sig} {μ : Sto} : evE c gl (.gl j) g μ = (gl[j]?).map fun x => (.s x, μ) := rfl
theorem e_bin {op : Bop} {a b : E} {g : Sig} {μ : Sto} : evE c gl (.bin op a b) g μ = (evE c gl a g μ).bind (kBin1 c gl op b g) := rfl
theorem k_bin1 {op : Bop} {b : E} {g : Sig} {d : D} {μ : Sto} : kBin1 c gl op b g (d, μ) = (evE c gl b g μ).bind (kBin2 op d) := rfl
theorem k_bin2 {op : Bop} {d e : D} {μ : Sto} : kBin2 op d (e, μ) = (bop op d e μ).map fun x => (x, μ) := rfl
theorem e_neg {a : E} {g : Sig} {μ : Sto} : evE c gl (.neg a) g μ = (evE c gl a g μ).bind kNeg := rfl
theorem k_neg {i : Int} {μ : Sto} : kNeg (.s (.int i), μ) = some (.s (.int (-i)), μ) := rfl
theorem e_cmp {op : Cop} {a b : E} {g : Sig} {μ : Sto} : evE c gl (.cmp op a b) g μ = (evE c gl a g μ).bind (kCmp1 c gl op b g) := rfl
theorem k_cmp1 {op : Cop} {b : E} {g : Sig} {d : D} {μ : Sto} : kCmp1 c gl op b g (d, μ) = (evE c gl b g μ).bind (kCmp2 op d) := rfl
theorem k_cmp2 {op : Cop} {d e : D} {μ : Sto} : kCmp2 op d (e, μ) = (cop op d e μ).map fun x => (.s (.bl x), μ) := rfl
theorem e_chn {o1 o2 : Cop} {a b e : E} {g : Sig} {μ : Sto} : evE c gl (.chn o1 o2 a b e) g μ = (evE c gl a g μ).bind (kChn1 c gl o1 o2 b e g) := by
  simp only [evE]; rfl
theorem k_chn1 {o1 o2 : Cop} {b e : E} {g : Sig} {d : D} {μ : Sto} : kChn1 c gl o1 o2 b e g (d, μ) = (evE c gl b g μ).bind (kChn2 c gl o1 o2 e g d) := rfl
theorem k_chn2 {o1 o2 : Cop} {e : E} {g : Sig} {d d2 : D} {μ : Sto} : kChn2 c gl o1 o2 e g d (d2, μ) = (cop o1 d d2 μ).bind (kChn3 c gl o2 e g d2 μ) := rfl
theorem k_chn3 {o2 : Cop} {e : E} {g : Sig} {d : D} {μ : Sto} {t : Bool} : kChn3 c gl o2 e g d μ t = if t = true then (evE c gl e g μ).bind (kCmp2 o2 d) else some (.s (.bl false), μ) := rfl
theorem e_and {a b : E} {g : Sig} {μ : Sto} : evE c gl (.and a b) g μ = (evE c gl a g μ).bind (kAnd c gl b g) := rfl
theorem k_and {b : E} {g : Sig} {t : Bool} {μ : Sto} : kAnd c gl b g (.s (.bl t), μ) = if t = true then evE c gl b g μ else some (.s (.bl false), μ) := rfl
theorem e_or {a b : E} {g : Sig} {μ : Sto} : evE c gl (.or a b) g μ = (evE c gl a g μ).bind (kOr c gl b g) := rfl
theorem k_or {b : E} {g : Sig} {t : Bool} {μ : Sto} : kOr c gl b g (.s (.bl t), μ) = if t = true then some (.s (.bl true), μ) else evE c gl b g μ := rfl
theorem e_not {a : E} {g : Sig} {μ : Sto} : evE c gl (.not a) g μ = (evE c gl a g μ).bind kNot := rfl
theorem k_not {t : Bool} {μ : Sto} : kNot (.s (.bl t), μ) = some (.s (.bl (!t)), μ) := rfl
theorem e_tru {a : E} {g : Sig} {μ : Sto} : evE c gl (.tru a) g μ = (evE c gl a g μ).bind kTru := rfl
theorem k_tru {d : D} {μ : Sto} : kTru (d, μ) = (tru d μ).map fun t => (.s (.bl t), μ) := rfl
theorem e_ife {t a b : E} {g : Sig} {μ : Sto} : evE c gl (.ife t a b) g μ = (evE c gl t g μ).bind (kIfe c gl a b g) := rfl
theorem k_ife {a b : E} {g : Sig} {t : Bool} {μ : Sto} : kIfe c gl a b g (.s (.bl t), μ) = if t = true then evE c gl a g μ else evE c gl b g μ := rfl
theorem e_ix {a b : E} {g : Sig} {μ : Sto} : evE c gl (.ix a b) g μ = (evE c gl a g μ).bind (kIx1 c gl b g) := rfl
theorem k_ix1 {b : E} {g : Sig} {d : D} {μ : Sto} : kIx1 c gl b g (d, μ) = (evE c gl b g μ).bind (kIx2 d) := rfl
theorem k_ix2 {d e : D} {μ : Sto} : kIx2 d (e, μ) = (idx d e μ).map fun d => (.s d, μ) := rfl
theorem e_slc {a lo hi : E} {g : Sig} {μ : Sto} : evE c gl (.slc a lo hi) g μ = (evE c gl a g μ).bind (kSl1 c gl lo hi g) := rfl
theorem k_sl1 {lo hi : E} {g : Sig} {d : D} {μ : Sto} : kSl1 c gl lo hi g (d, μ) = (evE c gl lo g μ).bind (kSl2 c gl lo hi g d) := rfl
theorem k_sl2 {lo hi : E} {g : Sig} {d l : D} {μ : Sto} : kSl2 c gl lo hi g d (l, μ) = (evE c gl hi g μ).bind (kSl3 lo hi d l) := rfl
theorem k_sl3 {lo hi : E} {d l h : D} {μ : Sto} : kSl3 lo hi d l (h, μ) = (part lo l).bind fun l => (part hi h).bind fun h => (slc d l h μ).map fun d => (d, μ) := rfl
theorem e_tup {es : Es} {g : Sig} {μ : Sto} : evE c gl (.tup es) g μ = (evS c gl es g μ).bind kTup := rfl
theorem e_lst {es : Es} {g : Sig} {μ : Sto} : evE c gl (.lst es) g μ = (evS c gl es g μ).bind kLst := rfl
theorem k_tup {xs : List S} {μ : Sto} (h : xs.length ≤ LINE) : kTup (xs, μ) = some (.s (.tup xs), μ) := if_pos h
theorem k_lst {xs : List S} {μ : Sto} (h : xs.length ≤ LINE) : kLst (xs, μ) = some (.new (.lst xs), μ) := if_pos h
theorem e_dnK {g : Sig} {μ : Sto} : evE c gl .dnK g μ = some (.new (.dK []), μ) := rfl
theorem e_dnT {g : Sig} {μ : Sto} : evE c gl .dnT g μ = some (.new (.dT []), μ) := rfl
theorem e_call {f : Nat} {gc : Bool} {es : Es} {g : Sig} {μ : Sto} : evE c gl (.call f gc es) g μ = (evS c gl es g μ).bind (kCall c f gc μ) := rfl
theorem k_call {f : Nat} {gc : Bool} {μ μ' : Sto} {xs : List S} : kCall c f gc μ (xs, μ') = (c f xs μ').bind (kFin gc μ) := rfl
theorem k_fin {gc : Bool} {μ μ' : Sto} {d : D} : kFin gc μ (d, μ') = fin gc μ d μ' := rfl
theorem e_bi {b : Bi} {es : Es} {g : Sig} {μ : Sto} : evE c gl (.bi b es) g μ = (evD c gl es g μ).bind (kBi b) := rfl
theorem k_bi {b : Bi} {ds : List D} {μ : Sto} : kBi b (ds, μ) = (bfn b ds μ).map fun d => (d, μ) := rfl
theorem e_mt {m : Mt} {a : E} {es : Es} {g : Sig} {μ : Sto} : evE c gl (.mt m a es) g μ = (evE c gl a g μ).bind (kMt1 c gl m es g) := rfl
theorem k_mt1 {m : Mt} {es : Es} {g : Sig} {d : D} {μ : Sto} (h : rcv m d μ = true) : kMt1 c gl m es g (d, μ) = (evD c gl es g μ).bind (kMt2 m d) := if_pos h
theorem k_mt2 {m : Mt} {d : D} {ds : List D} {μ : Sto} : kMt2 m d (ds, μ) = mtd m d ds μ := rfl
theorem e_app {a e : E} {g : Sig} {μ : Sto} : evE c gl (.app a e) g μ = (evE c gl a g μ).bind (kApp1 c gl e g) := rfl
theorem k_app1 {e : E} {g : Sig} {d : D} {μ : Sto} (h : (lstOf μ d).isSome = true) : kApp1 c gl e g (d, μ) = (evE c gl e g μ).bind (kApp2 d) := if_pos h
theorem k_app2s {d : D} {x : S} {μ : Sto} : kApp2 d (.s x, μ) = (appD d x μ).map fun μ => (.s .non, μ) := rfl
theorem k_app2n {d : D} {o : Ob} {μ : Sto} : kApp2 d (.new o, μ) = (appD d (.loc μ.length) (μ ++ [o])).map fun μ => (.s .non, μ) := rfl
theorem e_isi {a : E} {one : Bool} {ts : List Ty} {g : Sig} {μ : Sto} : evE c gl (.isi a one ts) g μ = (evE c gl a g μ).bind (kIsi ts) := rfl
theorem k_isi {ts : List Ty} {d : D} {μ : Sto} : kIsi ts (d, μ) = (tyAny μ d ts).map fun b => (.s (.bl b), μ) := rfl
theorem e_rg1 {t : Bool} {a : E} {g : Sig} {μ : Sto} : evE c gl (.rg1 t a) g μ = (evE c gl a g μ).bind (kRg1 t) := rfl
theorem k_rg1 {t : Bool} {j : Int} {μ : Sto} : kRg1 t (.s (.int j), μ) = (rgD t 0 j).map fun d => (d, μ) := rfl
theorem e_rg2 {t : Bool} {a b : E} {g : Sig} {μ : Sto} : evE c gl (.rg2 t a b) g μ = (evE c gl a g μ).bind (kRg2 c gl t b g) := rfl
theorem k_rg2 {t : Bool} {b : E} {g : Sig} {d : D} {μ : Sto} : kRg2 c gl t b g (d, μ) = (evE c gl b g μ).bind (kRg2b t d) := rfl
theorem k_rg2b {t : Bool} {i j : Int} {μ : Sto} : kRg2b t (.s (.int i)) (.s (.int j), μ) = (rgD t i j).map fun d => (d, μ) := rfl
theorem e_lc {elt : E} {own : List Nat} {t : Tg} {it : It} {cond : E} {g : Sig} {μ : Sto} : evE c gl (.lc elt own t it cond) g μ = (evI c gl it g μ).bind (kLc c gl elt own t cond g) := by
  simp only [evE]
  congr 1
  funext p
  simp only [kLc, Option.map_eq_bind]
  congr 1
theorem k_lc {elt : E} {own : List Nat} {t : Tg} {cond : E} {g : Sig} {xs : List S} {gs : Grd} {μ : Sto} : kLc c gl elt own t cond g (xs, gs, μ) = (lcGo gs (lbd c gl elt own t cond g) xs [] μ).bind kLcR := rfl
theorem k_lcR {xs : List S} {μ : Sto} : kLcR (xs, μ) = some (.new (.lst xs), μ) := rfl
theorem lbd_at {elt : E} {own : List Nat} {t : Tg} {cond : E} {g : Sig} {x : S} {μ : Sto} : lbd c gl elt own t cond g x μ = (asg t x (kill g own)).bind (kLs0 c gl elt cond μ) := rfl
theorem k_ls0 {elt cond : E} {a : Option S} {g : Sig} {μ : Sto} : kLs0 c gl elt cond μ (a :: g) = (evE c gl cond (a :: g) μ).bind (kLs1 c gl elt (a :: g)) := rfl
theorem k_ls1 {elt : E} {g : Sig} {t : Bool} {μ : Sto} : kLs1 c gl elt g (.s (.bl t), μ) = if t = true then (evE c gl elt g μ).bind kLs3 else some (none, μ) := rfl
theorem k_ls3s {x : S} {μ : Sto} : kLs3 (.s x, μ) = some (some x, μ) := rfl
theorem k_ls3n {o : Ob} {μ : Sto} : kLs3 (.new o, μ) = some (some (.loc μ.length), μ ++ [o]) := rfl
theorem s_nil {g : Sig} {μ : Sto} : evS c gl .nil g μ = some ([], μ) := rfl
theorem s_cons {e : E} {r : Es} {g : Sig} {μ : Sto} : evS c gl (.cons e r) g μ = (evE c gl e g μ).bind (kCons c gl r g) := by
  simp only [evS, Option.map_eq_bind]; rfl
theorem k_cons_s {r : Es} {g : Sig} {x : S} {μ : Sto} : kCons c gl r g (.s x, μ) = (evS c gl r g μ).bind (kCons2 x) := rfl
theorem k_cons_n {r : Es} {g : Sig} {o : Ob} {μ : Sto} : kCons c gl r g (.new o, μ) = (evS c gl r g (μ ++ [o])).bind (kCons2 (.loc μ.length)) := rfl
theorem k_cons2 {x : S} {xs : List S} {μ : Sto} : kCons2 x (xs, μ) = some (x :: xs, μ) := rfl
theorem d_nil {g : Sig} {μ : Sto} : evD c gl .nil g μ = some ([], μ) := rfl
theorem d_cons {e : E} {r : Es} {g : Sig} {μ : Sto} : evD c gl (.cons e r) g μ = (evE c gl e g μ).bind (kConsD c gl r g) := by
  simp only [evD, Option.map_eq_bind]; rfl
theorem k_consD {r : Es} {g : Sig} {d : D} {μ : Sto} : kConsD c gl r g (d, μ) = (evD c gl r g μ).bind (kConsD2 d) := rfl
theorem k_consD2 {x : D} {xs : List D} {μ : Sto} : kConsD2 x (xs, μ) = some (x :: xs, μ) := rfl
theorem i_seq {e : E} {g : Sig} {μ : Sto} : evI c gl (.seq e) g μ = (evE c gl e g μ).bind kSq := rfl
theorem k_sq {d : D} {μ : Sto} : kSq (d, μ) = (seqOf μ d).map fun xs => (xs, grd d μ, μ) := rfl
theorem i_rng1 {e : E} {g : Sig} {μ : Sto} : evI c gl (.rng1 e) g μ = (evE c gl e g μ).bind kR1 := rfl
theorem k_r1 {j : Int} {μ : Sto} (h : b62 j = true) : kR1 (.s (.int j), μ) = some (rngI 0 1 j.toNat, [], μ) := if_pos h
theorem i_rng2 {a b : E} {g : Sig} {μ : Sto} : evI c gl (.rng2 a b) g μ = (evE c gl a g μ).bind (kR2 c gl b g) := rfl
theorem k_r2 {b : E} {g : Sig} {d : D} {μ : Sto} : kR2 c gl b g (d, μ) = (evE c gl b g μ).bind (kR2b d) := rfl
theorem k_r2b {i j : Int} {μ : Sto} (h : (b62 i && b62 j) = true) : kR2b (.s (.int i)) (.s (.int j), μ) = some (rngI i 1 (j - i).toNat, [], μ) := if_pos h
theorem i_rngD {a b : E} {g : Sig} {μ : Sto} : evI c gl (.rngD a b) g μ = (evE c gl a g μ).bind (kRD c gl b g) := rfl
theorem k_rD {b : E} {g : Sig} {d : D} {μ : Sto} : kRD c gl b g (d, μ) = (evE c gl b g μ).bind (kRDb d) := rfl
theorem k_rDb {i j : Int} {μ : Sto} (h : (b62 i && b62 j) = true) : kRDb (.s (.int i)) (.s (.int j), μ) = some (rngI i (-1) (i - j).toNat, [], μ) := if_pos h
theorem i_enum {e : E} {g : Sig} {μ : Sto} : evI c gl (.enum e) g μ = (evE c gl e g μ).bind kEn := rfl
theorem k_en {d : D} {μ : Sto} : kEn (d, μ) = (seqOf μ d).map fun xs => (enumS 0 xs, grd d μ, μ) := rfl
theorem i_zip {a b : E} {g : Sig} {μ : Sto} : evI c gl (.zip a b) g μ = (evE c gl a g μ).bind (kZp1 c gl b g) := rfl
theorem k_zp1 {b : E} {g : Sig} {d : D} {μ : Sto} : kZp1 c gl b g (d, μ) = (evE c gl b g μ).bind (kZp2 d) := rfl
theorem k_zp2 {d e : D} {μ : Sto} : kZp2 d (e, μ) = if (tupOf d).isSome ≠ (tupOf e).isSome then none else (seqOf μ d).bind fun xs => (seqOf μ e).map fun ys => (zipS xs ys, grd d μ ++ grd e μ, μ) := rfl
theorem i_rev {e : E} {g : Sig} {μ : Sto} : evI c gl (.rev e) g μ = (evE c gl e g μ).bind kRv := rfl
theorem k_rv {d : D} {μ : Sto} : kRv (d, μ) = (seqOf μ d).map fun xs => (xs.reverse, grd d μ, μ) := rfl
/-! ### statements -/
def kSeq (c : Cal) (gl : List S) (b : C) (r : Fl × Sig × Sto) : Rs := match r.1 with
  | .nx => run c gl b r.2.1 r.2.2
  | f => some (f, r.2)
def kAsg (i : Nat) (g : Sig) (p : D × Sto) : Rs := some (.nx, g.set i (some (toS p.1 p.2).1), (toS p.1 p.2).2)
def kAsT (t : Tg) (g : Sig) (p : D × Sto) : Rs := match p.1 with
  | .s x => (asg t x g).map fun g => (.nx, g, p.2)
  | _ => none
def kAsL (ts : List Tg) (g : Sig) (p : D × Sto) : Rs := (seqL p.2 p.1).bind fun xs => (asgs ts xs g).map fun g => (.nx, g, p.2)
def kPar (i j : Nat) (g : Sig) (p : List S × Sto) : Rs := match p.1 with
  | [x, y] => some (.nx, (g.set i (some x)).set j (some y), p.2)
  | _ => none
def kSub3 (a : D) (x : S) (g : Sig) (r : D × Sto) : Rs := (setIx a r.1 x r.2).map fun μ => (.nx, g, μ)
def kSub2 (c : Cal) (gl : List S) (i : E) (g : Sig) (x : S) (q : D × Sto) : Rs := (evE c gl i g q.2).bind (kSub3 q.1 x g)
def kSub1 (c : Cal) (gl : List S) (a i : E) (g : Sig) (p : D × Sto) : Rs := (evE c gl a g (toS p.1 p.2).2).bind (kSub2 c gl i g (toS p.1 p.2).1)
def kAug (i : Nat) (op : Bop) (x : S) (g : Sig) (p : D × Sto) : Rs := (intOf (.s x)).bind fun x => (intOf p.1).bind fun y => (iop op x y).map fun z => (.nx, g.set i (some (.int z)), p.2)
def kAugS3 (op : Bop) (a i : D) (x : S) (g : Sig) (r : D × Sto) : Rs := (intOf (.s x)).bind fun x => (intOf r.1).bind fun y => (iop op x y).bind fun z => (setIx a i (.int z) r.2).map fun μ => (.nx, g, μ)
def kAugS2b (c : Cal) (gl : List S) (op : Bop) (e : E) (g : Sig) (a i : D) (μ : Sto) (x : S) : Rs := (evE c gl e g μ).bind (kAugS3 op a i x g)
def kAugS2 (c : Cal) (gl : List S) (op : Bop) (e : E) (g : Sig) (a : D) (q : D × Sto) : Rs := (idx a q.1 q.2).bind (kAugS2b c gl op e g a q.1 q.2)
def kAugS1 (c : Cal) (gl : List S) (op : Bop) (i e : E) (g : Sig) (p : D × Sto) : Rs := (evE c gl i g p.2).bind (kAugS2 c gl op e g p.1)
def kExp (g : Sig) (p : D × Sto) : Rs := some (.nx, g, p.2)
def kRet (g : Sig) (p : D × Sto) : Rs := some (.ret p.1, g, p.2)
def kIf (c : Cal) (gl : List S) (a b : C) (g : Sig) (p : D × Sto) : Rs := (blOf p.1).bind fun t => if t = true then run c gl a g p.2 else run c gl b g p.2
def kRun (c : Cal) (gl : List S) (b : C) (μ : Sto) (g : Sig) : Rs := run c gl b g μ
def fbd (c : Cal) (gl : List S) (t : Tg) (b : C) (x : S) (g : Sig) (μ : Sto) : Rs := (asg t x g).bind (kRun c gl b μ)
def kFr (c : Cal) (gl : List S) (t : Tg) (b : C) (g : Sig) (p : List S × Grd × Sto) : Rs := forGo p.2.1 (fbd c gl t b) p.1 g p.2.2
def kGc (ks : List Nat) (μ : Sto) (r : Fl × Sig × Sto) : Rs := gcR ks μ r
def kKl (ks : List Nat) (r : Fl × Sig × Sto) : Rs := some (r.1, kill r.2.1 ks, r.2.2)
def kDel2 (a : D) (g : Sig) (q : D × Sto) : Rs := (delIx a q.1 q.2).map fun μ => (.nx, g, μ)
def kDel1 (c : Cal) (gl : List S) (i : E) (g : Sig) (p : D × Sto) : Rs := (evE c gl i g p.2).bind (kDel2 p.1 g)
theorem r_skip {g : Sig} {μ : Sto} : run c gl .skip g μ = some (.nx, g, μ) := rfl
theorem r_seq {a b : C} {g : Sig} {μ : Sto} : run c gl (.seq a b) g μ = (run c gl a g μ).bind (kSeq c gl b) := rfl
theorem k_seqN {b : C} {g : Sig} {μ : Sto} : kSeq c gl b (.nx, g, μ) = run c gl b g μ := rfl
theorem k_seqR {b : C} {d : D} {z : Sig × Sto} : kSeq c gl b (.ret d, z) = some (.ret d, z) := rfl
theorem k_seqB {b : C} {z : Sig × Sto} : kSeq c gl b (.bk, z) = some (.bk, z) := rfl
theorem k_seqC {b : C} {z : Sig × Sto} : kSeq c gl b (.ct, z) = some (.ct, z) := rfl
theorem r_asg {i : Nat} {e : E} {g : Sig} {μ : Sto} : run c gl (.asg i e) g μ = (evE c gl e g μ).bind (kAsg i g) := by
  simp only [run, Option.map_eq_bind]; rfl
theorem k_asgS {i : Nat} {g : Sig} {x : S} {μ : Sto} : kAsg i g (.s x, μ) = some (.nx, g.set i (some x), μ) := rfl
theorem k_asgN {i : Nat} {g : Sig} {o : Ob} {μ : Sto} : kAsg i g (.new o, μ) = some (.nx, g.set i (some (.loc μ.length)), μ ++ [o]) := rfl
theorem r_asgT {t : Tg} {e : E} {g : Sig} {μ : Sto} : run c gl (.asgT t e) g μ = (evE c gl e g μ).bind (kAsT t g) := rfl
theorem k_asgT {t : Tg} {g : Sig} {x : S} {μ : Sto} : kAsT t g (.s x, μ) = (asg t x g).map fun g => (.nx, g, μ) := rfl
theorem r_asgL {ts : List Tg} {e : E} {g : Sig} {μ : Sto} : run c gl (.asgL ts e) g μ = (evE c gl e g μ).bind (kAsL ts g) := rfl
theorem k_asgL {ts : List Tg} {g : Sig} {d : D} {μ : Sto} : kAsL ts g (d, μ) = (seqL μ d).bind fun xs => (asgs ts xs g).map fun g => (.nx, g, μ) := rfl
theorem r_par {i j : Nat} {a b : E} {g : Sig} {μ : Sto} : run c gl (.par i j a b) g μ = (evS c gl (.cons a (.cons b .nil)) g μ).bind (kPar i j g) := rfl
theorem k_par {i j : Nat} {g : Sig} {x y : S} {μ : Sto} : kPar i j g ([x, y], μ) = some (.nx, (g.set i (some x)).set j (some y), μ) := rfl
theorem r_sub {a i e : E} {g : Sig} {μ : Sto} : run c gl (.sub a i e) g μ = (evE c gl e g μ).bind (kSub1 c gl a i g) := rfl
theorem k_sub1s {a i : E} {g : Sig} {x : S} {μ : Sto} : kSub1 c gl a i g (.s x, μ) = (evE c gl a g μ).bind (kSub2 c gl i g x) := rfl
theorem k_sub1n {a i : E} {g : Sig} {o : Ob} {μ : Sto} : kSub1 c gl a i g (.new o, μ) = (evE c gl a g (μ ++ [o])).bind (kSub2 c gl i g (.loc μ.length)) := rfl
theorem k_sub2 {i : E} {g : Sig} {x : S} {d : D} {μ : Sto} : kSub2 c gl i g x (d, μ) = (evE c gl i g μ).bind (kSub3 d x g) := rfl
theorem k_sub3 {a d : D} {x : S} {g : Sig} {μ : Sto} : kSub3 a x g (d, μ) = (setIx a d x μ).map fun μ => (.nx, g, μ) := rfl
theorem r_aug {i : Nat} {op : Bop} {e : E} {g : Sig} {μ : Sto} : run c gl (.aug i op e) g μ = (get g i).bind fun x => (evE c gl e g μ).bind (kAug i op x g) := rfl
theorem k_aug {i : Nat} {op : Bop} {x y : Int} {g : Sig} {μ : Sto} : kAug i op (.int x) g (.s (.int y), μ) = (iop op x y).map fun z => (.nx, g.set i (some (.int z)), μ) := rfl
theorem r_augS {op : Bop} {a i e : E} {g : Sig} {μ : Sto} : run c gl (.augS op a i e) g μ = (evE c gl a g μ).bind (kAugS1 c gl op i e g) := rfl
theorem k_augS1 {op : Bop} {i e : E} {g : Sig} {d : D} {μ : Sto} : kAugS1 c gl op i e g (d, μ) = (evE c gl i g μ).bind (kAugS2 c gl op e g d) := rfl
theorem k_augS2 {op : Bop} {e : E} {g : Sig} {a d : D} {μ : Sto} : kAugS2 c gl op e g a (d, μ) = (idx a d μ).bind (kAugS2b c gl op e g a d μ) := rfl
theorem k_augS2b {op : Bop} {e : E} {g : Sig} {a d : D} {μ : Sto} {x : Int} : kAugS2b c gl op e g a d μ (.int x) = (evE c gl e g μ).bind (kAugS3 op a d (.int x) g) := rfl
theorem k_augS3 {op : Bop} {a i : D} {x y : Int} {g : Sig} {μ : Sto} : kAugS3 op a i (.int x) g (.s (.int y), μ) = (iop op x y).bind fun z => (setIx a i (.int z) μ).map fun μ => (.nx, g, μ) := rfl
theorem r_exp {e : E} {g : Sig} {μ : Sto} : run c gl (.exp e) g μ = (evE c gl e g μ).bind (kExp g) := by
  simp only [run, Option.map_eq_bind]; rfl
theorem k_exp {g : Sig} {d : D} {μ : Sto} : kExp g (d, μ) = some (.nx, g, μ) := rfl
theorem r_ret {e : E} {g : Sig} {μ : Sto} : run c gl (.ret e) g μ = (evE c gl e g μ).bind (kRet g) := by
  simp only [run, Option.map_eq_bind]; rfl
theorem k_ret {g : Sig} {d : D} {μ : Sto} : kRet g (d, μ) = some (.ret d, g, μ) := rfl
theorem r_retN {g : Sig} {μ : Sto} : run c gl .retN g μ = some (.ret (.s .non), g, μ) := rfl
theorem r_if {t : E} {a b : C} {g : Sig} {μ : Sto} : run c gl (.ife t a b) g μ = (evE c gl t g μ).bind (kIf c gl a b g) := rfl
theorem k_if {a b : C} {g : Sig} {t : Bool} {μ : Sto} : kIf c gl a b g (.s (.bl t), μ) = if t = true then run c gl a g μ else run c gl b g μ := rfl
theorem r_whl {t : E} {b : C} {g : Sig} {μ : Sto} : run c gl (.whl t b) g μ = whileD (evE c gl t) (run c gl b) g μ := rfl
theorem r_fr {t : Tg} {it : It} {b : C} {g : Sig} {μ : Sto} : run c gl (.fr t it b) g μ = (evI c gl it g μ).bind (kFr c gl t b g) := rfl
theorem k_fr {t : Tg} {b : C} {g : Sig} {xs : List S} {gs : Grd} {μ : Sto} : kFr c gl t b g (xs, gs, μ) = forGo gs (fbd c gl t b) xs g μ := rfl
theorem fbd_at {t : Tg} {b : C} {x : S} {g : Sig} {μ : Sto} : fbd c gl t b x g μ = (asg t x g).bind (kRun c gl b μ) := rfl
theorem k_run {b : C} {a : Option S} {g : Sig} {μ : Sto} : kRun c gl b μ (a :: g) = run c gl b (a :: g) μ := rfl
theorem r_brk {g : Sig} {μ : Sto} : run c gl .brk g μ = some (.bk, g, μ) := rfl
theorem r_cont {g : Sig} {μ : Sto} : run c gl .cont g μ = some (.ct, g, μ) := rfl
theorem r_gc {ks : List Nat} {b : C} {g : Sig} {μ : Sto} : run c gl (.gc ks b) g μ = (run c gl b g μ).bind (kGc ks μ) := rfl
theorem k_gcR {ks : List Nat} {μ : Sto} {d : D} {z : Sig × Sto} : kGc ks μ (.ret d, z) = some (.ret d, z) := rfl
theorem k_gcN {ks : List Nat} {μ : Sto} {g : Sig} {μ' : Sto} (h : sigBelow μ.length (kill g ks) = true) (h2 : gcP μ.length μ μ') : kGc ks μ (.nx, g, μ') = some (.nx, kill g ks, μ'.take μ.length) := if_pos ⟨h, GCok_P.mpr h2⟩
theorem k_gcC {ks : List Nat} {μ : Sto} {g : Sig} {μ' : Sto} (h : sigBelow μ.length (kill g ks) = true) (h2 : gcP μ.length μ μ') : kGc ks μ (.ct, g, μ') = some (.ct, kill g ks, μ'.take μ.length) := if_pos ⟨h, GCok_P.mpr h2⟩
theorem k_gcB {ks : List Nat} {μ : Sto} {g : Sig} {μ' : Sto} (h : sigBelow μ.length (kill g ks) = true) (h2 : gcP μ.length μ μ') : kGc ks μ (.bk, g, μ') = some (.bk, kill g ks, μ'.take μ.length) := if_pos ⟨h, GCok_P.mpr h2⟩
theorem r_kl {ks : List Nat} {b : C} {g : Sig} {μ : Sto} : run c gl (.kl ks b) g μ = (run c gl b g μ).bind (kKl ks) := by
  simp only [run, Option.map_eq_bind]; rfl
theorem k_kl {ks : List Nat} {f : Fl} {g : Sig} {μ : Sto} : kKl ks (f, g, μ) = some (f, kill g ks, μ) := rfl
theorem r_kill {ks : List Nat} {g : Sig} {μ : Sto} : run c gl (.kill ks) g μ = some (.nx, kill g ks, μ) := rfl
theorem r_del {a i : E} {g : Sig} {μ : Sto} : run c gl (.del a i) g μ = (evE c gl a g μ).bind (kDel1 c gl i g) := rfl
theorem k_del1 {i : E} {g : Sig} {d : D} {μ : Sto} : kDel1 c gl i g (d, μ) = (evE c gl i g μ).bind (kDel2 d g) := rfl
theorem k_del2 {a d : D} {g : Sig} {μ : Sto} : kDel2 a g (d, μ) = (delIx a d μ).map fun μ => (.nx, g, μ) := rfl
/-! ### a call's end -/
def kEnd (gc : Bool) (μ : Sto) (r : Fl × Sig × Sto) : Option (D × Sto) := match r.1 with
  | .ret d => fin gc μ d r.2.2
  | .nx => fin gc μ (.s .non) r.2.2
  | _ => none
theorem k_endR {gc : Bool} {μ : Sto} {d : D} {g : Sig} {μ' : Sto} : kEnd gc μ (.ret d, g, μ') = fin gc μ d μ' := rfl
theorem k_endN {gc : Bool} {μ : Sto} {g : Sig} {μ' : Sto} : kEnd gc μ (.nx, g, μ') = fin gc μ (.s .non) μ' := rfl
theorem call_at' {tb : List Fn} {k f : Nat} {xs : List S} {μ : Sto} {np ns : Nat} {gc : Bool} {b : C} (h : tb[f]? = some ⟨np, ns, gc, b⟩) (hl : xs.length = np) :
    callK tb gl (k + 1) f xs μ = (run (callK tb gl k) gl b (xs.map some ++ List.replicate (ns - np) none) μ).bind (kEnd gc μ) := by
  rw [call_at h hl]; rfl
/-! ### what is given back -/
theorem fin_s {μ μ' : Sto} {x : S} (h1 : gcP μ.length μ μ') (h2 : x.und μ.length = true) : fin true μ (.s x) μ' = some (.s x, μ'.take μ.length) := by
  have h := GCok_P.mpr h1
  cases x <;> simp only [fin, if_true, if_pos h, h2, S.und, decide_eq_true_eq] at h2 ⊢ <;> simp [h2]
theorem fin_n {μ μ' : Sto} {o : Ob} (h1 : gcP μ.length μ μ') (h2 : o.und μ.length = true) : fin true μ (.new o) μ' = some (.new o, μ'.take μ.length) := by
  have h := GCok_P.mpr h1
  simp only [fin, if_true, if_pos h, h2]
def finO (μ μ' : Sto) : Option Ob → Option (D × Sto)
  | some o => if o.und μ.length = true then some (.new o, μ'.take μ.length) else none
  | none => none
theorem finO_some {μ μ' : Sto} {o : Ob} (h : o.und μ.length = true) : finO μ μ' (some o) = some (.new o, μ'.take μ.length) := if_pos h
theorem fin_loc {μ μ' : Sto} {k : Nat} (h1 : gcP μ.length μ μ') (h0 : ¬ k < μ.length) : fin true μ (.s (.loc k)) μ' = finO μ μ' (μ'[k]?) := by
  have h := GCok_P.mpr h1
  simp only [fin, if_true, if_pos h, if_neg h0]
  cases μ'[k]? <;> rfl
theorem fin_l {μ μ' : Sto} {k : Nat} {o : Ob} (h1 : gcP μ.length μ μ') (h0 : ¬ k < μ.length) (hk : μ'[k]? = some o) (h2 : o.und μ.length = true) : fin true μ (.s (.loc k)) μ' = some (.new o, μ'.take μ.length) := by
  have h := GCok_P.mpr h1
  simp only [fin, if_true, if_pos h, if_neg h0, hk, Option.bind_some, h2]
end
end Dv
end
section
set_option Elab.async false
set_option linter.all false
set_option maxRecDepth 100000
set_option maxHeartbeats 4000000
/-! Dw3: small rules for the runs: what the operators give. -/
namespace Dv
open L2 in
theorem zl {n : Nat} : (0 < n + 1) = True := by simp
theorem bindIte {α β : Type} {c : Prop} [Decidable c] {m n : Option α} {f : α → Option β} : (if c then m else n).bind f = if c then m.bind f else n.bind f := by
  by_cases h : c
  · rw [if_pos h, if_pos h]
  · rw [if_neg h, if_neg h]
theorem mapIte {α β : Type} {c : Prop} [Decidable c] {m n : Option α} {f : α → β} : (if c then m else n).map f = if c then m.map f else n.map f := by
  by_cases h : c
  · rw [if_pos h, if_pos h]
  · rw [if_neg h, if_neg h]
theorem W_bIte {α β : Type} {c : Prop} [Decidable c] {m n : Option α} {f : α → Option β} {Q : β → Prop} : W ((if c then m else n).bind f) Q ↔ (c → W (m.bind f) Q) ∧ (¬ c → W (n.bind f) Q) := by
  rw [bindIte, W_if]
theorem rev_map {α β : Type} {f : α → β} {l : List α} : (l.map f).reverse = l.reverse.map f := List.map_reverse.symm
theorem app_int {l : List Int} {x : Int} : l.map S.int ++ [S.int x] = (l ++ [x]).map S.int := by simp
theorem set_int {l : List Int} {j : Nat} {x : Int} : (l.map S.int).set j (S.int x) = (l.set j x).map S.int := by rw [List.map_set]
section
variable {μ : Sto}
/-! ### rows -/
def lsO : Option Ob → Option (List S)
  | some (.lst xs) => some xs
  | _ => none
theorem lsO_lst {xs : List S} : lsO (some (.lst xs)) = some xs := rfl
theorem seqL_loc {n : Nat} : seqL μ (.s (.loc n)) = lsO (μ[n]?) := by
  simp only [seqL]; cases h : μ[n]? with
  | none => rfl
  | some o => cases o <;> rfl
theorem seqL_new {xs : List S} : seqL μ (.new (.lst xs)) = some xs := rfl
theorem seqL_rol {xs : List S} : seqL μ (.s (.rol xs)) = some xs := rfl
theorem lstOf_loc {n : Nat} : lstOf μ (.s (.loc n)) = lsO (μ[n]?) := by
  simp only [lstOf]; cases h : μ[n]? with
  | none => rfl
  | some o => cases o <;> rfl
theorem lstOf_new {xs : List S} : lstOf μ (.new (.lst xs)) = some xs := rfl
theorem seqOf_tup {xs : List S} : seqOf μ (.s (.tup xs)) = some xs := rfl
theorem seqOf_loc {n : Nat} : seqOf μ (.s (.loc n)) = lsO (μ[n]?) := seqL_loc
theorem seqOf_new {xs : List S} : seqOf μ (.new (.lst xs)) = some xs := rfl
theorem seqOf_rol {xs : List S} : seqOf μ (.s (.rol xs)) = some xs := rfl
theorem tupOf_tup {xs : List S} : tupOf (.s (.tup xs)) = some xs := rfl
theorem tupOf_loc {n : Nat} : tupOf (.s (.loc n)) = none := rfl
theorem tupOf_new {o : Ob} : tupOf (.new o) = none := rfl
theorem dictOf_new {o : Ob} : dictOf μ (.new o) = some o := rfl
theorem dictOf_loc {n : Nat} : dictOf μ (.s (.loc n)) = μ[n]? := rfl
/-! ### built in -/
def lenO : Option Ob → Option D
  | some (.lst xs) => some (.s (.int xs.length))
  | some (.dK kvs) => some (.s (.int kvs.length))
  | _ => none
theorem b_any {d : D} : bfn .any [d] μ = (seqL μ d).bind fun xs => (asBls xs).map fun ns => .s (.bl (ns.any id)) := rfl
theorem b_all {d : D} : bfn .all [d] μ = (seqL μ d).bind fun xs => (asBls xs).map fun ns => .s (.bl (ns.all id)) := rfl
theorem lenO_lst {xs : List S} : lenO (some (.lst xs)) = some (.s (.int xs.length)) := rfl
theorem lenO_dK {kvs : List (L2.Key × S)} : lenO (some (.dK kvs)) = some (.s (.int kvs.length)) := rfl
theorem b_len_tup {xs : List S} : bfn .len [.s (.tup xs)] μ = some (.s (.int xs.length)) := rfl
theorem b_len_loc {n : Nat} : bfn .len [.s (.loc n)] μ = lenO (μ[n]?) := by
  simp only [bfn, seqOf_loc, dictOf_loc]
  cases h : μ[n]? with
  | none => rfl
  | some o => cases o <;> rfl
theorem b_len_new {xs : List S} : bfn .len [.new (.lst xs)] μ = some (.s (.int xs.length)) := rfl
theorem b_len_rol {xs : List S} : bfn .len [.s (.rol xs)] μ = some (.s (.int xs.length)) := rfl
theorem b_int {i : Int} : bfn .int [.s (.int i)] μ = some (.s (.int i)) := rfl
theorem b_intB {b : Bool} : bfn .int [.s (.bl b)] μ = some (.s (.int (if b then 1 else 0))) := rfl
theorem b_tuple {d : D} : bfn .tuple [d] μ = (seqOf μ d).map fun xs => .s (.tup xs) := rfl
theorem b_list {d : D} : bfn .list [d] μ = (seqOf μ d).map fun xs => .new (.lst xs) := rfl
theorem b_sum {d : D} : bfn .sum [d] μ = (seqL μ d).bind fun xs => (asInts xs).map fun ns => .s (.int ns.sum) := rfl
def srtO : Option Ob → Option D
  | some (.lst xs) => (asInts xs).map fun ns => .new (.lst ((mergeI ns).map S.int))
  | some (.dK kvs) => (kInts kvs).bind fun ns => if ns.length < 64 then some (.new (.lst ((mergeI ns).map S.int))) else none
  | _ => none
theorem srtO_lst {xs : List S} : srtO (some (.lst xs)) = (asInts xs).map fun ns => .new (.lst ((mergeI ns).map S.int)) := rfl
theorem srtO_dK {kvs : List (L2.Key × S)} : srtO (some (.dK kvs)) = (kInts kvs).bind fun ns => if ns.length < 64 then some (.new (.lst ((mergeI ns).map S.int))) else none := rfl
theorem b_sorted_loc {n : Nat} : bfn .sorted [.s (.loc n)] μ = srtO (μ[n]?) := by
  simp only [bfn, seqL_loc, dictOf_loc]
  cases h : μ[n]? with
  | none => rfl
  | some o => cases o <;> rfl
theorem b_sorted_new {xs : List S} : bfn .sorted [.new (.lst xs)] μ = (asInts xs).map fun ns => .new (.lst ((mergeI ns).map S.int)) := rfl
theorem b_min2 {i j : Int} : bfn .min2 [.s (.int i), .s (.int j)] μ = some (.s (.int (if j < i then j else i))) := rfl
theorem b_max2 {i j : Int} : bfn .max2 [.s (.int i), .s (.int j)] μ = some (.s (.int (if j > i then j else i))) := rfl
theorem b_abs {i : Int} : bfn .abs [.s (.int i)] μ = some (.s (.int (if i < 0 then -i else i))) := rfl
/-! ### methods -/
theorem v_pop {n : Nat} : rcv .pop (.s (.loc n)) μ = (lsO (μ[n]?)).isSome := by simp only [rcv, lstOf_loc]
theorem v_popAt {n : Nat} : rcv .popAt (.s (.loc n)) μ = (lsO (μ[n]?)).isSome := by simp only [rcv, lstOf_loc]
theorem v_rev {n : Nat} : rcv .rev (.s (.loc n)) μ = (lsO (μ[n]?)).isSome := by simp only [rcv, lstOf_loc]
theorem v_bit {i : Int} : rcv .bitlen (.s (.int i)) μ = true := rfl
def dkO : Option Ob → Bool
  | some (.dK _) => true
  | some (.dT _) => true
  | _ => false
theorem v_get1 {d : D} : rcv .get1 d μ = dkO (dictOf μ d) := by
  simp only [rcv]; cases h : dictOf μ d with
  | none => rfl
  | some o => cases o <;> rfl
theorem v_get2 {d : D} : rcv .get2 d μ = dkO (dictOf μ d) := by
  simp only [rcv]; cases h : dictOf μ d with
  | none => rfl
  | some o => cases o <;> rfl
theorem dkO_K {kvs : List (L2.Key × S)} : dkO (some (.dK kvs)) = true := rfl
theorem dkO_T {kvs : List (List L2.Key × S)} : dkO (some (.dT kvs)) = true := rfl
def popO (μ : Sto) (n : Nat) : Option Ob → Option (D × Sto)
  | some (.lst xs) => (xs[xs.length - 1]?).map fun x => (.s x, μ.set n (.lst xs.dropLast))
  | _ => none
theorem popO_lst {n : Nat} {xs : List S} : popO μ n (some (.lst xs)) = (xs[xs.length - 1]?).map fun x => (.s x, μ.set n (.lst xs.dropLast)) := rfl
theorem m_pop {n : Nat} : mtd .pop (.s (.loc n)) [] μ = popO μ n (μ[n]?) := by
  simp only [mtd]; cases h : μ[n]? with
  | none => rfl
  | some o => cases o <;> rfl
def popAO (μ : Sto) (n : Nat) (i : Int) : Option Ob → Option (D × Sto)
  | some (.lst xs) => if 0 ≤ i ∧ i < xs.length ∧ xs.length ≤ LINE then (xs[i.toNat]?).map fun x => (.s x, μ.set n (.lst (xs.eraseIdx i.toNat))) else none
  | _ => none
theorem popAO_lst {n : Nat} {i : Int} {xs : List S} : popAO μ n i (some (.lst xs)) = if 0 ≤ i ∧ i < xs.length ∧ xs.length ≤ LINE then (xs[i.toNat]?).map fun x => (.s x, μ.set n (.lst (xs.eraseIdx i.toNat))) else none := rfl
theorem m_popAt {n : Nat} {i : Int} : mtd .popAt (.s (.loc n)) [.s (.int i)] μ = popAO μ n i (μ[n]?) := by
  simp only [mtd]; cases h : μ[n]? with
  | none => rfl
  | some o => cases o <;> rfl
def revO (μ : Sto) (n : Nat) : Option Ob → Option (D × Sto)
  | some (.lst xs) => some (.s .non, μ.set n (.lst xs.reverse))
  | _ => none
theorem revO_lst {n : Nat} {xs : List S} : revO μ n (some (.lst xs)) = some (.s .non, μ.set n (.lst xs.reverse)) := rfl
theorem m_rev {n : Nat} : mtd .rev (.s (.loc n)) [] μ = revO μ n (μ[n]?) := by
  simp only [mtd]; cases h : μ[n]? with
  | none => rfl
  | some o => cases o <;> rfl
theorem m_get1 {r k : D} : mtd .get1 r [k] μ = (dictOf μ r).bind fun o => (dlook o k).map fun v => (.s (v.getD .non), μ) := rfl
theorem m_get2 {r k : D} {x : S} : mtd .get2 r [k, .s x] μ = (dictOf μ r).bind fun o => (dlook o k).map fun v => (.s (v.getD x), μ) := rfl
theorem m_bit {i : Int} : mtd .bitlen (.s (.int i)) [] μ = some (.s (.int (bitLen i)), μ) := rfl
theorem dlook_int {kvs : List (L2.Key × S)} {i : Int} : dlook (.dK kvs) (.s (.int i)) = some (look kvs (.inl i)) := rfl
theorem popO_int {n : Nat} {ds : List Int} {x : Int} : popO μ n (some (.lst ((ds ++ [x]).map .int))) = some (.s (.int x), μ.set n (.lst (ds.map .int))) := by
  simp [popO]
/-! ### slices -/
theorem part_non {d : D} : part (.k .non) d = some none := rfl
theorem part_k {i j : Int} : part (.k (.int i)) (.s (.int j)) = some (some j) := rfl
theorem part_v {i : Nat} {j : Int} : part (.var i) (.s (.int j)) = some (some j) := rfl
theorem slc_tup {xs : List S} {lo hi : Option Int} : slc (.s (.tup xs)) lo hi μ = some (.s (.tup (cut xs lo hi))) := rfl
theorem slc_rol {xs : List S} {lo hi : Option Int} : slc (.s (.rol xs)) lo hi μ = some (.new (.lst (cut xs lo hi))) := rfl
theorem slc_new {xs : List S} {lo hi : Option Int} : slc (.new (.lst xs)) lo hi μ = some (.new (.lst (cut xs lo hi))) := rfl
theorem slc_loc {n : Nat} {lo hi : Option Int} : slc (.s (.loc n)) lo hi μ = (lsO (μ[n]?)).map fun xs => .new (.lst (cut xs lo hi)) := by
  rw [← seqL_loc]; rfl
def cutA {α : Type} (xs : List α) (lo hi : Option Int) : List α := (xs.drop (HT.sIx xs.length 0 lo)).take (HT.sIx xs.length xs.length hi - HT.sIx xs.length 0 lo)
theorem cut_map {α : Type} {f : α → S} {l : List α} {lo hi : Option Int} : cut (l.map f) lo hi = (cutA l lo hi).map f := by
  simp only [cut, cutA, List.map_take, List.map_drop, List.length_map]
theorem cutA_len {α : Type} (l : List α) (lo hi : Option Int) : (cutA l lo hi).length ≤ l.length := by
  simp only [cutA, List.length_take, List.length_drop]; omega
theorem cutA_to {α : Type} (l : List α) (n : Nat) (h : n ≤ l.length) : cutA l none (some (n : Int)) = l.take n := by
  have e : HT.sIx l.length l.length (some (n : Int)) = n := by rw [HT.sIx_nat]; omega
  simp only [cutA, HT.sIx_none, List.drop_zero, Nat.sub_zero, e]
theorem cutA_from {α : Type} (l : List α) (n : Nat) (h : n ≤ l.length) : cutA l (some (n : Int)) none = l.drop n := by
  have e : HT.sIx l.length 0 (some (n : Int)) = n := by rw [HT.sIx_nat]; omega
  simp only [cutA, HT.sIx_none, e]
  rw [List.take_of_length_le]
  simp
/-! ### what holds nothing new -/
theorem und_int {n : Nat} {i : Int} : S.und n (.int i) = true := rfl
theorem und_bl {n : Nat} {i : Bool} : S.und n (.bl i) = true := rfl
theorem und_non {n : Nat} : S.und n .non = true := rfl
theorem und_str {n : Nat} {x : PySem.Str} : S.und n (.str x) = true := rfl
theorem und_loc {n k : Nat} : S.und n (.loc k) = decide (k < n) := rfl
theorem und_tup {n : Nat} {xs : List S} : S.und n (.tup xs) = S.unds n xs := rfl
theorem und_rol {n : Nat} {xs : List S} : S.und n (.rol xs) = S.unds n xs := rfl
theorem und_lst {n : Nat} {xs : List S} : Ob.und n (.lst xs) = S.unds n xs := rfl
theorem unds_app {n : Nat} : ∀ {xs ys : List S}, S.unds n (xs ++ ys) = (S.unds n xs && S.unds n ys)
  | [], _ => rfl
  | x :: r, ys => by simp only [List.cons_append, S.unds, @unds_app n r ys, Bool.and_assoc]
theorem und_dK {n : Nat} {kvs : List (L2.Key × S)} : Ob.und n (.dK kvs) = kvBelow n kvs := rfl
/-! ### int operators by name -/
theorem iop_and {i j : Int} : iop .band i j = some (PySem.Builtin.bitAnd i j) := rfl
theorem iop_or {i j : Int} : iop .bor i j = some (PySem.Builtin.bitOr i j) := rfl
theorem iop_xor {i j : Int} : iop .bxor i j = some (PySem.Builtin.bitXor i j) := rfl
/-! ### stores -/
def setO (μ : Sto) (n : Nat) (i : D) (x : S) : Option Ob → Option Sto
  | some (.lst xs) => (intOf i).bind fun k => (L2.ixN xs.length k).map fun j => μ.set n (.lst (xs.set j x))
  | some (.dK kvs) => match i with
    | .s y => (keyOf y).bind fun k => if kvs.length < LINE then some (μ.set n (.dK (put kvs k x))) else none
    | _ => none
  | some (.dT kvs) => match i with
    | .s (.tup ys) => (keysOf ys).bind fun k => if kvs.length < LINE then some (μ.set n (.dT (put kvs k x))) else none
    | _ => none
  | _ => none
theorem setIx_loc {n : Nat} {i : D} {x : S} : setIx (.s (.loc n)) i x μ = setO μ n i x (μ[n]?) := by
  simp only [setIx]; cases h : μ[n]? with
  | none => rfl
  | some o => cases o with
    | lst xs => cases i with
      | s y => cases y <;> rfl
      | new o => rfl
    | dK xs => cases i with
      | s y => cases y <;> rfl
      | new o => rfl
    | dT xs => cases i with
      | s y => cases y <;> rfl
      | new o => rfl
    | ins C fs => rfl
theorem setO_lst {n : Nat} {i : Int} {x : S} {xs : List S} : setO μ n (.s (.int i)) x (some (.lst xs)) = (L2.ixN xs.length i).map fun j => μ.set n (.lst (xs.set j x)) := rfl
theorem setO_dK {n : Nat} {i : Int} {x : S} {kvs : List (L2.Key × S)} (h : kvs.length < LINE) : setO μ n (.s (.int i)) x (some (.dK kvs)) = some (μ.set n (.dK (put kvs (.inl i) x))) := by
  simp only [setO, keyOf, Option.bind_some, if_pos h]
def appO (μ : Sto) (n : Nat) (x : S) : Option Ob → Option Sto
  | some (.lst xs) => if xs.length < LINE then some (μ.set n (.lst (xs ++ [x]))) else none
  | _ => none
theorem appD_loc {n : Nat} {x : S} : appD (.s (.loc n)) x μ = appO μ n x (μ[n]?) := by
  simp only [appD]; cases h : μ[n]? with
  | none => rfl
  | some o => cases o <;> rfl
theorem appO_lst {n : Nat} {x : S} {xs : List S} : appO μ n x (some (.lst xs)) = if xs.length < LINE then some (μ.set n (.lst (xs ++ [x]))) else none := rfl
/-! ### places -/
def idxO (i : D) : Option Ob → Option S
  | some (.lst xs) => (intOf i).bind fun i => L2.atI xs i
  | some (.dK kvs) => (dlook (.dK kvs) i).join
  | some (.dT kvs) => (dlook (.dT kvs) i).join
  | _ => none
theorem idx_tup {xs : List S} {i : Int} : idx (.s (.tup xs)) (.s (.int i)) μ = L2.atI xs i := rfl
theorem idx_ktu {xs : List S} {i : Int} : idx (.s (.ktu xs)) (.s (.int i)) μ = L2.atI xs i := rfl
theorem idx_loc {n : Nat} {i : D} : idx (.s (.loc n)) i μ = idxO i (μ[n]?) := by
  simp only [idx, seqL_loc, dictOf_loc]
  cases h : μ[n]? with
  | none => rfl
  | some o => cases o <;> rfl
theorem idx_new {xs : List S} {i : Int} : idx (.new (.lst xs)) (.s (.int i)) μ = L2.atI xs i := rfl
theorem idxO_lst {xs : List S} {i : Int} : idxO (.s (.int i)) (some (.lst xs)) = L2.atI xs i := rfl
theorem idxO_dK {kvs : List (L2.Key × S)} {i : Int} : idxO (.s (.int i)) (some (.dK kvs)) = look kvs (.inl i) := rfl
/-! ### comparisons -/
theorem pyEq_int {i j : Int} : pyEq μ (.s (.int i)) (.s (.int j)) = some (decide (i = j)) := by
  simp only [pyEq, pyD, S.py, Option.bind_some]
  rw [if_pos ⟨rfl, rfl⟩]
  rfl
theorem pyEq_bl {i j : Bool} : pyEq μ (.s (.bl i)) (.s (.bl j)) = some (decide (i = j)) := by
  simp only [pyEq, pyD, S.py, Option.bind_some]
  rw [if_pos ⟨rfl, rfl⟩]
  cases i <;> cases j <;> rfl
theorem c_eq {a b : D} : cop .eq a b μ = pyEq μ a b := rfl
theorem c_ne {a b : D} : cop .ne a b μ = (pyEq μ a b).map (!·) := rfl
theorem c_lt {i j : Int} : cop .lt (.s (.int i)) (.s (.int j)) μ = some (decide (i < j)) := rfl
theorem c_le {i j : Int} : cop .le (.s (.int i)) (.s (.int j)) μ = some (decide (i ≤ j)) := rfl
theorem c_gt {i j : Int} : cop .gt (.s (.int i)) (.s (.int j)) μ = some (decide (j < i)) := rfl
theorem c_ge {i j : Int} : cop .ge (.s (.int i)) (.s (.int j)) μ = some (decide (j ≤ i)) := rfl
theorem c_isN {a : D} : cop .isN a (.s .non) μ = some (isNon a) := rfl
theorem c_notN {a : D} : cop .notN a (.s .non) μ = some (!isNon a) := rfl
theorem isNon_non : isNon (.s .non) = true := rfl
theorem isNon_int {i : Int} : isNon (.s (.int i)) = false := rfl
theorem isNon_tup {xs : List S} : isNon (.s (.tup xs)) = false := rfl
theorem isNon_bl {b : Bool} : isNon (.s (.bl b)) = false := rfl
theorem isNon_loc {n : Nat} : isNon (.s (.loc n)) = false := rfl
theorem tru_int {i : Int} : tru (.s (.int i)) μ = some (i != 0) := rfl
theorem tru_bl {b : Bool} : tru (.s (.bl b)) μ = some b := rfl
theorem tru_tup {xs : List S} : tru (.s (.tup xs)) μ = some (!xs.isEmpty) := rfl
theorem c_mem {a b : D} : cop .mem a b μ = memB a b μ := rfl
theorem c_nmem {a b : D} : cop .nmem a b μ = (memB a b μ).map (!·) := rfl
theorem mem_bls {b : Bool} {l : List Bool} : memB (.s (.bl b)) (.new (.lst (l.map .bl))) μ = some (l.any (· == b)) := by
  have h : (l.map S.bl).all flat = true := by simp [flat, List.all_eq_true]
  have e : memB (.s (.bl b)) (.new (.lst (l.map .bl))) μ = if flat (.bl b) = true ∧ (l.map S.bl).all flat = true then some ((l.map S.bl).any fun y => feq y (.bl b)) else none := rfl
  rw [e, if_pos ⟨rfl, h⟩, List.any_map]
  rfl
def memO (x : S) : Option Ob → Option Bool
  | some (.lst xs) => if flat x = true ∧ xs.all flat = true then some (xs.any fun y => feq y x) else none
  | some (.dK kvs) => (dlook (.dK kvs) (.s x)).map (·.isSome)
  | some (.dT kvs) => (dlook (.dT kvs) (.s x)).map (·.isSome)
  | _ => none
theorem mem_loc {x : S} {n : Nat} : memB (.s x) (.s (.loc n)) μ = memO x (μ[n]?) := by
  simp only [memB, dictOf_loc, seqL_loc]
  cases h : μ[n]? with
  | none => rfl
  | some o => cases o <;> rfl
theorem memO_int {x : Int} {l : List Int} : memO (.int x) (some (.lst (l.map .int))) = some (l.any (· == x)) := by
  have h : (l.map S.int).all flat = true := by simp [flat, List.all_eq_true]
  simp only [memO]
  rw [if_pos ⟨rfl, h⟩, List.any_map]
  rfl
theorem mem_tup {x : Int} {l : List Int} : memB (.s (.int x)) (.s (.tup (l.map .int))) μ = some (l.any (· == x)) := by
  have h : (l.map S.int).all flat = true := by simp [flat, List.all_eq_true]
  have e : memB (.s (.int x)) (.s (.tup (l.map .int))) μ = if flat (.int x) = true ∧ (l.map S.int).all flat = true then some ((l.map S.int).any fun y => feq y (.int x)) else none := rfl
  rw [e, if_pos ⟨rfl, h⟩, List.any_map]
  rfl
/-! ### kinds -/
theorem ty_nil {d : D} : tyAny μ d [] = some false := rfl
theorem ty_cons {d : D} {t : Ty} {r : List Ty} : tyAny μ d (t :: r) = (tyIs μ d t).bind fun b => if b = true then some true else tyAny μ d r := rfl
theorem ty_int {i : Int} {t : Ty} : tyIs μ (.s (.int i)) t = some (decide (t = .int)) := rfl
theorem ty_bl {i : Bool} {t : Ty} : tyIs μ (.s (.bl i)) t = some (decide (t = .bool) || decide (t = .int)) := rfl
theorem ty_tup {xs : List S} {t : Ty} : tyIs μ (.s (.tup xs)) t = some (decide (t = .tuple)) := rfl
theorem ty_non {t : Ty} : tyIs μ (.s .non) t = some false := rfl
theorem ty_str {x : PySem.Str} {t : Ty} : tyIs μ (.s (.str x)) t = some (decide (t = .str)) := rfl
/-! ### walks -/
def grdO (n : Nat) : Option Ob → Grd
  | some o => [(n, o)]
  | none => []
theorem grd_loc {n : Nat} : grd (.s (.loc n)) μ = grdO n (μ[n]?) := by
  simp only [grd]; cases h : μ[n]? <;> rfl
theorem grdO_some {n : Nat} {o : Ob} : grdO n (some o) = [(n, o)] := rfl
theorem grd_tup {xs : List S} : grd (.s (.tup xs)) μ = [] := rfl
theorem grd_new {o : Ob} : grd (.new o) μ = [] := rfl
theorem grd_rol {xs : List S} : grd (.s (.rol xs)) μ = [] := rfl
theorem gOk_one {n : Nat} {o : Ob} : gOk [(n, o)] μ = decide (μ[n]? = some o) := by
  simp only [gOk, List.all_cons, List.all_nil, Bool.and_true]
end
end Dv
end
section
set_option Elab.async false
set_option linter.all false
set_option maxRecDepth 100000
set_option maxHeartbeats 4000000
/-! Dw4: tables of int keys. -/
namespace Dv
section
variable {β : Type} {μ : Sto}
/-- a table of int keys, as it stands in the store -/
def eT (g : β → S) (t : List (Int × β)) : List (L2.Key × S) := t.map fun p => ((Sum.inl p.1 : L2.Key), g p.2)
theorem eT_nil {g : β → S} : eT g [] = [] := rfl
theorem eT_len {g : β → S} {t : List (Int × β)} : (eT g t).length = t.length := by simp [eT]
theorem inl_iff {i j : Int} : ((Sum.inl i : L2.Key) = Sum.inl j) ↔ i = j := ⟨fun h => by injection h, fun h => by rw [h]⟩
theorem look_eT {g : β → S} {k : Int} : ∀ {t : List (Int × β)}, look (eT g t) (.inl k) = (look t k).map g
  | [] => rfl
  | p :: r => by
    have ih := look_eT (g := g) (k := k) (t := r)
    unfold look eT at ih ⊢
    simp only [List.map_cons, List.find?_cons]
    by_cases h : p.1 = k
    · have h2 : ((Sum.inl p.1 : L2.Key) = Sum.inl k) := by rw [h]
      simp only [h, decide_true]
      rfl
    · have h2 : ¬ ((Sum.inl p.1 : L2.Key) = Sum.inl k) := fun e => h (inl_iff.mp e)
      simp only [decide_eq_false h, decide_eq_false h2]
      exact ih
theorem put_eT {g : β → S} {k : Int} {v : β} {t : List (Int × β)} : put (eT g t) (.inl k) (g v) = eT g (put t k v) := by
  unfold put eT
  have e : ((t.map fun p => ((Sum.inl p.1 : L2.Key), g p.2)).any fun kv => decide (kv.1 = (Sum.inl k : L2.Key))) = t.any fun kv => decide (kv.1 = k) := by
    rw [List.any_map]
    congr 1
    funext p
    simp only [Function.comp]
    exact decide_eq_decide.mpr inl_iff
  rw [e]
  by_cases h : (t.any fun kv => decide (kv.1 = k)) = true
  · rw [if_pos h, if_pos h]
    simp only [List.map_map]
    congr 1
    funext p
    simp only [Function.comp]
    by_cases h : p.1 = k
    · rw [if_pos h, if_pos (inl_iff.mpr h)]
    · rw [if_neg h, if_neg fun e => h (inl_iff.mp e)]
  · rw [if_neg h, if_neg h]
    simp
theorem kInts_eT {g : β → S} : ∀ {t : List (Int × β)}, kInts (eT g t) = some (t.map (·.1))
  | [] => rfl
  | p :: r => by
    have ih := kInts_eT (g := g) (t := r)
    unfold eT at ih ⊢
    simp only [List.map_cons, kInts, ih, Option.map_some]
theorem kvB_eT {g : β → S} {n : Nat} (h : ∀ b, (g b).und n = true) : ∀ {t : List (Int × β)}, kvBelow n (eT g t) = true
  | [] => rfl
  | p :: r => by
    have ih := kvB_eT (g := g) h (t := r)
    unfold eT at ih ⊢
    simp only [List.map_cons, kvBelow, ih, h, Bool.and_self]
end
section
variable {β : Type}
/-- the keys of put -/
theorem put_keys {t : List (Int × β)} {k : Int} {v : β} : (put t k v).map (·.1) = if k ∈ t.map (·.1) then t.map (·.1) else t.map (·.1) ++ [k] := by
  have e : (t.any fun kv => decide (kv.1 = k)) = true ↔ k ∈ t.map (·.1) := by
    simp only [List.any_eq_true, decide_eq_true_eq, List.mem_map]
  unfold put
  by_cases h : k ∈ t.map (·.1)
  · rw [if_pos (e.mpr h), if_pos h]
    rw [List.map_map]
    congr 1
    funext p
    simp only [Function.comp]
    split <;> rfl
  · rw [if_neg fun q => h (e.mp q), if_neg h]
    simp
theorem put_len {t : List (Int × β)} {k : Int} {v : β} : (put t k v).length ≤ t.length + 1 := by
  unfold put
  split
  · simp
  · simp
theorem look_put {t : List (Int × β)} {k j : Int} {v : β} : look (put t k v) j = if j = k then some v else look t j := by
  induction t with
  | nil =>
    unfold put look
    by_cases h : j = k
    · simp [h]
    · have : ¬ k = j := fun e => h e.symm
      simp [h, this]
  | cons p r ih =>
    unfold put look at ih ⊢
    by_cases hp : p.1 = k
    · subst hp
      simp only [List.any_cons, decide_true, Bool.true_or, if_true, List.map_cons, List.find?_cons]
      by_cases h : j = p.1
      · subst h; simp
      · have : ¬ p.1 = j := fun e => h e.symm
        simp only [decide_eq_false this, h, if_false]
        clear ih
        induction r with
        | nil => rfl
        | cons q s ih2 =>
          simp only [List.map_cons, List.find?_cons]
          by_cases hq : q.1 = p.1
          · simp only [hq, if_true, decide_eq_false this]
            exact ih2
          · simp only [if_neg hq]
            by_cases hqj : q.1 = j
            · simp [hqj]
            · simp only [decide_eq_false hqj]; exact ih2
    · simp only [List.any_cons, decide_eq_false hp, Bool.false_or] at ih ⊢
      by_cases ha : (r.any fun kv => decide (kv.1 = k)) = true
      · simp only [if_pos ha, List.map_cons, if_neg hp, List.find?_cons] at ih ⊢
        by_cases hj : p.1 = j
        · have : ¬ j = k := fun e => hp (hj.trans e)
          simp [hj, this]
        · simp only [decide_eq_false hj]; exact ih
      · simp only [if_neg ha, List.cons_append, List.find?_cons] at ih ⊢
        by_cases hj : p.1 = j
        · have : ¬ j = k := fun e => hp (hj.trans e)
          simp [hj, this]
        · simp only [decide_eq_false hj]; exact ih
theorem look_mem {t : List (Int × β)} {j : Int} : (look t j).isSome = true ↔ j ∈ t.map (·.1) := by
  unfold look
  rw [Option.isSome_map, List.find?_isSome]
  simp only [decide_eq_true_eq, List.mem_map]
end
/-! ### sorted ints -/
theorem mergeI_mem {l : List Int} {x : Int} : x ∈ mergeI l ↔ x ∈ l := (mergeI_perm l).mem_iff
theorem mergeI_len {l : List Int} : (mergeI l).length = l.length := (mergeI_perm l).length_eq
end Dv
end
section
set_option Elab.async false
set_option linter.all false
set_option maxRecDepth 100000
set_option maxHeartbeats 4000000
/-! Dw5: loops whose state is known by what was walked. -/
namespace Dv
section
variable {α : Type}
def mapFrom (f : Nat → α → S) : Nat → List α → List S
  | _, [] => []
  | n, a :: r => f n a :: mapFrom f (n + 1) r
theorem mapFrom_const {f : α → S} : ∀ {n : Nat} {l : List α}, mapFrom (fun _ => f) n l = l.map f
  | _, [] => rfl
  | n, a :: r => by simp only [mapFrom, List.map_cons, mapFrom_const]
theorem enumS_map {f : α → S} : ∀ {n : Nat} {l : List α}, enumS n (l.map f) = mapFrom (fun i a => .tup [.int (i : Nat), f a]) n l
  | _, [] => rfl
  | n, a :: r => by simp only [mapFrom, List.map_cons, enumS, enumS_map]
theorem zipS_map {β : Type} {f : α → S} {g : β → S} : ∀ {l : List α} {r : List β}, zipS (l.map f) (r.map g) = (l.zip r).map fun p => .tup [f p.1, g p.2]
  | [], _ => by simp [zipS]
  | _ :: _, [] => by simp [zipS]
  | a :: l, b :: r => by simp only [List.map_cons, zipS, List.zip_cons_cons, zipS_map]
/-- a loop whose state is known by what was walked and what is left -/
theorem for_pre {gs : Grd} {body : S → Sig → Sto → Rs} {f : Nat → α → S} (G : List α → List α → Sig) (M : List α → List α → Sto) {all : List α} (hg : ∀ pre r, gOk gs (M pre r) = true)
    (hb : ∀ pre a r, pre ++ a :: r = all → body (f pre.length a) (G pre (a :: r)) (M pre (a :: r)) = some (.nx, G (pre ++ [a]) r, M (pre ++ [a]) r)) :
    ∀ (r pre : List α), pre ++ r = all → forGo gs body (mapFrom f pre.length r) (G pre r) (M pre r) = some (.nx, G all [], M all [])
  | [], pre, h => by
    rw [List.append_nil] at h
    subst h
    simp only [mapFrom, forGo, hg, if_true]
  | a :: r, pre, h => by
    simp only [mapFrom, forGo, hg, if_true, hb pre a r h, Option.bind_some]
    have := for_pre G M hg hb r (pre ++ [a]) (by simpa using h)
    rw [List.length_append] at this
    exact this
/-- the same, of a plain row -/
theorem for_row {gs : Grd} {body : S → Sig → Sto → Rs} {f : α → S} (G : List α → List α → Sig) (M : List α → List α → Sto) {all : List α} (hg : ∀ pre r, gOk gs (M pre r) = true)
    (hb : ∀ pre a r, pre ++ a :: r = all → body (f a) (G pre (a :: r)) (M pre (a :: r)) = some (.nx, G (pre ++ [a]) r, M (pre ++ [a]) r)) :
    forGo gs body (all.map f) (G [] all) (M [] all) = some (.nx, G all [], M all []) := by
  have := for_pre (f := fun _ => f) G M hg hb all [] rfl
  rw [mapFrom_const] at this
  exact this
theorem for_enum {gs : Grd} {body : S → Sig → Sto → Rs} {f : α → S} (G : List α → List α → Sig) (M : List α → List α → Sto) {all : List α} (hg : ∀ pre r, gOk gs (M pre r) = true)
    (hb : ∀ pre a r, pre ++ a :: r = all → body (.tup [.int (pre.length : Nat), f a]) (G pre (a :: r)) (M pre (a :: r)) = some (.nx, G (pre ++ [a]) r, M (pre ++ [a]) r)) :
    forGo gs body (enumS 0 (all.map f)) (G [] all) (M [] all) = some (.nx, G all [], M all []) := by
  have := for_pre (f := fun i a => .tup [.int (i : Nat), f a]) G M hg hb all [] rfl
  rw [enumS_map]
  exact this
/-- the same, of range(n) -/
theorem for_rngF {gs : Grd} {body : S → Sig → Sto → Rs} (G : Nat → Sig) (M : Nat → Sto) (n : Nat) (hg : ∀ i, gOk gs (M i) = true) (hb : ∀ i, i < n → body (nI i) (G i) (M i) = some (.nx, G (i + 1), M (i + 1))) :
    ∀ (d i : Nat), i + d = n → forGo gs body ((List.range' i d).map nI) (G i) (M i) = some (.nx, G n, M n)
  | 0, i, h => by
    have : i = n := by omega
    subst this
    simp only [List.range'_zero, List.map_nil, forGo, hg, if_true]
  | d + 1, i, h => by
    simp only [List.range'_succ, List.map_cons, forGo, hg, if_true, hb i (by omega), Option.bind_some]
    exact for_rngF G M n hg hb d (i + 1) (by omega)
theorem for_rng {gs : Grd} {body : S → Sig → Sto → Rs} (G : Nat → Sig) (M : Nat → Sto) (n : Nat) (hg : ∀ i, gOk gs (M i) = true) (hb : ∀ i, i < n → body (nI i) (G i) (M i) = some (.nx, G (i + 1), M (i + 1))) :
    forGo gs body (rngI 0 1 n) (G 0) (M 0) = some (.nx, G n, M n) := by
  rw [rngI_nat, List.range_eq_range']
  exact for_rngF G M n hg hb n 0 (by omega)
theorem for_rangeF {gs : Grd} {body : S → Sig → Sto → Rs} (f : Nat → S) (G : Nat → Sig) (M : Nat → Sto) (n : Nat) (hg : ∀ i, gOk gs (M i) = true) (hb : ∀ i, i < n → body (f i) (G i) (M i) = some (.nx, G (i + 1), M (i + 1))) :
    ∀ (d i : Nat), i + d = n → forGo gs body ((List.range' i d).map f) (G i) (M i) = some (.nx, G n, M n)
  | 0, i, h => by
    have : i = n := by omega
    subst this
    simp only [List.range'_zero, List.map_nil, forGo, hg, if_true]
  | d + 1, i, h => by
    simp only [List.range'_succ, List.map_cons, forGo, hg, if_true, hb i (by omega), Option.bind_some]
    exact for_rangeF f G M n hg hb d (i + 1) (by omega)
theorem for_range {gs : Grd} {body : S → Sig → Sto → Rs} (f : Nat → S) (G : Nat → Sig) (M : Nat → Sto) (n : Nat) (hg : ∀ i, gOk gs (M i) = true) (hb : ∀ i, i < n → body (f i) (G i) (M i) = some (.nx, G (i + 1), M (i + 1))) :
    forGo gs body ((List.range n).map f) (G 0) (M 0) = some (.nx, G n, M n) := by
  rw [List.range_eq_range']
  exact for_rangeF f G M n hg hb n 0 (by omega)
theorem rngI_one (n : Nat) : rngI 1 1 n = (List.range n).map fun i : Nat => S.int ((i : Int) + 1) := by
  unfold rngI
  congr 1
  funext i
  congr 1
  omega
/-- a while that counts -/
theorem while_go {c : Sig → Sto → Option (D × Sto)} {b : Sig → Sto → Rs} (G : Nat → Sig) (M : Nat → Sto) (n : Nat) (hc : ∀ i, i < n → c (G i) (M i) = some (.s (.bl true), M i) ∧ b (G i) (M i) = some (.nx, G (i + 1), M (i + 1))) (he : c (G n) (M n) = some (.s (.bl false), M n)) :
    ∀ (d i : Nat), i + d = n → whileD c b (G i) (M i) = some (.nx, G n, M n)
  | 0, i, h => by
    have : i = n := by omega
    subst this
    rw [whileD, he]
    rfl
  | d + 1, i, h => by
    obtain ⟨h1, h2⟩ := hc i (by omega)
    rw [whileD, h1]
    simp only [blOf, Option.bind_eq_bind, Option.bind_some, if_true, h2]
    exact while_go G M n hc he d (i + 1) (by omega)
/-- a comprehension over range(n) that lays things -/
theorem lc_rngF {gs : Grd} {body : S → Sto → Option (Option S × Sto)} (e : Nat → S) (M : Nat → Sto) (n : Nat) (hn : n ≤ LINE) (hg : ∀ i, gOk gs (M i) = true) (hb : ∀ i, i < n → body (nI i) (M i) = some (some (e i), M (i + 1))) :
    ∀ (d i : Nat), i + d = n → lcGo gs body ((List.range' i d).map nI) ((List.range i).map e) (M i) = some ((List.range n).map e, M n)
  | 0, i, h => by
    have : i = n := by omega
    subst this
    simp only [List.range'_zero, List.map_nil, lcGo, hg, if_true]
  | d + 1, i, h => by
    have hl : ((List.range i).map e).length < LINE := by rw [List.length_map, List.length_range]; omega
    simp only [List.range'_succ, List.map_cons, lcGo, hg, if_true, hb i (by omega), Option.bind_some, if_pos hl]
    have := lc_rngF e M n hn hg hb d (i + 1) (by omega)
    rw [List.range_succ, List.map_append] at this
    exact this
theorem lc_rng {gs : Grd} {body : S → Sto → Option (Option S × Sto)} (e : Nat → S) (M : Nat → Sto) (n : Nat) (hn : n ≤ LINE) (hg : ∀ i, gOk gs (M i) = true) (hb : ∀ i, i < n → body (nI i) (M i) = some (some (e i), M (i + 1))) :
    lcGo gs body (rngI 0 1 n) [] (M 0) = some ((List.range n).map e, M n) := by
  have h := lc_rngF e M n hn hg hb n 0 (by omega)
  rw [← List.range_eq_range'] at h
  rw [rngI_nat]
  exact h
end
/-- [x] * n -/
theorem bop_rep {μ : Sto} {x : S} {n : Int} (h : 0 ≤ n ∧ n ≤ 16777216) : bop .mul (.new (.lst [x])) (.s (.int n)) μ = some (.new (.lst (List.replicate n.toNat x))) := by
  have e : (List.replicate n.toNat [x]).flatten = List.replicate n.toNat x := by
    generalize n.toNat = m
    induction m with
    | zero => rfl
    | succ m ih => rw [List.replicate_succ, List.flatten_cons, ih]; rfl
  simp only [bop, if_true, lstOf, Option.bind_some, List.length_cons, List.length_nil, Nat.zero_add, Nat.one_mul]
  rw [if_pos ⟨by omega, by omega, by simp only [LINE]; omega⟩, e]
theorem rep_ints {n : Nat} {i : Int} : List.replicate n (S.int i) = (List.replicate n i).map S.int := by simp
/-! ### a row of rows -/
section
variable {α : Type}
def rowsS (f g : α → Ob) (pre r : List α) (C : Sto) : Sto := pre.map g ++ (r.map f ++ C)
variable {f g h : α → Ob} {pre r : List α} {a : α} {C : Sto}
theorem rowsS_len : (rowsS f g pre r C).length = pre.length + (r.length + C.length) := by simp [rowsS]
theorem rowsS_last (i : Nat) : (rowsS f g pre r C)[pre.length + r.length + i]? = C[i]? := by
  unfold rowsS
  rw [← List.append_assoc, List.getElem?_append_right (by simp)]
  simp
theorem rowsS_setl (i : Nat) (o : Ob) : (rowsS f g pre r C).set (pre.length + r.length + i) o = rowsS f g pre r (C.set i o) := by
  unfold rowsS
  rw [← List.append_assoc, List.set_append_right _ _ (by simp), ← List.append_assoc]
  simp
theorem rowsS_get : (rowsS f g pre (a :: r) C)[pre.length]? = some (f a) := by
  unfold rowsS
  rw [List.getElem?_append_right (by simp)]
  simp
theorem rowsS_set : (rowsS f g pre (a :: r) C).set pre.length (g a) = rowsS f g (pre ++ [a]) r C := by
  unfold rowsS
  rw [List.set_append_right _ _ (by simp)]
  simp
theorem rowsS_last0 {N : Nat} {o : Ob} {C : Sto} (h : pre.length + r.length = N) : (rowsS f g pre r (o :: C))[N]? = some o := by
  subst h
  have := @rowsS_last α f g pre r (o :: C) 0
  rw [Nat.add_zero] at this
  exact this
theorem rowsS_turn : rowsS f g pre [] C = rowsS g h [] pre C := by simp [rowsS]
theorem gcP_all {n : Nat} : ∀ {X Y : Sto}, (∀ o ∈ Y, o.und n = true) → gcP n X Y
  | [], _, _ => trivial
  | _ :: _, [], _ => trivial
  | o :: X, p :: Y, h => ⟨.inr (h p (by simp)), gcP_all fun o ho => h o (by simp [ho])⟩
end
end Dv
end
section
set_option Elab.async false
namespace Pg
open Dv
namespace Ix
abbrev add : Nat := 0
abbrev multiply : Nat := 1
abbrev polynomial_product : Nat := 2
abbrev as_member : Nat := 3
abbrev value_of : Nat := 4
abbrev sign_of : Nat := 5
abbrev counts_of : Nat := 6
abbrev frozen : Nat := 7
abbrev empty_rows : Nat := 8
abbrev places_of : Nat := 9
abbrev table_counters : Nat := 10
abbrev signed_places : Nat := 11
abbrev signed_counters : Nat := 12
abbrev joined_rows : Nat := 13
abbrev cell_of : Nat := 14
abbrev bits_over : Nat := 15
abbrev bit_cells : Nat := 16
abbrev joined_cells : Nat := 17
abbrev level_counters : Nat := 18
abbrev differences : Nat := 19
abbrev ranged_counters : Nat := 20
abbrev turned : Nat := 21
abbrev walsh_numbers : Nat := 22
abbrev law_draws : Nat := 23
abbrev law_take : Nat := 24
abbrev law_pick : Nat := 25
abbrev law_same : Nat := 26
abbrev law_shuffled : Nat := 27
abbrev law_some_of : Nat := 28
abbrev law_count : Nat := 29
abbrev law_keys : Nat := 30
abbrev law_kept : Nat := 31
abbrev law_any_stream : Nat := 32
abbrev law_size : Nat := 33
abbrev law_cut : Nat := 34
abbrev law_field_size : Nat := 35
abbrev law_field_sum : Nat := 36
abbrev law_field_product : Nat := 37
abbrev law_value : Nat := 38
abbrev law_draw : Nat := 39
abbrev law_drawn_table : Nat := 40
abbrev law_table_counters : Nat := 41
abbrev law_sum_rows : Nat := 42
abbrev law_signed_table : Nat := 43
abbrev law_level_keys : Nat := 44
abbrev law_bit_cells : Nat := 45
abbrev law_mixed_stream : Nat := 46
abbrev law_ranged_counters : Nat := 47
abbrev law_ranged_tables : Nat := 48
abbrev law_order_of : Nat := 49
abbrev law_sum_of_rows : Nat := 50
abbrev law : Nat := 51
end Ix
def b_add : C :=
  (.seq (.ife (.isi (.var 0) true [.int]) (.ret (.bin .mod (.bin .add (.var 1) (.var 2)) (.var 0))) .skip)
      (.ret (.bin .bxor (.var 1) (.var 2))))
def f_add : Fn := ⟨3, 3, true, b_add⟩
def b_multiply : C :=
  (.seq (.ife (.isi (.var 0) true [.int]) (.ret (.bin .mod (.bin .mul (.var 1) (.var 2)) (.var 0))) .skip)
      (.ret (.call Ix.polynomial_product false (.cons (.ix (.var 0) (.k (.int 1))) (.cons (.var 1) (.cons (.var 2) .nil))))))
def f_multiply : Fn := ⟨3, 3, true, b_multiply⟩
def s_polynomial_product_0 : C := (.asg 3 (.k (.int 0)))
def s_polynomial_product_l0_0 : C := (.ife (.tru (.bin .band (.bin .shr (.var 2) (.var 4)) (.k (.int 1)))) (.asg 3 (.bin .bxor (.var 3) (.var 1))) .skip)
def s_polynomial_product_l0_1 : C := (.asg 1 (.bin .shl (.var 1) (.k (.int 1))))
def s_polynomial_product_l0_2 : C := (.ife (.tru (.bin .shr (.var 1) (.var 0))) (.asg 1 (.bin .bxor (.var 1) (.ix (.gl 0) (.var 0)))) .skip)
def b_polynomial_product_l0 : C := (.seq s_polynomial_product_l0_0
      (.seq s_polynomial_product_l0_1
      s_polynomial_product_l0_2))
def s_polynomial_product_1 : C := (.fr (.nm 4) (.rng1 (.var 0)) (.kl [4] b_polynomial_product_l0))
def s_polynomial_product_2 : C := (.ret (.var 3))
def b_polynomial_product : C :=
  (.seq s_polynomial_product_0
      (.seq s_polynomial_product_1
      s_polynomial_product_2))
def f_polynomial_product : Fn := ⟨3, 5, true, b_polynomial_product⟩
def b_as_member : C :=
  (.seq (.ife (.isi (.var 0) true [.int]) (.ret (.bin .mod (.var 1) (.var 0))) .skip)
      (.ret (.var 1)))
def f_as_member : Fn := ⟨2, 2, true, b_as_member⟩
def s_value_of_0 : C := (.asg 3 (.call Ix.as_member false (.cons (.var 0) (.cons (.var 2) .nil))))
def s_value_of_1 : C := (.asg 4 (.k (.int 0)))
def b_value_of_l0 : C := (.asg 4 (.call Ix.add false (.cons (.var 0) (.cons (.call Ix.multiply false (.cons (.var 0) (.cons (.var 4) (.cons (.var 3) .nil)))) (.cons (.var 5) .nil)))))
def s_value_of_2 : C := (.fr (.nm 5) (.rev (.var 1)) (.kl [5] b_value_of_l0))
def s_value_of_3 : C := (.ret (.var 4))
def b_value_of : C :=
  (.seq s_value_of_0
      (.seq s_value_of_1
      (.seq s_value_of_2
      s_value_of_3)))
def f_value_of : Fn := ⟨3, 6, true, b_value_of⟩
def b_sign_of : C :=
  (.ret (.ife (.cmp .eq (.bin .mod (.call Ix.value_of false (.cons (.var 0) (.cons (.var 1) (.cons (.var 2) .nil)))) (.k (.int 2))) (.k (.int 0))) (.k (.int 1)) (.neg (.k (.int 1)))))
def f_sign_of : Fn := ⟨3, 3, true, b_sign_of⟩
def s_counts_of_0 : C := (.asg 1 .dnK)
def b_counts_of_l0 : C := (.sub (.var 1) (.var 2) (.bin .add (.mt .get2 (.var 1) (.cons (.var 2) (.cons (.k (.int 0)) .nil))) (.var 3)))
def s_counts_of_1 : C := (.fr (.tp [(.nm 2), (.nm 3)]) (.seq (.var 0)) (.kl [2, 3] b_counts_of_l0))
def s_counts_of_2 : C := (.ret (.bi .tuple (.cons (.lc (.tup (.cons (.var 2) (.cons (.ix (.var 1) (.var 2)) .nil))) [2] (.nm 2) (.seq (.bi .sorted (.cons (.var 1) .nil))) (.cmp .ne (.ix (.var 1) (.var 2)) (.k (.int 0)))) .nil)))
def b_counts_of : C :=
  (.seq s_counts_of_0
      (.seq s_counts_of_1
      s_counts_of_2))
def f_counts_of : Fn := ⟨1, 4, true, b_counts_of⟩
def b_frozen : C :=
  (.ret (.bi .tuple (.cons (.lc (.bi .tuple (.cons (.var 1) .nil)) [1] (.nm 1) (.seq (.var 0)) (.k (.bl true))) .nil)))
def f_frozen : Fn := ⟨1, 2, true, b_frozen⟩
def b_empty_rows : C :=
  (.ret (.lc (.bin .mul (.lst (.cons (.k (.int 0)) .nil)) (.var 1)) [2] (.nm 2) (.rng1 (.var 0)) (.k (.bl true))))
def f_empty_rows : Fn := ⟨2, 3, false, b_empty_rows⟩
def b_places_of : C :=
  (.ret (.lc (.call Ix.value_of false (.cons (.var 1) (.cons (.var 3) (.cons (.var 2) .nil)))) [3] (.nm 3) (.seq (.var 0)) (.k (.bl true))))
def f_places_of : Fn := ⟨3, 4, true, b_places_of⟩
def s_table_counters_0 : C := (.asg 3 (.call Ix.empty_rows false (.cons (.bi .len (.cons (.var 1) .nil)) (.cons (.var 2) .nil))))
def b_table_counters_l1 : C := (.augS .add (.ix (.var 3) (.var 6)) (.var 7) (.var 5))
def b_table_counters_l0 : C := (.fr (.tp [(.nm 6), (.nm 7)]) (.enum (.call Ix.places_of false (.cons (.var 1) (.cons (.var 2) (.cons (.var 4) .nil))))) (.kl [6, 7] b_table_counters_l1))
def s_table_counters_1 : C := (.fr (.tp [(.nm 4), (.nm 5)]) (.seq (.call Ix.counts_of false (.cons (.var 0) .nil))) (.kl [4, 5, 6, 7] b_table_counters_l0))
def s_table_counters_2 : C := (.ret (.call Ix.frozen false (.cons (.var 3) .nil)))
def b_table_counters : C :=
  (.seq s_table_counters_0
      (.seq s_table_counters_1
      s_table_counters_2))
def f_table_counters : Fn := ⟨3, 8, true, b_table_counters⟩
def b_signed_places : C :=
  (.seq (.asg 4 (.tup (.cons (.k (.int 2)) (.cons (.var 1) .nil))))
      (.ret (.lc (.tup (.cons (.bin .mod (.call Ix.value_of false (.cons (.var 4) (.cons (.var 5) (.cons (.var 3) .nil)))) (.var 2)) (.cons (.call Ix.sign_of false (.cons (.var 4) (.cons (.var 6) (.cons (.var 3) .nil)))) .nil))) [5, 6] (.tp [(.nm 5), (.nm 6)]) (.seq (.var 0)) (.k (.bl true)))))
def f_signed_places : Fn := ⟨4, 7, true, b_signed_places⟩
def s_signed_counters_0 : C := (.asg 4 (.call Ix.empty_rows false (.cons (.bi .len (.cons (.var 1) .nil)) (.cons (.var 3) .nil))))
def b_signed_counters_l1 : C := (.augS .add (.ix (.var 4) (.var 7)) (.var 8) (.bin .mul (.var 9) (.var 6)))
def b_signed_counters_l0 : C := (.fr (.tp [(.nm 7), (.tp [(.nm 8), (.nm 9)])]) (.enum (.call Ix.signed_places false (.cons (.var 1) (.cons (.var 2) (.cons (.var 3) (.cons (.var 5) .nil)))))) (.kl [7, 8, 9] b_signed_counters_l1))
def s_signed_counters_1 : C := (.fr (.tp [(.nm 5), (.nm 6)]) (.seq (.call Ix.counts_of false (.cons (.var 0) .nil))) (.kl [5, 6, 7, 8, 9] b_signed_counters_l0))
def s_signed_counters_2 : C := (.ret (.call Ix.frozen false (.cons (.var 4) .nil)))
def b_signed_counters : C :=
  (.seq s_signed_counters_0
      (.seq s_signed_counters_1
      s_signed_counters_2))
def f_signed_counters : Fn := ⟨4, 10, true, b_signed_counters⟩
def b_joined_rows : C :=
  (.ret (.bi .tuple (.cons (.lc (.bi .tuple (.cons (.lc (.bin .add (.var 4) (.var 5)) [4, 5] (.tp [(.nm 4), (.nm 5)]) (.zip (.var 2) (.var 3)) (.k (.bl true))) .nil)) [2, 3] (.tp [(.nm 2), (.nm 3)]) (.zip (.var 0) (.var 1)) (.k (.bl true))) .nil)))
def f_joined_rows : Fn := ⟨2, 6, true, b_joined_rows⟩
def b_cell_of : C :=
  (.ret (.bin .mod (.call Ix.value_of false (.cons (.var 1) (.cons (.var 0) (.cons (.var 3) .nil)))) (.var 2)))
def f_cell_of : Fn := ⟨4, 4, true, b_cell_of⟩
def b_bits_over : C :=
  (.ret (.mt .bitlen (.bin .sub (.var 0) (.k (.int 1))) .nil))
def f_bits_over : Fn := ⟨1, 1, true, b_bits_over⟩
def s_bit_cells_0 : C := (.asg 4 (.call Ix.bits_over false (.cons (.var 2) .nil)))
def s_bit_cells_1 : C := (.asg 5 (.call Ix.counts_of false (.cons (.var 0) .nil)))
def s_bit_cells_2 : C := (.asg 6 (.lst .nil))
def s_bit_cells_l0_0 : C := (.asg 8 (.lc (.bin .mul (.lst (.cons (.k (.int 0)) .nil)) (.bin .add (.var 4) (.k (.int 1)))) [13] (.nm 13) (.rng1 (.var 3)) (.k (.bl true))))
def s_bit_cells_l1_0 : C := (.asg 11 (.ix (.var 8) (.call Ix.cell_of false (.cons (.var 7) (.cons (.var 2) (.cons (.var 3) (.cons (.var 9) .nil)))))))
def s_bit_cells_l1_1 : C := (.augS .add (.var 11) (.k (.int 0)) (.var 10))
def b_bit_cells_l2 : C := (.ife (.tru (.bin .band (.bin .shr (.var 9) (.var 12)) (.k (.int 1)))) (.augS .add (.var 11) (.bin .add (.var 12) (.k (.int 1))) (.var 10)) .skip)
def s_bit_cells_l1_2 : C := (.fr (.nm 12) (.rng1 (.var 4)) (.kl [12] b_bit_cells_l2))
def b_bit_cells_l1 : C := (.seq s_bit_cells_l1_0
      (.seq s_bit_cells_l1_1
      s_bit_cells_l1_2))
def s_bit_cells_l0_1 : C := (.fr (.tp [(.nm 9), (.nm 10)]) (.seq (.var 5)) (.kl [9, 10, 11, 12] b_bit_cells_l1))
def s_bit_cells_l0_2 : C := (.exp (.app (.var 6) (.bi .tuple (.cons (.lc (.bi .tuple (.cons (.var 11) .nil)) [11] (.nm 11) (.seq (.var 8)) (.k (.bl true))) .nil))))
def b_bit_cells_l0 : C := (.seq s_bit_cells_l0_0
      (.seq s_bit_cells_l0_1
      s_bit_cells_l0_2))
def s_bit_cells_3 : C := (.fr (.nm 7) (.seq (.var 1)) (.gc [7, 8, 9, 10, 11, 12] b_bit_cells_l0))
def s_bit_cells_4 : C := (.ret (.bi .tuple (.cons (.var 6) .nil)))
def b_bit_cells : C :=
  (.seq s_bit_cells_0
      (.seq s_bit_cells_1
      (.seq s_bit_cells_2
      (.seq s_bit_cells_3
      s_bit_cells_4))))
def f_bit_cells : Fn := ⟨4, 14, true, b_bit_cells⟩
def s_joined_cells_0 : C := (.asg 2 (.lst .nil))
def b_joined_cells_l0 : C := (.exp (.app (.var 2) (.bi .tuple (.cons (.lc (.bi .tuple (.cons (.lc (.bin .add (.var 7) (.var 8)) [7, 8] (.tp [(.nm 7), (.nm 8)]) (.zip (.var 5) (.var 6)) (.k (.bl true))) .nil)) [5, 6] (.tp [(.nm 5), (.nm 6)]) (.zip (.var 3) (.var 4)) (.k (.bl true))) .nil))))
def s_joined_cells_1 : C := (.fr (.tp [(.nm 3), (.nm 4)]) (.zip (.var 0) (.var 1)) (.kl [3, 4] b_joined_cells_l0))
def s_joined_cells_2 : C := (.ret (.bi .tuple (.cons (.var 2) .nil)))
def b_joined_cells : C :=
  (.seq s_joined_cells_0
      (.seq s_joined_cells_1
      s_joined_cells_2))
def f_joined_cells : Fn := ⟨2, 9, true, b_joined_cells⟩
def s_level_counters_0 : C := (.asg 2 (.bin .mul (.lst (.cons (.k (.int 0)) .nil)) (.bin .shl (.k (.int 1)) (.var 1))))
def b_level_counters_l0 : C := (.augS .add (.var 2) (.var 3) (.var 4))
def s_level_counters_1 : C := (.fr (.tp [(.nm 3), (.nm 4)]) (.seq (.call Ix.counts_of false (.cons (.var 0) .nil))) (.kl [3, 4] b_level_counters_l0))
def s_level_counters_2 : C := (.asg 5 (.lst (.cons (.bi .tuple (.cons (.var 2) .nil)) .nil)))
def b_level_counters_l1 : C := (.seq (.asg 2 (.lc (.bin .add (.ix (.var 2) (.bin .mul (.k (.int 2)) (.var 7))) (.ix (.var 2) (.bin .add (.bin .mul (.k (.int 2)) (.var 7)) (.k (.int 1))))) [7] (.nm 7) (.rng1 (.bin .fdiv (.bi .len (.cons (.var 2) .nil)) (.k (.int 2)))) (.k (.bl true))))
      (.exp (.app (.var 5) (.bi .tuple (.cons (.var 2) .nil)))))
def s_level_counters_3 : C := (.fr (.nm 6) (.rng1 (.var 1)) (.kl [6] b_level_counters_l1))
def s_level_counters_4 : C := (.ret (.bi .tuple (.cons (.var 5) .nil)))
def b_level_counters : C :=
  (.seq s_level_counters_0
      (.seq s_level_counters_1
      (.seq s_level_counters_2
      (.seq s_level_counters_3
      s_level_counters_4))))
def f_level_counters : Fn := ⟨2, 8, true, b_level_counters⟩
def s_differences_0 : C := (.asg 2 (.call Ix.level_counters false (.cons (.var 0) (.cons (.var 1) .nil))))
def s_differences_1 : C := (.asg 3 (.lst .nil))
def b_differences_l0 : C := (.seq (.asg 5 (.ix (.var 2) (.bin .sub (.var 4) (.k (.int 1)))))
      (.exp (.app (.var 3) (.bi .tuple (.cons (.lc (.bin .sub (.ix (.var 5) (.bin .mul (.k (.int 2)) (.var 6))) (.ix (.var 5) (.bin .add (.bin .mul (.k (.int 2)) (.var 6)) (.k (.int 1))))) [6] (.nm 6) (.rng1 (.bin .fdiv (.bi .len (.cons (.var 5) .nil)) (.k (.int 2)))) (.k (.bl true))) .nil)))))
def s_differences_2 : C := (.fr (.nm 4) (.rng2 (.k (.int 1)) (.bin .add (.var 1) (.k (.int 1)))) (.kl [4, 5] b_differences_l0))
def s_differences_3 : C := (.ret (.tup (.cons (.ix (.ix (.var 2) (.var 1)) (.k (.int 0))) (.cons (.bi .tuple (.cons (.var 3) .nil)) .nil))))
def b_differences : C :=
  (.seq s_differences_0
      (.seq s_differences_1
      (.seq s_differences_2
      s_differences_3)))
def f_differences : Fn := ⟨2, 7, true, b_differences⟩
def s_ranged_counters_0 : C := (.asg 5 (.lst .nil))
def s_ranged_counters_l0_0 : C := (.asg 8 (.lst .nil))
def s_ranged_counters_l1_0 : C := (.asg 10 (.bin .mul (.lst (.cons (.k (.int 0)) .nil)) (.var 3)))
def b_ranged_counters_l2 : C := (.augS .add (.var 10) (.bin .mod (.call Ix.value_of false (.cons (.var 2) (.cons (.var 9) (.cons (.var 11) .nil)))) (.var 3)) (.var 12))
def s_ranged_counters_l1_1 : C := (.fr (.tp [(.nm 11), (.nm 12)]) (.enum (.var 7)) (.kl [11, 12] b_ranged_counters_l2))
def s_ranged_counters_l1_2 : C := (.exp (.app (.var 8) (.bi .tuple (.cons (.var 10) .nil))))
def b_ranged_counters_l1 : C := (.seq s_ranged_counters_l1_0
      (.seq s_ranged_counters_l1_1
      s_ranged_counters_l1_2))
def s_ranged_counters_l0_1 : C := (.fr (.nm 9) (.seq (.var 6)) (.gc [9, 10, 11, 12] b_ranged_counters_l1))
def s_ranged_counters_l0_2 : C := (.exp (.app (.var 5) (.bi .tuple (.cons (.var 8) .nil))))
def b_ranged_counters_l0 : C := (.seq s_ranged_counters_l0_0
      (.seq s_ranged_counters_l0_1
      s_ranged_counters_l0_2))
def s_ranged_counters_1 : C := (.fr (.tp [(.nm 6), (.nm 7)]) (.zip (.var 1) (.call Ix.level_counters false (.cons (.var 0) (.cons (.var 4) .nil)))) (.gc [6, 7, 8, 9, 10, 11, 12] b_ranged_counters_l0))
def s_ranged_counters_2 : C := (.ret (.bi .tuple (.cons (.var 5) .nil)))
def b_ranged_counters : C :=
  (.seq s_ranged_counters_0
      (.seq s_ranged_counters_1
      s_ranged_counters_2))
def f_ranged_counters : Fn := ⟨5, 13, true, b_ranged_counters⟩
def s_turned_0 : C := (.asg 1 (.bi .list (.cons (.var 0) .nil)))
def s_turned_1 : C := (.asg 2 (.k (.int 1)))
def b_turned_l0 : C := (.seq (.asg 1 (.lc (.ife (.cmp .eq (.bin .band (.var 3) (.var 2)) (.k (.int 0))) (.bin .add (.ix (.var 1) (.var 3)) (.ix (.var 1) (.bin .add (.var 3) (.var 2)))) (.bin .sub (.ix (.var 1) (.bin .sub (.var 3) (.var 2))) (.ix (.var 1) (.var 3)))) [3] (.nm 3) (.rng1 (.bi .len (.cons (.var 1) .nil))) (.k (.bl true))))
      (.asg 2 (.bin .mul (.k (.int 2)) (.var 2))))
def s_turned_2 : C := (.whl (.cmp .lt (.var 2) (.bi .len (.cons (.var 1) .nil))) b_turned_l0)
def s_turned_3 : C := (.ret (.var 1))
def b_turned : C :=
  (.seq s_turned_0
      (.seq s_turned_1
      (.seq s_turned_2
      s_turned_3)))
def f_turned : Fn := ⟨1, 4, true, b_turned⟩
def s_walsh_numbers_0 : C := (.asg 2 (.bin .mul (.lst (.cons (.k (.int 0)) .nil)) (.bin .shl (.k (.int 1)) (.var 1))))
def b_walsh_numbers_l0 : C := (.sub (.var 2) (.var 3) (.var 4))
def s_walsh_numbers_1 : C := (.fr (.tp [(.nm 3), (.nm 4)]) (.seq (.call Ix.counts_of false (.cons (.var 0) .nil))) (.kl [3, 4] b_walsh_numbers_l0))
def s_walsh_numbers_2 : C := (.ret (.bi .tuple (.cons (.call Ix.turned false (.cons (.var 2) .nil)) .nil)))
def b_walsh_numbers : C :=
  (.seq s_walsh_numbers_0
      (.seq s_walsh_numbers_1
      s_walsh_numbers_2))
def f_walsh_numbers : Fn := ⟨2, 5, true, b_walsh_numbers⟩
def s_law_draws_0 : C := (.asg 2 (.lc (.bin .mod (.bi .int (.cons (.var 3) .nil)) (.bin .shl (.k (.int 1)) (.k (.int 7200)))) [3] (.nm 3) (.seq (.slc (.var 0) (.k .non) (.k (.int 63)))) (.k (.bl true))))
def s_law_draws_1 : C := (.ife (.cmp .eq (.bi .len (.cons (.var 2) .nil)) (.k (.int 0))) (.exp (.app (.var 2) (.k (.int 0)))) .skip)
def s_law_draws_2 : C := (.asg 4 (.bi .list (.cons (.var 2) .nil)))
def s_law_draws_3 : C := (.asg 5 (.lst .nil))
def b_law_draws_l0 : C := (.seq (.asg 7 (.bin .mod (.bi .int (.cons (.var 6) .nil)) (.bi .len (.cons (.var 2) .nil))))
      (.ife (.and (.cmp .ge (.ix (.var 2) (.var 7)) (.bin .pow (.k (.int 10)) (.k (.int 18)))) (.cmp .gt (.ix (.var 4) (.var 7)) (.k (.int 0)))) (.seq (.exp (.app (.var 5) (.bin .mod (.bi .int (.cons (.ix (.var 4) (.var 7)) .nil)) (.k (.int 1000)))))
      (.sub (.var 4) (.var 7) (.bin .fdiv (.ix (.var 4) (.var 7)) (.k (.int 1000))))) (.seq (.asg 8 (.bin .mod (.bi .int (.cons (.bin .add (.bin .add (.bin .mul (.ix (.var 2) (.var 7)) (.k (.int 48271))) (.bin .mul (.var 6) (.k (.int 69621)))) (.k (.int 11))) .nil)) (.k (.int 2147483647))))
      (.exp (.app (.var 5) (.bin .mod (.bi .int (.cons (.bin .add (.bin .add (.bin .mul (.var 8) (.var 8)) (.bin .mul (.k (.int 3)) (.var 8))) (.var 6)) .nil)) (.k (.int 1000003))))))))
def s_law_draws_4 : C := (.fr (.nm 6) (.rng1 (.var 1)) (.kl [6, 7, 8] b_law_draws_l0))
def s_law_draws_5 : C := (.exp (.mt .rev (.var 5) .nil))
def s_law_draws_6 : C := (.ret (.var 5))
def b_law_draws : C :=
  (.seq s_law_draws_0
      (.seq s_law_draws_1
      (.seq s_law_draws_2
      (.seq s_law_draws_3
      (.seq s_law_draws_4
      (.seq s_law_draws_5
      s_law_draws_6))))))
def f_law_draws : Fn := ⟨2, 9, true, b_law_draws⟩
def b_law_take : C :=
  (.seq (.ife (.cmp .eq (.bi .len (.cons (.var 0) .nil)) (.k (.int 0))) (.ret (.k (.int 0))) .skip)
      (.ret (.bin .mod (.bi .int (.cons (.mt .pop (.var 0) .nil) .nil)) (.var 1))))
def f_law_take : Fn := ⟨2, 2, true, b_law_take⟩
def b_law_pick : C :=
  (.ret (.ix (.var 1) (.call Ix.law_take false (.cons (.var 0) (.cons (.bi .len (.cons (.var 1) .nil)) .nil)))))
def f_law_pick : Fn := ⟨2, 2, true, b_law_pick⟩
def s_law_same_0 : C := (.ife (.isi (.var 1) false [.tuple, .list]) (.seq (.ife (.or (.cmp .ne (.isi (.var 0) true [.tuple]) (.isi (.var 1) true [.tuple])) (.cmp .ne (.isi (.var 0) true [.list]) (.isi (.var 1) true [.list]))) (.ret (.k (.bl false))) .skip)
      (.seq (.ife (.cmp .ne (.bi .len (.cons (.var 0) .nil)) (.bi .len (.cons (.var 1) .nil))) (.ret (.k (.bl false))) .skip)
      (.ret (.cmp .nmem (.k (.bl false)) (.lc (.call Ix.law_same false (.cons (.ix (.var 0) (.var 2)) (.cons (.ix (.var 1) (.var 2)) .nil))) [2] (.nm 2) (.rng1 (.bi .len (.cons (.var 1) .nil))) (.k (.bl true))))))) .skip)
def s_law_same_1 : C := (.ife (.or (.cmp .ne (.isi (.var 0) true [.bool]) (.isi (.var 1) true [.bool])) (.cmp .ne (.isi (.var 0) true [.int]) (.isi (.var 1) true [.int]))) (.ret (.k (.bl false))) .skip)
def s_law_same_2 : C := (.ife (.or (.cmp .ne (.isi (.var 0) true [.str]) (.isi (.var 1) true [.str])) (.cmp .ne (.cmp .isN (.var 0) (.k .non)) (.cmp .isN (.var 1) (.k .non)))) (.ret (.k (.bl false))) .skip)
def s_law_same_3 : C := (.ret (.cmp .eq (.var 0) (.var 1)))
def b_law_same : C :=
  (.seq s_law_same_0
      (.seq s_law_same_1
      (.seq s_law_same_2
      s_law_same_3)))
def f_law_same : Fn := ⟨2, 3, true, b_law_same⟩
def s_law_shuffled_0 : C := (.asg 2 (.bi .list (.cons (.var 1) .nil)))
def s_law_shuffled_1 : C := (.asg 3 (.lst .nil))
def b_law_shuffled_l0 : C := (.exp (.app (.var 3) (.mt .popAt (.var 2) (.cons (.call Ix.law_take false (.cons (.var 0) (.cons (.bi .len (.cons (.var 2) .nil)) .nil))) .nil))))
def s_law_shuffled_2 : C := (.fr (.nm 4) (.rng1 (.bi .len (.cons (.var 2) .nil))) (.kl [4] b_law_shuffled_l0))
def s_law_shuffled_3 : C := (.ret (.var 3))
def b_law_shuffled : C :=
  (.seq s_law_shuffled_0
      (.seq s_law_shuffled_1
      (.seq s_law_shuffled_2
      s_law_shuffled_3)))
def f_law_shuffled : Fn := ⟨2, 5, true, b_law_shuffled⟩
def s_law_some_of_0 : C := (.asg 3 (.lst .nil))
def b_law_some_of_l0 : C := (.seq (.asg 5 (.call Ix.law_pick false (.cons (.var 0) (.cons (.var 1) .nil))))
      (.ife (.cmp .nmem (.var 5) (.var 3)) (.exp (.app (.var 3) (.var 5))) .skip))
def s_law_some_of_1 : C := (.fr (.nm 4) (.rng1 (.bin .add (.k (.int 1)) (.call Ix.law_take false (.cons (.var 0) (.cons (.var 2) .nil))))) (.kl [4, 5] b_law_some_of_l0))
def s_law_some_of_2 : C := (.ret (.bi .sorted (.cons (.var 3) .nil)))
def b_law_some_of : C :=
  (.seq s_law_some_of_0
      (.seq s_law_some_of_1
      s_law_some_of_2))
def f_law_some_of : Fn := ⟨3, 6, true, b_law_some_of⟩
def b_law_count : C :=
  (.seq (.ife (.cmp .eq (.call Ix.law_take false (.cons (.var 0) (.cons (.k (.int 9)) .nil))) (.k (.int 0))) (.ret (.call Ix.law_pick true (.cons (.var 0) (.cons (.lst (.cons (.bin .add (.bin .pow (.k (.int 10)) (.k (.int 9))) (.k (.int 7))) (.cons (.bin .add (.bin .pow (.k (.int 10)) (.k (.int 17))) (.k (.int 3))) (.cons (.bin .add (.bin .pow (.k (.int 10)) (.k (.int 40))) (.k (.int 121))) .nil)))) .nil)))) .skip)
      (.ret (.bin .add (.k (.int 1)) (.call Ix.law_take false (.cons (.var 0) (.cons (.call Ix.law_pick true (.cons (.var 0) (.cons (.lst (.cons (.k (.int 1)) (.cons (.k (.int 3)) (.cons (.k (.int 9)) .nil)))) .nil))) .nil))))))
def f_law_count : Fn := ⟨1, 1, true, b_law_count⟩
def b_law_keys : C :=
  (.ret (.call Ix.law_shuffled true (.cons (.var 0) (.cons (.call Ix.law_some_of true (.cons (.var 0) (.cons (.rg1 false (.var 1)) (.cons (.k (.int 7)) .nil)))) .nil))))
def f_law_keys : Fn := ⟨2, 2, true, b_law_keys⟩
def s_law_kept_0 : C := (.asg 3 .dnK)
def s_law_kept_1 : C := (.asg 4 (.lst .nil))
def s_law_kept_l0_0 : C := (.asg 6 (.call Ix.law_pick false (.cons (.var 0) (.cons (.var 1) .nil))))
def s_law_kept_l0_1 : C := (.asg 7 (.mt .get2 (.var 3) (.cons (.var 6) (.cons (.k (.int 0)) .nil))))
def s_law_kept_l0_2 : C := (.asg 8 (.call Ix.law_count false (.cons (.var 0) .nil)))
def s_law_kept_l0_3 : C := (.ife (.and (.cmp .gt (.var 7) (.k (.int 0))) (.cmp .eq (.call Ix.law_take false (.cons (.var 0) (.cons (.k (.int 2)) .nil))) (.k (.int 0)))) (.asg 8 (.bin .sub (.k (.int 0)) (.call Ix.law_pick true (.cons (.var 0) (.cons (.lst (.cons (.var 7) (.cons (.k (.int 1)) (.cons (.bi .min2 (.cons (.var 7) (.cons (.var 8) .nil))) .nil)))) .nil))))) .skip)
def s_law_kept_l0_4 : C := (.sub (.var 3) (.var 6) (.bin .add (.var 7) (.var 8)))
def s_law_kept_l0_5 : C := (.exp (.app (.var 4) (.tup (.cons (.var 6) (.cons (.var 8) .nil)))))
def b_law_kept_l0 : C := (.seq s_law_kept_l0_0
      (.seq s_law_kept_l0_1
      (.seq s_law_kept_l0_2
      (.seq s_law_kept_l0_3
      (.seq s_law_kept_l0_4
      s_law_kept_l0_5)))))
def s_law_kept_2 : C := (.fr (.nm 5) (.rng1 (.call Ix.law_take false (.cons (.var 0) (.cons (.bin .add (.var 2) (.k (.int 1))) .nil)))) (.kl [5, 6, 7, 8] b_law_kept_l0))
def s_law_kept_3 : C := (.ret (.bi .tuple (.cons (.var 4) .nil)))
def b_law_kept : C :=
  (.seq s_law_kept_0
      (.seq s_law_kept_1
      (.seq s_law_kept_2
      s_law_kept_3)))
def f_law_kept : Fn := ⟨3, 9, true, b_law_kept⟩
def s_law_any_stream_0 : C := (.asg 3 (.lst .nil))
def b_law_any_stream_l0 : C := (.exp (.app (.var 3) (.tup (.cons (.call Ix.law_pick false (.cons (.var 0) (.cons (.var 1) .nil))) (.cons (.bin .mul (.call Ix.law_count false (.cons (.var 0) .nil)) (.call Ix.law_pick true (.cons (.var 0) (.cons (.lst (.cons (.k (.int 1)) (.cons (.k (.int 1)) (.cons (.neg (.k (.int 1))) .nil)))) .nil)))) .nil)))))
def s_law_any_stream_1 : C := (.fr (.nm 4) (.rng1 (.call Ix.law_take false (.cons (.var 0) (.cons (.bin .add (.var 2) (.k (.int 1))) .nil)))) (.kl [4] b_law_any_stream_l0))
def s_law_any_stream_2 : C := (.ret (.bi .tuple (.cons (.var 3) .nil)))
def b_law_any_stream : C :=
  (.seq s_law_any_stream_0
      (.seq s_law_any_stream_1
      s_law_any_stream_2))
def f_law_any_stream : Fn := ⟨3, 5, true, b_law_any_stream⟩
def b_law_size : C :=
  (.ret (.bi .sum (.cons (.lc (.ix (.var 1) (.k (.int 1))) [1] (.nm 1) (.seq (.var 0)) (.k (.bl true))) .nil)))
def f_law_size : Fn := ⟨1, 2, true, b_law_size⟩
def b_law_cut : C :=
  (.seq (.asg 2 (.call Ix.law_take false (.cons (.var 0) (.cons (.bin .add (.bi .len (.cons (.var 1) .nil)) (.k (.int 1))) .nil))))
      (.ret (.lst (.cons (.slc (.var 1) (.k .non) (.var 2)) (.cons (.slc (.var 1) (.var 2) (.k .non)) .nil)))))
def f_law_cut : Fn := ⟨2, 3, true, b_law_cut⟩
def b_law_field_size : C :=
  (.seq (.ife (.isi (.var 0) true [.int]) (.ret (.var 0)) .skip)
      (.ret (.bin .shl (.k (.int 1)) (.ix (.var 0) (.k (.int 1))))))
def f_law_field_size : Fn := ⟨1, 1, true, b_law_field_size⟩
def b_law_field_sum : C :=
  (.seq (.ife (.isi (.var 0) true [.int]) (.ret (.bin .mod (.bi .int (.cons (.bin .add (.var 1) (.var 2)) .nil)) (.var 0))) .skip)
      (.ret (.bin .bxor (.var 1) (.var 2))))
def f_law_field_sum : Fn := ⟨3, 3, true, b_law_field_sum⟩
def s_law_field_product_0 : C := (.ife (.isi (.var 0) true [.int]) (.ret (.bin .mod (.bi .int (.cons (.bin .mul (.var 1) (.var 2)) .nil)) (.var 0))) .skip)
def s_law_field_product_1 : C := (.asg 3 (.ix (.var 0) (.k (.int 1))))
def s_law_field_product_2 : C := (.asg 4 (.k (.int 0)))
def b_law_field_product_l0 : C := (.ife (.cmp .eq (.bin .band (.bin .shr (.var 2) (.var 5)) (.k (.int 1))) (.k (.int 1))) (.asg 4 (.bin .bxor (.var 4) (.bin .shl (.var 1) (.var 5)))) .skip)
def s_law_field_product_3 : C := (.fr (.nm 5) (.rng1 (.var 3)) (.kl [5] b_law_field_product_l0))
def b_law_field_product_l1 : C := (.seq (.asg 6 (.bin .sub (.bin .sub (.bin .mul (.k (.int 2)) (.var 3)) (.k (.int 1))) (.var 5)))
      (.ife (.cmp .eq (.bin .band (.bin .shr (.var 4) (.var 6)) (.k (.int 1))) (.k (.int 1))) (.asg 4 (.bin .bxor (.var 4) (.bin .shl (.ix (.lst (.cons (.k (.int 0)) (.cons (.k (.int 3)) (.cons (.k (.int 7)) (.cons (.k (.int 11)) (.cons (.k (.int 19)) .nil)))))) (.var 3)) (.bin .sub (.var 6) (.var 3))))) .skip))
def s_law_field_product_4 : C := (.fr (.nm 5) (.rng1 (.var 3)) (.kl [5, 6] b_law_field_product_l1))
def s_law_field_product_5 : C := (.ret (.var 4))
def b_law_field_product : C :=
  (.seq s_law_field_product_0
      (.seq s_law_field_product_1
      (.seq s_law_field_product_2
      (.seq s_law_field_product_3
      (.seq s_law_field_product_4
      s_law_field_product_5)))))
def f_law_field_product : Fn := ⟨3, 7, true, b_law_field_product⟩
def s_law_value_0 : C := (.asg 3 (.var 2))
def s_law_value_1 : C := (.ife (.isi (.var 0) true [.int]) (.asg 3 (.bin .mod (.bi .int (.cons (.var 2) .nil)) (.var 0))) .skip)
def s_law_value_2 : C := (.asg 4 (.k (.int 0)))
def s_law_value_3 : C := (.asg 5 (.k (.int 1)))
def b_law_value_l0 : C := (.seq (.asg 4 (.call Ix.law_field_sum false (.cons (.var 0) (.cons (.var 4) (.cons (.call Ix.law_field_product false (.cons (.var 0) (.cons (.var 6) (.cons (.var 5) .nil)))) .nil)))))
      (.asg 5 (.call Ix.law_field_product false (.cons (.var 0) (.cons (.var 5) (.cons (.var 3) .nil))))))
def s_law_value_4 : C := (.fr (.nm 6) (.seq (.var 1)) (.kl [6] b_law_value_l0))
def s_law_value_5 : C := (.ret (.var 4))
def b_law_value : C :=
  (.seq s_law_value_0
      (.seq s_law_value_1
      (.seq s_law_value_2
      (.seq s_law_value_3
      (.seq s_law_value_4
      s_law_value_5)))))
def f_law_value : Fn := ⟨3, 7, true, b_law_value⟩
def b_law_draw : C :=
  (.ret (.bi .tuple (.cons (.lc (.call Ix.law_take false (.cons (.var 0) (.cons (.call Ix.law_field_size false (.cons (.var 1) .nil)) .nil))) [3] (.nm 3) (.rng1 (.var 2)) (.k (.bl true))) .nil)))
def f_law_draw : Fn := ⟨3, 4, true, b_law_draw⟩
def b_law_drawn_table : C :=
  (.ret (.bi .tuple (.cons (.lc (.call Ix.law_draw false (.cons (.var 0) (.cons (.var 1) (.cons (.k (.int 2)) .nil)))) [3] (.nm 3) (.rng1 (.bin .add (.k (.int 1)) (.call Ix.law_take false (.cons (.var 0) (.cons (.var 2) .nil))))) (.k (.bl true))) .nil)))
def f_law_drawn_table : Fn := ⟨3, 4, true, b_law_drawn_table⟩
def s_law_table_counters_0 : C := (.asg 3 (.lst .nil))
def s_law_table_counters_l0_0 : C := (.asg 5 (.bin .mul (.lst (.cons (.k (.int 0)) .nil)) (.var 2)))
def b_law_table_counters_l1 : C := (.seq (.asg 8 (.call Ix.law_value false (.cons (.var 2) (.cons (.var 4) (.cons (.var 6) .nil)))))
      (.sub (.var 5) (.var 8) (.bin .add (.ix (.var 5) (.var 8)) (.var 7))))
def s_law_table_counters_l0_1 : C := (.fr (.tp [(.nm 6), (.nm 7)]) (.seq (.var 0)) (.kl [6, 7, 8] b_law_table_counters_l1))
def s_law_table_counters_l0_2 : C := (.exp (.app (.var 3) (.bi .tuple (.cons (.var 5) .nil))))
def b_law_table_counters_l0 : C := (.seq s_law_table_counters_l0_0
      (.seq s_law_table_counters_l0_1
      s_law_table_counters_l0_2))
def s_law_table_counters_1 : C := (.fr (.nm 4) (.seq (.var 1)) (.gc [4, 5, 6, 7, 8] b_law_table_counters_l0))
def s_law_table_counters_2 : C := (.ret (.bi .tuple (.cons (.var 3) .nil)))
def b_law_table_counters : C :=
  (.seq s_law_table_counters_0
      (.seq s_law_table_counters_1
      s_law_table_counters_2))
def f_law_table_counters : Fn := ⟨3, 9, true, b_law_table_counters⟩
def s_law_sum_rows_0 : C := (.asg 2 (.lst .nil))
def b_law_sum_rows_l0 : C := (.exp (.app (.var 2) (.bi .tuple (.cons (.lc (.bin .add (.ix (.ix (.var 0) (.var 3)) (.var 4)) (.ix (.ix (.var 1) (.var 3)) (.var 4))) [4] (.nm 4) (.rng1 (.bi .len (.cons (.ix (.var 0) (.var 3)) .nil))) (.k (.bl true))) .nil))))
def s_law_sum_rows_1 : C := (.fr (.nm 3) (.rng1 (.bi .len (.cons (.var 0) .nil))) (.kl [3] b_law_sum_rows_l0))
def s_law_sum_rows_2 : C := (.ret (.bi .tuple (.cons (.var 2) .nil)))
def b_law_sum_rows : C :=
  (.seq s_law_sum_rows_0
      (.seq s_law_sum_rows_1
      s_law_sum_rows_2))
def f_law_sum_rows : Fn := ⟨2, 5, true, b_law_sum_rows⟩
def s_law_signed_table_0 : C := (.asg 3 (.lst .nil))
def b_law_signed_table_l0 : C := (.exp (.app (.var 3) (.tup (.cons (.call Ix.law_draw false (.cons (.var 0) (.cons (.tup (.cons (.k (.int 2)) (.cons (.var 1) .nil))) (.cons (.k (.int 2)) .nil)))) (.cons (.call Ix.law_draw false (.cons (.var 0) (.cons (.tup (.cons (.k (.int 2)) (.cons (.var 1) .nil))) (.cons (.k (.int 4)) .nil)))) .nil)))))
def s_law_signed_table_1 : C := (.fr (.nm 4) (.rng1 (.bin .add (.k (.int 1)) (.call Ix.law_take false (.cons (.var 0) (.cons (.var 2) .nil))))) (.kl [4] b_law_signed_table_l0))
def s_law_signed_table_2 : C := (.ret (.bi .tuple (.cons (.var 3) .nil)))
def b_law_signed_table : C :=
  (.seq s_law_signed_table_0
      (.seq s_law_signed_table_1
      s_law_signed_table_2))
def f_law_signed_table : Fn := ⟨3, 5, true, b_law_signed_table⟩
def s_law_level_keys_0 : C := (.asg 2 (.call Ix.law_keys false (.cons (.var 0) (.cons (.bin .shl (.k (.int 1)) (.var 1)) .nil))))
def s_law_level_keys_1 : C := (.ife (.cmp .eq (.call Ix.law_take false (.cons (.var 0) (.cons (.k (.int 2)) .nil))) (.k (.int 0))) (.asg 2 (.bin .add (.var 2) (.lst (.cons (.bin .bxor (.ix (.var 2) (.k (.int 0))) (.k (.int 1))) (.cons (.bin .sub (.bin .shl (.k (.int 1)) (.var 1)) (.k (.int 1))) .nil))))) .skip)
def s_law_level_keys_2 : C := (.ret (.lc (.var 3) [3] (.nm 3) (.seq (.var 2)) (.cmp .lt (.var 3) (.bin .shl (.k (.int 1)) (.var 1)))))
def b_law_level_keys : C :=
  (.seq s_law_level_keys_0
      (.seq s_law_level_keys_1
      s_law_level_keys_2))
def f_law_level_keys : Fn := ⟨2, 4, true, b_law_level_keys⟩
def s_law_bit_cells_0 : C := (.asg 4 (.mt .bitlen (.bin .sub (.var 2) (.k (.int 1))) .nil))
def s_law_bit_cells_1 : C := (.asg 5 (.lst .nil))
def s_law_bit_cells_l0_0 : C := (.asg 7 (.lc (.bin .mul (.lst (.cons (.k (.int 0)) .nil)) (.bin .add (.var 4) (.k (.int 1)))) [12] (.nm 12) (.rng1 (.var 3)) (.k (.bl true))))
def s_law_bit_cells_l1_0 : C := (.asg 10 (.ix (.var 7) (.bin .mod (.bi .int (.cons (.call Ix.law_value false (.cons (.var 2) (.cons (.var 6) (.cons (.var 8) .nil)))) .nil)) (.var 3))))
def s_law_bit_cells_l1_1 : C := (.sub (.var 10) (.k (.int 0)) (.bin .add (.ix (.var 10) (.k (.int 0))) (.var 9)))
def b_law_bit_cells_l2 : C := (.sub (.var 10) (.bin .add (.var 11) (.k (.int 1))) (.bin .add (.ix (.var 10) (.bin .add (.var 11) (.k (.int 1)))) (.bin .mul (.var 9) (.bin .band (.bin .shr (.var 8) (.var 11)) (.k (.int 1))))))
def s_law_bit_cells_l1_2 : C := (.fr (.nm 11) (.rng1 (.var 4)) (.kl [11] b_law_bit_cells_l2))
def b_law_bit_cells_l1 : C := (.seq s_law_bit_cells_l1_0
      (.seq s_law_bit_cells_l1_1
      s_law_bit_cells_l1_2))
def s_law_bit_cells_l0_1 : C := (.fr (.tp [(.nm 8), (.nm 9)]) (.seq (.var 0)) (.kl [8, 9, 10, 11] b_law_bit_cells_l1))
def s_law_bit_cells_l0_2 : C := (.exp (.app (.var 5) (.bi .tuple (.cons (.lc (.bi .tuple (.cons (.var 10) .nil)) [10] (.nm 10) (.seq (.var 7)) (.k (.bl true))) .nil))))
def b_law_bit_cells_l0 : C := (.seq s_law_bit_cells_l0_0
      (.seq s_law_bit_cells_l0_1
      s_law_bit_cells_l0_2))
def s_law_bit_cells_2 : C := (.fr (.nm 6) (.seq (.var 1)) (.gc [6, 7, 8, 9, 10, 11] b_law_bit_cells_l0))
def s_law_bit_cells_3 : C := (.ret (.bi .tuple (.cons (.var 5) .nil)))
def b_law_bit_cells : C :=
  (.seq s_law_bit_cells_0
      (.seq s_law_bit_cells_1
      (.seq s_law_bit_cells_2
      s_law_bit_cells_3)))
def f_law_bit_cells : Fn := ⟨4, 13, true, b_law_bit_cells⟩
def s_law_mixed_stream_0 : C := (.asg 2 (.call Ix.law_level_keys false (.cons (.var 0) (.cons (.var 1) .nil))))
def s_law_mixed_stream_1 : C := (.ife (.cmp .eq (.call Ix.law_take false (.cons (.var 0) (.cons (.k (.int 2)) .nil))) (.k (.int 0))) (.ret (.call Ix.law_any_stream false (.cons (.var 0) (.cons (.var 2) (.cons (.k (.int 14)) .nil))))) .skip)
def s_law_mixed_stream_2 : C := (.asg 3 (.lc (.tup (.cons (.call Ix.law_pick false (.cons (.var 0) (.cons (.var 2) .nil))) (.cons (.call Ix.law_pick true (.cons (.var 0) (.cons (.lst (.cons (.k (.int 1)) (.cons (.k (.int 1)) (.cons (.k (.int 2)) (.cons (.neg (.k (.int 1))) (.cons (.neg (.k (.int 2))) (.cons (.k (.int 3)) .nil))))))) .nil))) .nil))) [4] (.nm 4) (.rng1 (.call Ix.law_take false (.cons (.var 0) (.cons (.k (.int 15)) .nil)))) (.k (.bl true))))
def s_law_mixed_stream_3 : C := (.ret (.bi .tuple (.cons (.var 3) .nil)))
def b_law_mixed_stream : C :=
  (.seq s_law_mixed_stream_0
      (.seq s_law_mixed_stream_1
      (.seq s_law_mixed_stream_2
      s_law_mixed_stream_3)))
def f_law_mixed_stream : Fn := ⟨2, 5, true, b_law_mixed_stream⟩
def s_law_ranged_counters_0 : C := (.asg 5 (.lst .nil))
def s_law_ranged_counters_l0_0 : C := (.asg 7 (.lst .nil))
def s_law_ranged_counters_l1_0 : C := (.asg 9 (.bin .mul (.lst (.cons (.k (.int 0)) .nil)) (.var 3)))
def b_law_ranged_counters_l2 : C := (.seq (.asg 12 (.bin .mod (.bi .int (.cons (.call Ix.law_value false (.cons (.var 2) (.cons (.var 8) (.cons (.bin .shr (.var 10) (.var 6)) .nil)))) .nil)) (.var 3)))
      (.sub (.var 9) (.var 12) (.bin .add (.ix (.var 9) (.var 12)) (.var 11))))
def s_law_ranged_counters_l1_1 : C := (.fr (.tp [(.nm 10), (.nm 11)]) (.seq (.var 0)) (.kl [10, 11, 12] b_law_ranged_counters_l2))
def s_law_ranged_counters_l1_2 : C := (.exp (.app (.var 7) (.bi .tuple (.cons (.var 9) .nil))))
def b_law_ranged_counters_l1 : C := (.seq s_law_ranged_counters_l1_0
      (.seq s_law_ranged_counters_l1_1
      s_law_ranged_counters_l1_2))
def s_law_ranged_counters_l0_1 : C := (.fr (.nm 8) (.seq (.ix (.var 1) (.var 6))) (.gc [8, 9, 10, 11, 12] b_law_ranged_counters_l1))
def s_law_ranged_counters_l0_2 : C := (.exp (.app (.var 5) (.bi .tuple (.cons (.var 7) .nil))))
def b_law_ranged_counters_l0 : C := (.seq s_law_ranged_counters_l0_0
      (.seq s_law_ranged_counters_l0_1
      s_law_ranged_counters_l0_2))
def s_law_ranged_counters_1 : C := (.fr (.nm 6) (.rng1 (.bin .add (.var 4) (.k (.int 1)))) (.gc [6, 7, 8, 9, 10, 11, 12] b_law_ranged_counters_l0))
def s_law_ranged_counters_2 : C := (.ret (.bi .tuple (.cons (.var 5) .nil)))
def b_law_ranged_counters : C :=
  (.seq s_law_ranged_counters_0
      (.seq s_law_ranged_counters_1
      s_law_ranged_counters_2))
def f_law_ranged_counters : Fn := ⟨5, 13, true, b_law_ranged_counters⟩
def b_law_ranged_tables : C :=
  (.ret (.bi .tuple (.cons (.lc (.call Ix.law_drawn_table false (.cons (.var 0) (.cons (.var 2) (.cons (.k (.int 3)) .nil)))) [3] (.nm 3) (.rng1 (.bin .add (.var 1) (.k (.int 1)))) (.k (.bl true))) .nil)))
def f_law_ranged_tables : Fn := ⟨3, 4, true, b_law_ranged_tables⟩
def b_law_order_of : C :=
  (.ret (.bi .tuple (.cons (.call Ix.law_shuffled false (.cons (.var 0) (.cons (.var 1) .nil))) .nil)))
def f_law_order_of : Fn := ⟨2, 2, true, b_law_order_of⟩
def b_law_sum_of_rows : C :=
  (.ret (.call Ix.law_same false (.cons (.ix (.var 0) (.k (.int 2))) (.cons (.call Ix.law_sum_rows false (.cons (.ix (.var 0) (.k (.int 0))) (.cons (.ix (.var 0) (.k (.int 1))) .nil))) .nil))))
def f_law_sum_of_rows : Fn := ⟨1, 1, true, b_law_sum_of_rows⟩
def s_law_0 : C := (.asg 1 (.call Ix.law_draws false (.cons (.var 0) (.cons (.k (.int 500)) .nil))))
def s_law_l0_0 : C := (.asg 3 (.bin .add (.k (.int 1)) (.call Ix.law_take false (.cons (.var 1) (.cons (.k (.int 4)) .nil)))))
def s_law_l0_1 : C := (.asg 4 (.call Ix.law_pick true (.cons (.var 1) (.cons (.lc (.var 24) [24] (.nm 24) (.seq (.lst (.cons (.k (.int 2)) (.cons (.k (.int 3)) (.cons (.k (.int 5)) (.cons (.k (.int 7)) (.cons (.k (.int 11)) (.cons (.k (.int 13)) (.cons (.k (.int 17)) (.cons (.k (.int 19)) (.cons (.k (.int 23)) (.cons (.k (.int 29)) (.cons (.k (.int 31)) .nil))))))))))))) (.cmp .ge (.var 24) (.bin .shl (.k (.int 1)) (.var 3)))) .nil))))
def s_law_l0_2 : C := (.asg 5 (.call Ix.law_drawn_table false (.cons (.var 1) (.cons (.var 4) (.cons (.k (.int 5)) .nil)))))
def s_law_l0_3 : C := (.asg 6 (.call Ix.law_signed_table false (.cons (.var 1) (.cons (.var 3) (.cons (.k (.int 5)) .nil)))))
def s_law_l0_4 : C := (.asg 7 (.bin .add (.k (.int 1)) (.call Ix.law_take false (.cons (.var 1) (.cons (.k (.int 12)) .nil)))))
def s_law_l0_5 : C := (.asg 8 (.call Ix.law_ranged_tables false (.cons (.var 1) (.cons (.var 3) (.cons (.var 4) .nil)))))
def s_law_l0_6 : C := (.asg 9 (.call Ix.law_mixed_stream false (.cons (.var 1) (.cons (.var 3) .nil))))
def s_law_l0_7 : C := (.asg 10 (.call Ix.law_kept true (.cons (.var 1) (.cons (.call Ix.law_level_keys false (.cons (.var 1) (.cons (.var 3) .nil))) (.cons (.k (.int 14)) .nil)))))
def s_law_l0_8 : C := (.asgL [(.nm 21), (.nm 22)] (.call Ix.law_cut false (.cons (.var 1) (.cons (.var 9) .nil))))
def s_law_l0_9 : C := (.asg 11 (.lst (.cons (.var 21) (.cons (.var 22) (.cons (.var 9) (.cons (.call Ix.law_order_of false (.cons (.var 1) (.cons (.var 9) .nil))) .nil))))))
def s_law_l0_10 : C := (.asg 12 (.lc (.call Ix.table_counters false (.cons (.var 23) (.cons (.var 5) (.cons (.var 4) .nil)))) [23] (.nm 23) (.seq (.var 11)) (.k (.bl true))))
def s_law_l0_11 : C := (.asg 13 (.lc (.call Ix.signed_counters false (.cons (.var 23) (.cons (.var 6) (.cons (.var 3) (.cons (.bin .shl (.k (.int 1)) (.var 3)) .nil))))) [23] (.nm 23) (.seq (.var 11)) (.k (.bl true))))
def s_law_l0_12 : C := (.asg 14 (.lc (.call Ix.level_counters false (.cons (.var 23) (.cons (.var 3) .nil))) [23] (.nm 23) (.seq (.var 11)) (.k (.bl true))))
def s_law_l0_13 : C := (.asg 15 (.lc (.call Ix.walsh_numbers false (.cons (.var 23) (.cons (.var 3) .nil))) [23] (.nm 23) (.seq (.var 11)) (.k (.bl true))))
def s_law_l0_14 : C := (.asg 16 (.lc (.call Ix.differences false (.cons (.var 23) (.cons (.var 3) .nil))) [23] (.nm 23) (.seq (.var 11)) (.k (.bl true))))
def b_law_l1 : C := (.ife (.not (.call Ix.law_same false (.cons (.ix (.var 17) (.k (.int 3))) (.cons (.ix (.var 17) (.k (.int 2))) .nil)))) (.ret (.k (.bl false))) .skip)
def s_law_l0_15 : C := (.fr (.nm 17) (.seq (.lst (.cons (.var 12) (.cons (.var 13) (.cons (.var 14) (.cons (.var 15) (.cons (.var 16) .nil))))))) (.kl [17] b_law_l1))
def s_law_l0_16 : C := (.ife (.or (.not (.call Ix.law_sum_of_rows false (.cons (.var 12) .nil))) (.or (.not (.call Ix.law_sum_of_rows false (.cons (.var 13) .nil))) (.not (.call Ix.law_sum_of_rows false (.cons (.var 14) .nil))))) (.ret (.k (.bl false))) .skip)
def s_law_l0_17 : C := (.ife (.not (.call Ix.law_same false (.cons (.call Ix.joined_rows false (.cons (.ix (.var 12) (.k (.int 0))) (.cons (.ix (.var 12) (.k (.int 1))) .nil))) (.cons (.ix (.var 12) (.k (.int 2))) .nil)))) (.ret (.k (.bl false))) .skip)
def s_law_l0_18 : C := (.ife (.not (.call Ix.law_same false (.cons (.call Ix.joined_rows false (.cons (.ix (.var 13) (.k (.int 0))) (.cons (.ix (.var 13) (.k (.int 1))) .nil))) (.cons (.ix (.var 13) (.k (.int 2))) .nil)))) (.ret (.k (.bl false))) .skip)
def s_law_l0_19 : C := (.ife (.not (.call Ix.law_same false (.cons (.ix (.var 12) (.k (.int 2))) (.cons (.call Ix.law_table_counters false (.cons (.var 9) (.cons (.var 5) (.cons (.var 4) .nil)))) .nil)))) (.ret (.k (.bl false))) .skip)
def s_law_l0_20 : C := (.ife (.not (.call Ix.law_same false (.cons (.ix (.var 15) (.k (.int 2))) (.cons (.ix (.call Ix.law_sum_rows false (.cons (.tup (.cons (.ix (.var 15) (.k (.int 0))) .nil)) (.cons (.tup (.cons (.ix (.var 15) (.k (.int 1))) .nil)) .nil))) (.k (.int 0))) .nil)))) (.ret (.k (.bl false))) .skip)
def s_law_l0_21 : C := (.ife (.or (.cmp .ne (.ix (.ix (.var 16) (.k (.int 2))) (.k (.int 0))) (.call Ix.law_size false (.cons (.var 9) .nil))) (.not (.call Ix.law_same false (.cons (.ix (.ix (.var 16) (.k (.int 2))) (.k (.int 1))) (.cons (.call Ix.law_sum_rows false (.cons (.ix (.ix (.var 16) (.k (.int 0))) (.k (.int 1))) (.cons (.ix (.ix (.var 16) (.k (.int 1))) (.k (.int 1))) .nil))) .nil))))) (.ret (.k (.bl false))) .skip)
def s_law_l0_22 : C := (.asgL [(.nm 21), (.nm 22)] (.call Ix.law_cut false (.cons (.var 1) (.cons (.var 10) .nil))))
def s_law_l0_23 : C := (.asg 18 (.lc (.call Ix.bit_cells false (.cons (.var 23) (.cons (.var 5) (.cons (.var 4) (.cons (.var 7) .nil))))) [23] (.nm 23) (.seq (.lst (.cons (.var 21) (.cons (.var 10) .nil)))) (.k (.bl true))))
def s_law_l0_24 : C := (.asg 19 (.call Ix.law_bit_cells false (.cons (.var 22) (.cons (.var 5) (.cons (.var 4) (.cons (.var 7) .nil))))))
def s_law_l0_25 : C := (.ife (.not (.call Ix.law_same false (.cons (.call Ix.joined_cells false (.cons (.ix (.var 18) (.k (.int 0))) (.cons (.var 19) .nil))) (.cons (.ix (.var 18) (.k (.int 1))) .nil)))) (.ret (.k (.bl false))) .skip)
def s_law_l0_26 : C := (.asg 20 (.lc (.call Ix.ranged_counters false (.cons (.var 23) (.cons (.var 8) (.cons (.var 4) (.cons (.var 7) (.cons (.var 3) .nil)))))) [23] (.nm 23) (.seq (.var 11)) (.k (.bl true))))
def s_law_l0_27 : C := (.ife (.not (.call Ix.law_same false (.cons (.ix (.var 20) (.k (.int 3))) (.cons (.ix (.var 20) (.k (.int 2))) .nil)))) (.ret (.k (.bl false))) .skip)
def s_law_l0_28 : C := (.ife (.cmp .mem (.k (.bl false)) (.lc (.call Ix.law_sum_of_rows true (.cons (.lc (.ix (.ix (.var 20) (.var 26)) (.var 25)) [26] (.nm 26) (.rng1 (.k (.int 3))) (.k (.bl true))) .nil)) [25] (.nm 25) (.rng1 (.bin .add (.var 3) (.k (.int 1)))) (.k (.bl true)))) (.ret (.k (.bl false))) .skip)
def s_law_l0_29 : C := (.ife (.not (.call Ix.law_same false (.cons (.ix (.var 20) (.k (.int 2))) (.cons (.call Ix.law_ranged_counters false (.cons (.var 9) (.cons (.var 8) (.cons (.var 4) (.cons (.var 7) (.cons (.var 3) .nil)))))) .nil)))) (.ret (.k (.bl false))) .skip)
def b_law_l0 : C := (.seq s_law_l0_0
      (.seq s_law_l0_1
      (.seq s_law_l0_2
      (.seq s_law_l0_3
      (.seq s_law_l0_4
      (.seq s_law_l0_5
      (.seq s_law_l0_6
      (.seq s_law_l0_7
      (.seq s_law_l0_8
      (.seq s_law_l0_9
      (.seq s_law_l0_10
      (.seq s_law_l0_11
      (.seq s_law_l0_12
      (.seq s_law_l0_13
      (.seq s_law_l0_14
      (.seq s_law_l0_15
      (.seq s_law_l0_16
      (.seq s_law_l0_17
      (.seq s_law_l0_18
      (.seq s_law_l0_19
      (.seq s_law_l0_20
      (.seq s_law_l0_21
      (.seq s_law_l0_22
      (.seq s_law_l0_23
      (.seq s_law_l0_24
      (.seq s_law_l0_25
      (.seq s_law_l0_26
      (.seq s_law_l0_27
      (.seq s_law_l0_28
      s_law_l0_29)))))))))))))))))))))))))))))
def s_law_1 : C := (.fr (.nm 2) (.rng1 (.k (.int 2))) (.gc [2, 3, 4, 5, 6, 7, 8, 9, 10, 11, 12, 13, 14, 15, 16, 17, 18, 19, 20, 21, 22] b_law_l0))
def s_law_2 : C := (.ret (.k (.bl true)))
def b_law : C :=
  (.seq s_law_0
      (.seq s_law_1
      s_law_2))
def f_law : Fn := ⟨1, 27, true, b_law⟩
def tb : List Fn := [f_add, f_multiply, f_polynomial_product, f_as_member, f_value_of, f_sign_of, f_counts_of, f_frozen, f_empty_rows, f_places_of, f_table_counters, f_signed_places, f_signed_counters, f_joined_rows, f_cell_of, f_bits_over, f_bit_cells, f_joined_cells, f_level_counters, f_differences, f_ranged_counters, f_turned, f_walsh_numbers, f_law_draws, f_law_take, f_law_pick, f_law_same, f_law_shuffled, f_law_some_of, f_law_count, f_law_keys, f_law_kept, f_law_any_stream, f_law_size, f_law_cut, f_law_field_size, f_law_field_sum, f_law_field_product, f_law_value, f_law_draw, f_law_drawn_table, f_law_table_counters, f_law_sum_rows, f_law_signed_table, f_law_level_keys, f_law_bit_cells, f_law_mixed_stream, f_law_ranged_counters, f_law_ranged_tables, f_law_order_of, f_law_sum_of_rows, f_law]
def gl : List S := [.ktu [.int 0, .int 3, .int 7, .int 11, .int 19]]
end Pg
end
section
set_option Elab.async false
set_option linter.all false
set_option maxRecDepth 100000
set_option maxHeartbeats 4000000
namespace Pg
open Dv
local macro_rules | `(tactic| walk_at "dv") => `(tactic| simp -implicitDefEqProofs only [e_var, e_k, e_gl, e_bin, k_bin1, k_bin2, e_neg, k_neg, e_cmp, k_cmp1, k_cmp2, e_chn, k_chn1, k_chn2, k_chn3, e_and, k_and, e_or, k_or, e_not, k_not, e_tru, k_tru, e_ife, k_ife, e_ix, k_ix1, k_ix2, e_slc, k_sl1, k_sl2, k_sl3, e_tup, e_lst, k_tup, k_lst, e_dnK, e_dnT, e_call, k_call, k_fin, e_bi, k_bi, e_mt, k_mt1, k_mt2, e_app, k_app1, k_app2s, k_app2n, e_isi, k_isi, e_rg1, k_rg1, e_rg2, k_rg2, k_rg2b, e_lc, k_lc, k_lcR, lbd_at, k_ls0, k_ls1, k_ls3s, k_ls3n, s_nil, s_cons, k_cons_s, k_cons_n, k_cons2, d_nil, d_cons, k_consD, k_consD2, i_seq, k_sq, i_rng1, k_r1, i_rng2, k_r2, k_r2b, i_rngD, k_rD, k_rDb, i_enum, k_en, i_zip, k_zp1, k_zp2, i_rev, k_rv, r_skip, r_seq, k_seqN, k_seqR, k_seqB, k_seqC, r_asg, k_asgS, k_asgN, r_asgT, k_asgT, r_asgL, k_asgL, r_par, k_par, r_sub, k_sub1s, k_sub1n, k_sub2, k_sub3, r_aug, k_aug, r_augS, k_augS1, k_augS2, k_augS2b, k_augS3, r_exp, k_exp, r_ret, k_ret, r_retN, r_if, k_if, r_whl, r_fr, k_fr, fbd_at, k_run, r_brk, r_cont, r_gc, k_gcR, k_gcN, k_gcC, k_gcB, r_kl, k_kl, r_kill, r_del, k_del1, k_del2, k_endR, k_endN, fin_s, fin_n, finO_some, fin_loc, zl, rev_map, app_int, set_int, lsO_lst, seqL_loc, seqL_new, seqL_rol, lstOf_loc, lstOf_new, seqOf_tup, seqOf_loc, seqOf_new, seqOf_rol, tupOf_tup, tupOf_loc, tupOf_new, dictOf_new, dictOf_loc, b_any, b_all, lenO_lst, lenO_dK, b_len_tup, b_len_loc, b_len_new, b_len_rol, b_int, b_intB, b_tuple, b_list, b_sum, srtO_lst, srtO_dK, b_sorted_loc, b_sorted_new, b_min2, b_max2, b_abs, v_pop, v_popAt, v_rev, v_bit, v_get1, v_get2, dkO_K, dkO_T, m_pop, popAO_lst, m_popAt, revO_lst, m_rev, m_get1, m_get2, m_bit, dlook_int, popO_int, part_non, part_k, part_v, slc_tup, slc_rol, slc_new, slc_loc, cut_map, und_int, und_bl, und_non, und_str, und_loc, und_tup, und_rol, und_lst, unds_app, und_dK, iop_and, iop_or, iop_xor, setIx_loc, setO_lst, setO_dK, appD_loc, appO_lst, idx_tup, idx_ktu, idx_loc, idx_new, idxO_lst, idxO_dK, pyEq_int, pyEq_bl, c_eq, c_ne, c_lt, c_le, c_gt, c_ge, c_isN, c_notN, isNon_non, isNon_int, isNon_tup, isNon_bl, isNon_loc, tru_int, tru_bl, tru_tup, c_mem, c_nmem, mem_bls, mem_loc, memO_int, mem_tup, ty_nil, ty_cons, ty_int, ty_bl, ty_tup, ty_non, ty_str, grd_loc, grdO_some, grd_tup, grd_new, grd_rol, gOk_one, eT_len, look_eT, put_eT, kInts_eT, Option.bind_some, Option.map_some, Option.isSome_some, get_zero, get_succ, List.map_cons, List.map_nil, List.reduceReplicate, Nat.reduceSub, Nat.reduceAdd, Nat.reduceLeDiff, Nat.reduceLT, Nat.reduceEqDiff, List.append_nil, List.nil_append, List.cons_append, intOf, blOf, bop_int, iop_add, iop_sub, iop_mod, iop_mulR, iop_mulL, iop_fdiv, Int.reduceLT, Int.reduceLE, Int.reduceNeg, fin_f, List.set_cons_zero, List.set_cons_succ, asg, asgs, kill, if_true, if_false, Bool.false_eq_true, app_get0, app_get, app_set0, app_set, app_app, app_take0, app_take, GCok_P, gcP_nil, gcP_cons, gcP_refl, gcP_app, gcP_app_l, gcP_app_r, sigBelow, S.unds, List.take_length, unds_int, false_implies, implies_true, Bool.and_true, Bool.true_and, Bool.and_self, Bool.false_or, Bool.or_false, Bool.true_or, Bool.or_true, Bool.not_true, Bool.not_false, decide_true, decide_false, decide_eq_true_eq, reduceCtorEq, ne_eq, not_true_eq_false, W_bIte, W_if, bindIte, W_some, List.length_cons, List.length_nil, List.length_append, List.length_map, List.length_replicate, List.length_range, List.getElem?_cons_zero, List.getElem?_cons_succ, List.set_nil, List.take_succ_cons, List.take_zero, true_and, and_true, or_true, true_or, eq_self, asInts_map, LINE, Nat.zero_le, Nat.not_lt, Nat.le_add_right, Nat.le_refl, Nat.lt_irrefl, Nat.lt_add_right_iff_pos, Nat.add_lt_add_iff_left, Nat.add_le_add_iff_left, not_false_eq_true, Int.natCast_eq_zero, Nat.add_one_ne_zero])
local macro_rules | `(tactic| walk_at "dvh") => `(tactic| simp -implicitDefEqProofs only [e_var, e_k, e_gl, e_bin, k_bin1, k_bin2, e_neg, k_neg, e_cmp, k_cmp1, k_cmp2, e_chn, k_chn1, k_chn2, k_chn3, e_and, k_and, e_or, k_or, e_not, k_not, e_tru, k_tru, e_ife, k_ife, e_ix, k_ix1, k_ix2, e_slc, k_sl1, k_sl2, k_sl3, e_tup, e_lst, k_tup, k_lst, e_dnK, e_dnT, e_call, k_call, k_fin, e_bi, k_bi, e_mt, k_mt1, k_mt2, e_app, k_app1, k_app2s, k_app2n, e_isi, k_isi, e_rg1, k_rg1, e_rg2, k_rg2, k_rg2b, e_lc, k_lc, k_lcR, lbd_at, k_ls0, k_ls1, k_ls3s, k_ls3n, s_nil, s_cons, k_cons_s, k_cons_n, k_cons2, d_nil, d_cons, k_consD, k_consD2, i_seq, k_sq, i_rng1, k_r1, i_rng2, k_r2, k_r2b, i_rngD, k_rD, k_rDb, i_enum, k_en, i_zip, k_zp1, k_zp2, i_rev, k_rv, r_skip, r_seq, k_seqN, k_seqR, k_seqB, k_seqC, r_asg, k_asgS, k_asgN, r_asgT, k_asgT, r_asgL, k_asgL, r_par, k_par, r_sub, k_sub1s, k_sub1n, k_sub2, k_sub3, r_aug, k_aug, r_augS, k_augS1, k_augS2, k_augS2b, k_augS3, r_exp, k_exp, r_ret, k_ret, r_retN, r_if, k_if, r_whl, r_fr, k_fr, fbd_at, k_run, r_brk, r_cont, r_gc, k_gcR, k_gcN, k_gcC, k_gcB, r_kl, k_kl, r_kill, r_del, k_del1, k_del2, k_endR, k_endN, fin_s, fin_n, finO_some, fin_loc, zl, rev_map, app_int, set_int, lsO_lst, seqL_loc, seqL_new, seqL_rol, lstOf_loc, lstOf_new, seqOf_tup, seqOf_loc, seqOf_new, seqOf_rol, tupOf_tup, tupOf_loc, tupOf_new, dictOf_new, dictOf_loc, b_any, b_all, lenO_lst, lenO_dK, b_len_tup, b_len_loc, b_len_new, b_len_rol, b_int, b_intB, b_tuple, b_list, b_sum, srtO_lst, srtO_dK, b_sorted_loc, b_sorted_new, b_min2, b_max2, b_abs, v_pop, v_popAt, v_rev, v_bit, v_get1, v_get2, dkO_K, dkO_T, m_pop, popAO_lst, m_popAt, revO_lst, m_rev, m_get1, m_get2, m_bit, dlook_int, popO_int, part_non, part_k, part_v, slc_tup, slc_rol, slc_new, slc_loc, cut_map, und_int, und_bl, und_non, und_str, und_loc, und_tup, und_rol, und_lst, unds_app, und_dK, iop_and, iop_or, iop_xor, setIx_loc, setO_lst, setO_dK, appD_loc, appO_lst, idx_tup, idx_ktu, idx_loc, idx_new, idxO_lst, idxO_dK, pyEq_int, pyEq_bl, c_eq, c_ne, c_lt, c_le, c_gt, c_ge, c_isN, c_notN, isNon_non, isNon_int, isNon_tup, isNon_bl, isNon_loc, tru_int, tru_bl, tru_tup, c_mem, c_nmem, mem_bls, mem_loc, memO_int, mem_tup, ty_nil, ty_cons, ty_int, ty_bl, ty_tup, ty_non, ty_str, grd_loc, grdO_some, grd_tup, grd_new, grd_rol, gOk_one, eT_len, look_eT, put_eT, kInts_eT, Option.bind_some, Option.map_some, Option.isSome_some, get_zero, get_succ, List.map_cons, List.map_nil, List.reduceReplicate, Nat.reduceSub, Nat.reduceAdd, Nat.reduceLeDiff, Nat.reduceLT, Nat.reduceEqDiff, List.append_nil, List.nil_append, List.cons_append, intOf, blOf, bop_int, iop_add, iop_sub, iop_mod, iop_mulR, iop_mulL, iop_fdiv, Int.reduceLT, Int.reduceLE, Int.reduceNeg, fin_f, List.set_cons_zero, List.set_cons_succ, asg, asgs, kill, if_true, if_false, Bool.false_eq_true, app_get0, app_get, app_set0, app_set, app_app, app_take0, app_take, GCok_P, gcP_nil, gcP_cons, gcP_refl, gcP_app, gcP_app_l, gcP_app_r, sigBelow, S.unds, List.take_length, unds_int, false_implies, implies_true, Bool.and_true, Bool.true_and, Bool.and_self, Bool.false_or, Bool.or_false, Bool.true_or, Bool.or_true, Bool.not_true, Bool.not_false, decide_true, decide_false, decide_eq_true_eq, reduceCtorEq, ne_eq, not_true_eq_false, W_bIte, W_if, bindIte, W_some, List.length_cons, List.length_nil, List.length_append, List.length_map, List.length_replicate, List.length_range, List.getElem?_cons_zero, List.getElem?_cons_succ, List.set_nil, List.take_succ_cons, List.take_zero, true_and, and_true, or_true, true_or, eq_self, asInts_map, LINE, Nat.zero_le, Nat.not_lt, Nat.le_add_right, Nat.le_refl, Nat.lt_irrefl, Nat.lt_add_right_iff_pos, Nat.add_lt_add_iff_left, Nat.add_le_add_iff_left, not_false_eq_true, Int.natCast_eq_zero, Nat.add_one_ne_zero, *])
local macro_rules | `(tactic| walk_at "wb") => `(tactic| simp only [W_bind, W_map])

abbrev dr (ds : List Int) : Ob := iO ds
theorem at1 {n k : Nat} (h : n + 1 ≤ k) : ∃ j, k = j + 1 ∧ n ≤ j := ⟨k - 1, by omega, by omega⟩
theorem take_ok {k : Nat} (hk : 1 ≤ k) {m : Int} (hm : 0 < m) (ds : List Int) (ρ : Sto) : ∃ v ds', 0 ≤ v ∧ v < m ∧ callK tb gl k Ix.law_take [.loc 0, .int m] (dr ds :: ρ) = some (.s (.int v), dr ds' :: ρ) := by
  obtain ⟨k, rfl, _⟩ := at1 hk
  rw [call_at' (b := b_law_take) rfl rfl]
  simp only [b_law_take]
  rcases List.eq_nil_or_concat ds with rfl | ⟨ds, x, rfl⟩
  · refine ⟨0, [], Int.le_refl _, hm, ?_⟩
    walk_at "dv"
  · refine ⟨x % m, ds, Int.emod_nonneg _ (by omega), Int.emod_lt_of_pos _ hm, ?_⟩
    simp only [List.concat_eq_append]
    walk_at "dvh"
theorem toNat_lt {i : Int} {n : Nat} (h0 : 0 ≤ i) (h : i < (n : Int)) : i.toNat < n := by omega
theorem atI_ex {α : Type} (f : α → S) (l : List α) {i : Int} (h0 : 0 ≤ i) (h : i < (l.length : Int)) : ∃ a, a ∈ l ∧ L2.atI (l.map f) i = some (f a) := by
  have hh : i.toNat < l.length := by omega
  exact ⟨l[i.toNat], List.getElem_mem hh, atI_map _ h0 (List.getElem?_eq_getElem hh)⟩
theorem pick_tup {α : Type} (f : α → S) (hu : ∀ a n, (f a).und n = true) {l : List α} (hl : l ≠ []) {k : Nat} (hk : 2 ≤ k) (ds : List Int) (ρ : Sto) : ∃ a ds', a ∈ l ∧ callK tb gl k Ix.law_pick [.loc 0, .tup (l.map f)] (dr ds :: ρ) = some (.s (f a), dr ds' :: ρ) := by
  obtain ⟨j, rfl, hj⟩ := at1 hk
  have hp : 0 < l.length := List.length_pos_iff.mpr hl
  obtain ⟨v, ds', h0, h1, e⟩ := take_ok hj (m := (l.length : Int)) (by omega) ds ρ
  obtain ⟨a, ha, e2⟩ := atI_ex f l h0 h1
  refine ⟨a, ds', ha, ?_⟩
  rw [call_at' (b := b_law_pick) rfl rfl]
  simp only [b_law_pick]
  walk_at "dvh"
theorem pick_loc {α : Type} (f : α → S) (hu : ∀ a n, (f a).und n = true) {l : List α} (hl : l ≠ []) {n : Nat} {k : Nat} (hk : 2 ≤ k) (ds : List Int) (ρ : Sto) (hn : ρ[n]? = some (.lst (l.map f))) : ∃ a ds', a ∈ l ∧ callK tb gl k Ix.law_pick [.loc 0, .loc (n + 1)] (dr ds :: ρ) = some (.s (f a), dr ds' :: ρ) := by
  obtain ⟨j, rfl, hj⟩ := at1 hk
  have hp : 0 < l.length := List.length_pos_iff.mpr hl
  obtain ⟨v, ds', h0, h1, e⟩ := take_ok hj (m := (l.length : Int)) (by omega) ds ρ
  obtain ⟨a, ha, e2⟩ := atI_ex f l h0 h1
  refine ⟨a, ds', ha, ?_⟩
  rw [call_at' (b := b_law_pick) rfl rfl]
  simp only [b_law_pick]
  walk_at "dvh"
/-! ### draws -/
theorem draws_ok {k : Nat} (hk : 1 ≤ k) (ns : List Int) (hn : ns.length ≤ 63) (m : Nat) (hm : m ≤ 100000) : ∃ ds, callK tb gl k Ix.law_draws [.rol (ns.map .int), .int m] [] = some (.new (iO ds), []) := by
  obtain ⟨k, rfl, _⟩ := at1 hk
  have hl := cutA_len ns none (some 63)
  have hb : b62 (m : Int) = true := by simp only [b62, Bool.and_eq_true, decide_eq_true_eq]; omega
  have h72 : (0 : Int) < 1 * 2 ^ (Int.toNat 7200) := by rw [Int.one_mul]; exact Int.pow_pos (by decide)
  have hs : iop .shl 1 7200 = some (1 * 2 ^ (Int.toNat 7200)) := iop_shl (by decide)
  have hsc : ∀ n, S.und n (S.rol (ns.map .int)) = true := fun n => unds_int
  revert hsc
  generalize hS : S.rol (ns.map .int) = sc
  intro hsc
  have e0 : ∃ cs : List Int, cs.length ≤ 63 ∧ run (callK tb gl k) gl s_law_draws_0 [some sc, some (.int m), none, none, none, none, none, none, none] [] = some (.nx, [some sc, some (.int m), some (.loc 0), none, none, none, none, none, none], [iO cs]) := by
    refine ⟨(cutA ns none (some 63)).map fun a => a % (1 * 2 ^ (Int.toNat 7200)), by rw [List.length_map]; omega, ?_⟩
    subst hS
    simp only [s_law_draws_0]
    walk_at "dvh"
    rw [lc_map (f := .int) (e := fun a => .int (a % (1 * 2 ^ (Int.toNat 7200))))]
    rotate_left
    · rfl
    · intro a _
      simp only [lbd_at]
      walk_at "dvh"
    · simp only [List.length_nil, Nat.zero_add]; show _ ≤ 16777216; omega
    walk_at "dvh"
    simp [Function.comp_def]
  obtain ⟨cs, hcs, e0⟩ := e0
  have e1 : ∃ cs' : List Int, 0 < cs'.length ∧ cs'.length ≤ 63 ∧ run (callK tb gl k) gl s_law_draws_1 [some sc, some (.int m), some (.loc 0), none, none, none, none, none, none] [iO cs] = some (.nx, [some sc, some (.int m), some (.loc 0), none, none, none, none, none, none], [iO cs']) := by
    simp only [s_law_draws_1]
    cases cs with
    | nil => refine ⟨[0], by decide, by decide, ?_⟩; walk_at "dvh"; rfl
    | cons x r => refine ⟨x :: r, by simp, hcs, ?_⟩; walk_at "dvh"
  obtain ⟨cs', h0, h63, e1⟩ := e1
  have e4 : ∃ left dws, run (callK tb gl k) gl s_law_draws_4 [some sc, some (.int m), some (.loc 0), none, some (.loc 1), some (.loc 2), none, none, none] [iO cs', iO cs', .lst []] = some (.nx, [some sc, some (.int m), some (.loc 0), none, some (.loc 1), some (.loc 2), none, none, none], [iO cs', iO left, iO dws]) := by
    obtain ⟨⟨left, dws⟩, e, _⟩ := for_st (gs := []) (body := fbd (callK tb gl k) gl (.nm 6) (.kl [6, 7, 8] b_law_draws_l0)) (σ := List Int × List Int) nI (fun _ => [some sc, some (.int m), some (.loc 0), none, some (.loc 1), some (.loc 2), none, none, none]) (fun s => [iO cs', iO s.1, iO s.2]) (fun r s => s.2.length + r.length ≤ 100000 ∧ s.1.length = cs'.length) (fun _ _ _ => rfl) (fun i r s hI => by
      obtain ⟨left, dws⟩ := s
      obtain ⟨h2, h3⟩ := hI
      dsimp only at h2 h3
      have hq : (0 : Int) < cs'.length := by omega
      have p0 := Int.emod_nonneg (i : Int) (Int.ne_of_gt hq)
      have p1 := Int.emod_lt_of_pos (i : Int) hq
      obtain ⟨a, _, ea⟩ := atI_ex S.int cs' p0 p1
      obtain ⟨b, _, eb⟩ := atI_ex S.int left p0 (by omega)
      obtain ⟨q, eq1, eq2⟩ : ∃ q, L2.ixN cs'.length ((i : Int) % cs'.length) = some q ∧ q < cs'.length := ⟨((i : Int) % cs'.length).toNat, by unfold L2.ixN; rw [if_pos p0, if_pos (by omega)], by omega⟩
      have hpw : iop .pow 10 18 = some (10 ^ (Int.toNat 18)) := iop_pow (by decide)
      have hx : dws.length < 16777216 := by simp only [List.length_cons] at h2; omega
      have m0 : (0 : Int) ≤ (a * 48271 + i * 69621 + 11) % 2147483647 := Int.emod_nonneg _ (by decide)
      have m1 : (a * 48271 + i * 69621 + 11) % 2147483647 < (2147483647 : Int) := Int.emod_lt_of_pos _ (by decide)
      have hm1 : iop .mul ((a * 48271 + i * 69621 + 11) % 2147483647) ((a * 48271 + i * 69621 + 11) % 2147483647) = _ := iop_mulR (by omega)
      simp only [fbd_at]
      walk_at "dvh"
      simp only [b_law_draws_l0]
      walk_at "dvh"
      have hc1 : 10 ^ (Int.toNat 18) ≤ a ∧ 0 < b ∨ ¬ (10 ^ (Int.toNat 18) ≤ a ∧ 0 < b) := Classical.em _
      have hl2 : dws.length + 1 + r.length ≤ 100000 := by simp only [List.length_cons] at h2; omega
      rcases hc1 with ⟨c1, c2⟩ | hc1
      · refine ⟨(left.set q (b / 1000), dws ++ [b % 1000]), ?_, ?_⟩
        · simp only [if_pos c1]
          walk_at "dvh"
        · simp only [List.length_append, List.length_cons, List.length_nil, List.length_set]
          exact ⟨by omega, h3⟩
      · refine ⟨(left, dws ++ [((a * 48271 + i * 69621 + 11) % 2147483647 * ((a * 48271 + i * 69621 + 11) % 2147483647) + 3 * ((a * 48271 + i * 69621 + 11) % 2147483647) + i) % 1000003]), ?_, ?_⟩
        · by_cases c1 : (10 : Int) ^ (Int.toNat 18) ≤ a
          · have c2 : ¬ 0 < b := fun c2 => hc1 ⟨c1, c2⟩
            simp only [if_pos c1]
            walk_at "dvh"
          · simp only [if_neg c1]
        · simp only [List.length_append, List.length_cons, List.length_nil]
          exact ⟨by omega, h3⟩) (List.range m) (cs', []) ⟨by simpa using hm, rfl⟩
    refine ⟨left, dws, ?_⟩
    simp only [s_law_draws_4]
    walk_at "dvh"
    rw [Int.toNat_natCast, rngI_nat]
    exact e
  obtain ⟨left, dws, e4⟩ := e4
  refine ⟨dws.reverse, ?_⟩
  rw [call_at' (b := b_law_draws) rfl rfl]
  simp only [b_law_draws]
  walk_at "dvh"
  simp only [s_law_draws_2]
  walk_at "dvh"
  simp only [s_law_draws_3]
  walk_at "dvh"
  simp only [s_law_draws_5, s_law_draws_6]
  walk_at "dvh"
end Pg
end
section
set_option Elab.async false
set_option linter.all false
set_option maxRecDepth 100000
set_option maxHeartbeats 4000000
namespace Pg
open Dv
open PySem (Builtin.bitXor Builtin.bitAnd)
local macro_rules | `(tactic| walk_at "dv") => `(tactic| simp -implicitDefEqProofs only [e_var, e_k, e_gl, e_bin, k_bin1, k_bin2, e_neg, k_neg, e_cmp, k_cmp1, k_cmp2, e_chn, k_chn1, k_chn2, k_chn3, e_and, k_and, e_or, k_or, e_not, k_not, e_tru, k_tru, e_ife, k_ife, e_ix, k_ix1, k_ix2, e_slc, k_sl1, k_sl2, k_sl3, e_tup, e_lst, k_tup, k_lst, e_dnK, e_dnT, e_call, k_call, k_fin, e_bi, k_bi, e_mt, k_mt1, k_mt2, e_app, k_app1, k_app2s, k_app2n, e_isi, k_isi, e_rg1, k_rg1, e_rg2, k_rg2, k_rg2b, e_lc, k_lc, k_lcR, lbd_at, k_ls0, k_ls1, k_ls3s, k_ls3n, s_nil, s_cons, k_cons_s, k_cons_n, k_cons2, d_nil, d_cons, k_consD, k_consD2, i_seq, k_sq, i_rng1, k_r1, i_rng2, k_r2, k_r2b, i_rngD, k_rD, k_rDb, i_enum, k_en, i_zip, k_zp1, k_zp2, i_rev, k_rv, r_skip, r_seq, k_seqN, k_seqR, k_seqB, k_seqC, r_asg, k_asgS, k_asgN, r_asgT, k_asgT, r_asgL, k_asgL, r_par, k_par, r_sub, k_sub1s, k_sub1n, k_sub2, k_sub3, r_aug, k_aug, r_augS, k_augS1, k_augS2, k_augS2b, k_augS3, r_exp, k_exp, r_ret, k_ret, r_retN, r_if, k_if, r_whl, r_fr, k_fr, fbd_at, k_run, r_brk, r_cont, r_gc, k_gcR, k_gcN, k_gcC, k_gcB, r_kl, k_kl, r_kill, r_del, k_del1, k_del2, k_endR, k_endN, fin_s, fin_n, finO_some, fin_loc, zl, rev_map, app_int, set_int, lsO_lst, seqL_loc, seqL_new, seqL_rol, lstOf_loc, lstOf_new, seqOf_tup, seqOf_loc, seqOf_new, seqOf_rol, tupOf_tup, tupOf_loc, tupOf_new, dictOf_new, dictOf_loc, b_any, b_all, lenO_lst, lenO_dK, b_len_tup, b_len_loc, b_len_new, b_len_rol, b_int, b_intB, b_tuple, b_list, b_sum, srtO_lst, srtO_dK, b_sorted_loc, b_sorted_new, b_min2, b_max2, b_abs, v_pop, v_popAt, v_rev, v_bit, v_get1, v_get2, dkO_K, dkO_T, m_pop, popAO_lst, m_popAt, revO_lst, m_rev, m_get1, m_get2, m_bit, dlook_int, popO_int, part_non, part_k, part_v, slc_tup, slc_rol, slc_new, slc_loc, cut_map, und_int, und_bl, und_non, und_str, und_loc, und_tup, und_rol, und_lst, unds_app, und_dK, iop_and, iop_or, iop_xor, setIx_loc, setO_lst, setO_dK, appD_loc, appO_lst, idx_tup, idx_ktu, idx_loc, idx_new, idxO_lst, idxO_dK, pyEq_int, pyEq_bl, c_eq, c_ne, c_lt, c_le, c_gt, c_ge, c_isN, c_notN, isNon_non, isNon_int, isNon_tup, isNon_bl, isNon_loc, tru_int, tru_bl, tru_tup, c_mem, c_nmem, mem_bls, mem_loc, memO_int, mem_tup, ty_nil, ty_cons, ty_int, ty_bl, ty_tup, ty_non, ty_str, grd_loc, grdO_some, grd_tup, grd_new, grd_rol, gOk_one, eT_len, look_eT, put_eT, kInts_eT, Option.bind_some, Option.map_some, Option.isSome_some, get_zero, get_succ, List.map_cons, List.map_nil, List.reduceReplicate, Nat.reduceSub, Nat.reduceAdd, Nat.reduceLeDiff, Nat.reduceLT, Nat.reduceEqDiff, List.append_nil, List.nil_append, List.cons_append, intOf, blOf, bop_int, iop_add, iop_sub, iop_mod, iop_mulR, iop_mulL, iop_fdiv, Int.reduceLT, Int.reduceLE, Int.reduceNeg, fin_f, List.set_cons_zero, List.set_cons_succ, asg, asgs, kill, if_true, if_false, Bool.false_eq_true, app_get0, app_get, app_set0, app_set, app_app, app_take0, app_take, GCok_P, gcP_nil, gcP_cons, gcP_refl, gcP_app, gcP_app_l, gcP_app_r, sigBelow, S.unds, List.take_length, unds_int, false_implies, implies_true, Bool.and_true, Bool.true_and, Bool.and_self, Bool.false_or, Bool.or_false, Bool.true_or, Bool.or_true, Bool.not_true, Bool.not_false, decide_true, decide_false, decide_eq_true_eq, reduceCtorEq, ne_eq, not_true_eq_false, W_bIte, W_if, bindIte, W_some, List.length_cons, List.length_nil, List.length_append, List.length_map, List.length_replicate, List.length_range, List.getElem?_cons_zero, List.getElem?_cons_succ, List.set_nil, List.take_succ_cons, List.take_zero, true_and, and_true, or_true, true_or, eq_self, asInts_map, LINE, Nat.zero_le, Nat.not_lt, Nat.le_add_right, Nat.le_refl, Nat.lt_irrefl, Nat.lt_add_right_iff_pos, Nat.add_lt_add_iff_left, Nat.add_le_add_iff_left, not_false_eq_true, Int.natCast_eq_zero, Nat.add_one_ne_zero])
local macro_rules | `(tactic| walk_at "dvh") => `(tactic| simp -implicitDefEqProofs only [e_var, e_k, e_gl, e_bin, k_bin1, k_bin2, e_neg, k_neg, e_cmp, k_cmp1, k_cmp2, e_chn, k_chn1, k_chn2, k_chn3, e_and, k_and, e_or, k_or, e_not, k_not, e_tru, k_tru, e_ife, k_ife, e_ix, k_ix1, k_ix2, e_slc, k_sl1, k_sl2, k_sl3, e_tup, e_lst, k_tup, k_lst, e_dnK, e_dnT, e_call, k_call, k_fin, e_bi, k_bi, e_mt, k_mt1, k_mt2, e_app, k_app1, k_app2s, k_app2n, e_isi, k_isi, e_rg1, k_rg1, e_rg2, k_rg2, k_rg2b, e_lc, k_lc, k_lcR, lbd_at, k_ls0, k_ls1, k_ls3s, k_ls3n, s_nil, s_cons, k_cons_s, k_cons_n, k_cons2, d_nil, d_cons, k_consD, k_consD2, i_seq, k_sq, i_rng1, k_r1, i_rng2, k_r2, k_r2b, i_rngD, k_rD, k_rDb, i_enum, k_en, i_zip, k_zp1, k_zp2, i_rev, k_rv, r_skip, r_seq, k_seqN, k_seqR, k_seqB, k_seqC, r_asg, k_asgS, k_asgN, r_asgT, k_asgT, r_asgL, k_asgL, r_par, k_par, r_sub, k_sub1s, k_sub1n, k_sub2, k_sub3, r_aug, k_aug, r_augS, k_augS1, k_augS2, k_augS2b, k_augS3, r_exp, k_exp, r_ret, k_ret, r_retN, r_if, k_if, r_whl, r_fr, k_fr, fbd_at, k_run, r_brk, r_cont, r_gc, k_gcR, k_gcN, k_gcC, k_gcB, r_kl, k_kl, r_kill, r_del, k_del1, k_del2, k_endR, k_endN, fin_s, fin_n, finO_some, fin_loc, zl, rev_map, app_int, set_int, lsO_lst, seqL_loc, seqL_new, seqL_rol, lstOf_loc, lstOf_new, seqOf_tup, seqOf_loc, seqOf_new, seqOf_rol, tupOf_tup, tupOf_loc, tupOf_new, dictOf_new, dictOf_loc, b_any, b_all, lenO_lst, lenO_dK, b_len_tup, b_len_loc, b_len_new, b_len_rol, b_int, b_intB, b_tuple, b_list, b_sum, srtO_lst, srtO_dK, b_sorted_loc, b_sorted_new, b_min2, b_max2, b_abs, v_pop, v_popAt, v_rev, v_bit, v_get1, v_get2, dkO_K, dkO_T, m_pop, popAO_lst, m_popAt, revO_lst, m_rev, m_get1, m_get2, m_bit, dlook_int, popO_int, part_non, part_k, part_v, slc_tup, slc_rol, slc_new, slc_loc, cut_map, und_int, und_bl, und_non, und_str, und_loc, und_tup, und_rol, und_lst, unds_app, und_dK, iop_and, iop_or, iop_xor, setIx_loc, setO_lst, setO_dK, appD_loc, appO_lst, idx_tup, idx_ktu, idx_loc, idx_new, idxO_lst, idxO_dK, pyEq_int, pyEq_bl, c_eq, c_ne, c_lt, c_le, c_gt, c_ge, c_isN, c_notN, isNon_non, isNon_int, isNon_tup, isNon_bl, isNon_loc, tru_int, tru_bl, tru_tup, c_mem, c_nmem, mem_bls, mem_loc, memO_int, mem_tup, ty_nil, ty_cons, ty_int, ty_bl, ty_tup, ty_non, ty_str, grd_loc, grdO_some, grd_tup, grd_new, grd_rol, gOk_one, eT_len, look_eT, put_eT, kInts_eT, Option.bind_some, Option.map_some, Option.isSome_some, get_zero, get_succ, List.map_cons, List.map_nil, List.reduceReplicate, Nat.reduceSub, Nat.reduceAdd, Nat.reduceLeDiff, Nat.reduceLT, Nat.reduceEqDiff, List.append_nil, List.nil_append, List.cons_append, intOf, blOf, bop_int, iop_add, iop_sub, iop_mod, iop_mulR, iop_mulL, iop_fdiv, Int.reduceLT, Int.reduceLE, Int.reduceNeg, fin_f, List.set_cons_zero, List.set_cons_succ, asg, asgs, kill, if_true, if_false, Bool.false_eq_true, app_get0, app_get, app_set0, app_set, app_app, app_take0, app_take, GCok_P, gcP_nil, gcP_cons, gcP_refl, gcP_app, gcP_app_l, gcP_app_r, sigBelow, S.unds, List.take_length, unds_int, false_implies, implies_true, Bool.and_true, Bool.true_and, Bool.and_self, Bool.false_or, Bool.or_false, Bool.true_or, Bool.or_true, Bool.not_true, Bool.not_false, decide_true, decide_false, decide_eq_true_eq, reduceCtorEq, ne_eq, not_true_eq_false, W_bIte, W_if, bindIte, W_some, List.length_cons, List.length_nil, List.length_append, List.length_map, List.length_replicate, List.length_range, List.getElem?_cons_zero, List.getElem?_cons_succ, List.set_nil, List.take_succ_cons, List.take_zero, true_and, and_true, or_true, true_or, eq_self, asInts_map, LINE, Nat.zero_le, Nat.not_lt, Nat.le_add_right, Nat.le_refl, Nat.lt_irrefl, Nat.lt_add_right_iff_pos, Nat.add_lt_add_iff_left, Nat.add_le_add_iff_left, not_false_eq_true, Int.natCast_eq_zero, Nat.add_one_ne_zero, *])
local macro_rules | `(tactic| walk_at "wb") => `(tactic| simp only [W_bind, W_map])

/-! ### fields -/
inductive Fd where
  | p (p : Int) | g (m : Nat)
def sF : Fd → S
  | .p p => .int p
  | .g m => .tup [.int 2, .int m]
def Fok : Fd → Prop
  | .p p => 2 ≤ p ∧ p ≤ 64
  | .g m => 1 ≤ m ∧ m ≤ 4
theorem und_sF {n : Nat} {F : Fd} : (sF F).und n = true := by cases F <;> rfl
def addF : Fd → Int → Int → Int
  | .p p, a, b => (a + b) % p
  | .g _, a, b => PySem.Builtin.bitXor a b
theorem add_ok {F : Fd} (hF : Fok F) {k : Nat} (hk : 1 ≤ k) (a b : Int) (μ : Sto) : callK tb gl k Ix.add [sF F, .int a, .int b] μ = some (.s (.int (addF F a b)), μ) := by
  obtain ⟨k, rfl, _⟩ := at1 hk
  rw [call_at' (b := b_add) rfl rfl]
  simp only [b_add]
  cases F with
  | p p => 
    have h0 : (0 : Int) < p := by have := hF.1; omega
    simp only [sF, addF]
    walk_at "dvh"
  | g m => 
    simp only [sF, addF]
    walk_at "dvh"
def ppS (m : Nat) (b t : Int) (s : Int × Int) (i : Nat) : Int × Int :=
  (if (s.1 * 2 / 2 ^ m != 0) = true then PySem.Builtin.bitXor (s.1 * 2) t else s.1 * 2, if (PySem.Builtin.bitAnd (b / 2 ^ i) 1 != 0) = true then PySem.Builtin.bitXor s.2 s.1 else s.2)
def tap (m : Nat) : Int := [0, 3, 7, 11, 19].getD m 0
def ppF (m : Nat) (a b : Int) : Int := ((List.range m).foldl (ppS m b (tap m)) (a, 0)).2
theorem xor_lt {x y : Int} {n : Nat} (hx : 0 ≤ x ∧ x < 2 ^ n) (hy : 0 ≤ y ∧ y < 2 ^ n) : 0 ≤ PySem.Builtin.bitXor x y ∧ PySem.Builtin.bitXor x y < 2 ^ n := by
  rw [Bits.bitXor_pp hx.1 hy.1]
  refine ⟨by omega, ?_⟩
  have h1 : x.toNat < 2 ^ n := by have := hx.2; have e : ((2 ^ n : Nat) : Int) = 2 ^ n := by simp
                                  omega
  have h2 : y.toNat < 2 ^ n := by have := hy.2; have e : ((2 ^ n : Nat) : Int) = 2 ^ n := by simp
                                  omega
  have := Nat.xor_lt_two_pow h1 h2
  exact_mod_cast this
theorem pow_le2 {a b : Nat} (h : a ≤ b) : (2 : Int) ^ a ≤ 2 ^ b := by
  have := Nat.pow_le_pow_right (n := 2) (by decide) h
  exact_mod_cast this
theorem tap_at {m : Nat} (hm : m ≤ 4) : gl[0]? = some (.ktu [.int 0, .int 3, .int 7, .int 11, .int 19]) ∧ L2.atI [S.int 0, .int 3, .int 7, .int 11, .int 19] (m : Int) = some (.int (tap m)) ∧ 0 ≤ tap m ∧ tap m < 2 ^ 5 := by
  have : m = 0 ∨ m = 1 ∨ m = 2 ∨ m = 3 ∨ m = 4 := by omega
  rcases this with rfl | rfl | rfl | rfl | rfl <;> exact ⟨rfl, rfl, by decide, by decide⟩
theorem pp_ok {m : Nat} (hm : m ≤ 4) {k : Nat} (hk : 1 ≤ k) (a b : Int) {B : Nat} (hB : 5 ≤ B ∧ B + m ≤ 62) (ha : 0 ≤ a ∧ a < 2 ^ B) (μ : Sto) : callK tb gl k Ix.polynomial_product [.int m, .int a, .int b] μ = some (.s (.int (ppF m a b)), μ) ∧ 0 ≤ ppF m a b ∧ ppF m a b < 2 ^ (B + m) := by
  obtain ⟨k, rfl, _⟩ := at1 hk
  obtain ⟨t1, t2, t3, t4⟩ := tap_at hm
  have hb : b62 (m : Int) = true := by simp only [b62, Bool.and_eq_true, decide_eq_true_eq]; omega
  have L := for_foldI (gs := []) (body := fbd (callK tb gl k) gl (.nm 4) (.kl [4] b_polynomial_product_l0)) (σ := Int × Int) nI (fun s => [some (.int m), some (.int s.1), some (.int b), some (.int s.2), none]) (fun _ => μ) (ppS m b (tap m)) (fun r s => r.length ≤ m ∧ (0 ≤ s.1 ∧ s.1 < 2 ^ (B + m - r.length)) ∧ 0 ≤ s.2 ∧ s.2 < 2 ^ (B + m)) (fun _ _ _ => rfl) (fun i r s hI => by
      obtain ⟨x, y⟩ := s
      obtain ⟨h1, hx, hy⟩ := hI
      simp only [List.length_cons] at h1 hx
      dsimp only at hy
      have e2 : B + m - r.length = (B + m - (r.length + 1)) + 1 := by omega
      have hx2 : x < 2 ^ (B + m) := Int.lt_of_lt_of_le hx.2 (pow_le2 (by omega))
      have hx4 : x * 2 < 2 ^ (B + m - r.length) := by rw [e2, Int.pow_succ]; omega
      have hx5 : tap m < 2 ^ (B + m - r.length) := Int.lt_of_lt_of_le t4 (pow_le2 (by omega))
      have hx6 : x < 2 ^ 62 := Int.lt_of_lt_of_le hx2 (pow_le2 (by omega))
      have hs : iop .shl x 1 = some (x * 2) := iop_shl (by omega)
      have hr1 : iop .shr b i = some (b / 2 ^ i) := iop_shr (by omega)
      have hr2 : iop .shr (x * 2) m = some (x * 2 / 2 ^ m) := iop_shr (by omega)
      have f1 := xor_lt hy ⟨hx.1, hx2⟩
      have f2 := xor_lt (x := x * 2) (y := tap m) ⟨by omega, hx4⟩ ⟨t3, hx5⟩
      refine ⟨?_, by omega, ?_, ?_⟩
      · simp only [fbd_at]
        walk_at "dvh"
        simp only [b_polynomial_product_l0, s_polynomial_product_l0_0, s_polynomial_product_l0_1, s_polynomial_product_l0_2, ppS]
        walk_at "dvh"
        by_cases c1 : (PySem.Builtin.bitAnd (b / 2 ^ i) 1 != 0) = true <;> by_cases c2 : (x * 2 / 2 ^ m != 0) = true <;> simp only [c1, c2, if_true, if_false, Bool.false_eq_true]
      · dsimp only [ppS]; split
        · exact f2
        · exact ⟨by omega, hx4⟩
      · dsimp only [ppS]; split
        · exact f1
        · exact hy) (List.range m) (a, 0) ⟨by simp, by simpa using ha, by simp, by simp; exact Int.pow_pos (by decide)⟩
  refine ⟨?_, L.2.2.2⟩
  rw [call_at' (b := b_polynomial_product) rfl rfl]
  simp only [b_polynomial_product, s_polynomial_product_0, s_polynomial_product_1, s_polynomial_product_2]
  walk_at "dvh"
  rw [Int.toNat_natCast, rngI_nat, L.1]
  walk_at "dvh"
  rfl
def mulF : Fd → Int → Int → Int
  | .p p, a, b => (a * b) % p
  | .g m, a, b => ppF m a b
def memF : Fd → Int → Int
  | .p p, a => a % p
  | .g _, a => a
theorem mul_ok {F : Fd} (hF : Fok F) {k : Nat} (hk : 2 ≤ k) (a b : Int) {B : Nat} (hB : 5 ≤ B ∧ B ≤ 50) (ha : 0 ≤ a ∧ a < 2 ^ B) (μ : Sto) : callK tb gl k Ix.multiply [sF F, .int a, .int b] μ = some (.s (.int (mulF F a b)), μ) := by
  obtain ⟨k, rfl, hj⟩ := at1 hk
  have ha2 : a < 2 ^ 50 := Int.lt_of_lt_of_le ha.2 (pow_le2 hB.2)
  rw [call_at' (b := b_multiply) rfl rfl]
  simp only [b_multiply]
  cases F with
  | p p => 
    have h0 : (0 : Int) < p := by have := hF.1; omega
    have hm : iop .mul a b = some (a * b) := iop_mulL (by omega)
    simp only [sF, mulF]
    walk_at "dvh"
  | g m => 
    obtain ⟨e, _⟩ := pp_ok hF.2 hj a b ⟨hB.1, by have := hF.2; omega⟩ ha μ
    have e1 : L2.atI [S.int 2, .int (m : Int)] 1 = some (.int m) := rfl
    simp only [sF, mulF]
    walk_at "dvh"
theorem mulg_lt {m : Nat} (hm : m ≤ 4) (a b : Int) {B : Nat} (hB : 5 ≤ B ∧ B + m ≤ 62) (ha : 0 ≤ a ∧ a < 2 ^ B) : 0 ≤ ppF m a b ∧ ppF m a b < 2 ^ (B + m) := (pp_ok hm (Nat.le_refl 1) a b hB ha []).2
theorem member_ok {F : Fd} (hF : Fok F) {k : Nat} (hk : 1 ≤ k) (a : Int) (μ : Sto) : callK tb gl k Ix.as_member [sF F, .int a] μ = some (.s (.int (memF F a)), μ) := by
  obtain ⟨k, rfl, hj⟩ := at1 hk
  rw [call_at' (b := b_as_member) rfl rfl]
  simp only [b_as_member]
  cases F with
  | p p => 
    have h0 : (0 : Int) < p := by have := hF.1; omega
    simp only [sF, memF]
    walk_at "dvh"
  | g m => 
    simp only [sF, memF]
    walk_at "dvh"
/-- a draw: at most four small numbers -/
def Dok (F : Fd) (d : List Int) : Prop := d.length ≤ 4 ∧ ∀ c ∈ d, 0 ≤ c ∧ c < 2 ^ 5
def valF (F : Fd) (d : List Int) (key : Int) : Int := d.reverse.foldl (fun s c => addF F (mulF F s (memF F key)) c) 0
/-- how big the value may be, by what is left -/
def vI (F : Fd) (r : List Int) (s : Int) : Prop := r.length ≤ 4 ∧ (∀ c ∈ r, 0 ≤ c ∧ c < 2 ^ 5) ∧ 0 ≤ s ∧ (match F with | .p p => s < p | .g _ => s < 2 ^ (5 * (5 - r.length)))
theorem vI_lt {F : Fd} (hF : Fok F) {r : List Int} {s : Int} (h : vI F r s) : 0 ≤ s ∧ s < 2 ^ (5 + 5 * (5 - r.length)) := by
  obtain ⟨_, _, h3, h4⟩ := h
  refine ⟨h3, ?_⟩
  cases F with
  | p p =>
    have h1 : s < 2 ^ 6 := by have := hF.2; dsimp only at h4; omega
    by_cases hl : r.length ≤ 4
    · exact Int.lt_of_lt_of_le h1 (pow_le2 (by omega))
    · omega
  | g m => exact Int.lt_of_lt_of_le h4 (pow_le2 (by omega))
theorem vI_step {F : Fd} (hF : Fok F) {c : Int} {r : List Int} {s x : Int} (h : vI F (c :: r) s) : vI F r (addF F (mulF F s x) c) := by
  obtain ⟨h1, h2, h3, h4⟩ := h
  simp only [List.length_cons] at h1
  have hc := h2 c (by simp)
  cases F with
  | p p =>
    have h0 : (0 : Int) < p := by have := hF.1; omega
    exact ⟨by omega, fun c hc => h2 c (by simp [hc]), Int.emod_nonneg _ (by omega), Int.emod_lt_of_pos _ h0⟩
  | g m =>
    simp only [List.length_cons] at h4
    have hm := hF.2
    have hb := mulg_lt hm s x (B := 5 * (5 - (r.length + 1))) ⟨by omega, by omega⟩ ⟨h3, h4⟩
    have hb2 := xor_lt (x := ppF m s x) (y := c) (n := 5 * (5 - r.length)) ⟨hb.1, Int.lt_of_lt_of_le hb.2 (pow_le2 (by omega))⟩ ⟨hc.1, Int.lt_of_lt_of_le hc.2 (pow_le2 (by omega))⟩
    exact ⟨by omega, fun c hc => h2 c (by simp [hc]), hb2.1, hb2.2⟩
theorem value_ok {F : Fd} (hF : Fok F) {k : Nat} (hk : 3 ≤ k) {d : List Int} (hd : Dok F d) (key : Int) (μ : Sto) : callK tb gl k Ix.value_of [sF F, iS d, .int key] μ = some (.s (.int (valF F d key)), μ) ∧ vI F [] (valF F d key) := by
  obtain ⟨k, rfl, hj⟩ := at1 hk
  have e0 := member_ok hF (k := k) (by omega) key μ
  have hu : ∀ n, (sF F).und n = true := fun n => und_sF
  have L := for_foldI (gs := []) (body := fbd (callK tb gl k) gl (.nm 5) (.kl [5] b_value_of_l0)) (σ := Int) S.int (fun s => [some (sF F), some (iS d), some (.int key), some (.int (memF F key)), some (.int s), none]) (fun _ => μ) (fun s c => addF F (mulF F s (memF F key)) c) (vI F) (fun _ _ _ => rfl) (fun c r s hI => by
      have hb := vI_lt hF hI
      refine ⟨?_, vI_step hF hI⟩
      have e1 := mul_ok hF hj s (memF F key) (B := 5 + 5 * (5 - (c :: r).length)) ⟨by omega, by omega⟩ hb μ
      have e2 := add_ok hF (k := k) (by omega) (mulF F s (memF F key)) c μ
      simp only [fbd_at]
      walk_at "dvh"
      simp only [b_value_of_l0]
      walk_at "dvh") d.reverse 0 ⟨by simpa using hd.1, fun c hc => hd.2 c (by simpa using hc), Int.le_refl _, by cases F with | p p => (have := hF.1; dsimp only; omega) | g m => exact Int.pow_pos (by decide)⟩
  refine ⟨?_, L.2⟩
  rw [call_at' (b := b_value_of) rfl rfl]
  simp only [b_value_of, s_value_of_0, s_value_of_1, s_value_of_2, s_value_of_3]
  walk_at "dvh"
  rfl
def sgF (m : Nat) (d : List Int) (key : Int) : Int := if valF (.g m) d key % 2 = 0 then 1 else -1
theorem sign_ok {m : Nat} (hF : Fok (.g m)) {k : Nat} (hk : 4 ≤ k) {d : List Int} (hd : Dok (.g m) d) (key : Int) (μ : Sto) : callK tb gl k Ix.sign_of [.tup [.int 2, .int m], iS d, .int key] μ = some (.s (.int (sgF m d key)), μ) := by
  obtain ⟨k, rfl, hj⟩ := at1 hk
  obtain ⟨e, _⟩ := value_ok hF hj hd key μ
  simp only [sF] at e
  rw [call_at' (b := b_sign_of) rfl rfl]
  simp only [b_sign_of]
  walk_at "dvh"
  by_cases c : valF (.g m) d key % 2 = 0
  · simp only [sgF, c, if_true]
  · simp only [sgF, c, if_false]
/-! ### streams -/
abbrev sPr (p : Int × Int) : S := .tup [.int p.1, .int p.2]
abbrev sSt (s : List (Int × Int)) : S := .tup (s.map sPr)
theorem und_st {n : Nat} {l : List (Int × Int)} : S.unds n (l.map sPr) = true := unds_map fun _ => rfl
theorem und_sPr {n : Nat} {p : Int × Int} : S.und n (sPr p) = true := rfl
def lk0 (t : List (Int × Int)) (k : Int) : Int := (look t k).getD 0
def cD (s : List (Int × Int)) : List (Int × Int) := s.foldl (fun t p => put t p.1 (lk0 t p.1 + p.2)) []
def cF (s : List (Int × Int)) : List (Int × Int) := ((mergeI ((cD s).map (·.1))).filter fun k => lk0 (cD s) k != 0).map fun k => (k, lk0 (cD s) k)
theorem getD_int (t : List (Int × Int)) (k : Int) : ((look t k).map S.int).getD (.int 0) = .int (lk0 t k) := by
  unfold lk0; cases look t k <;> rfl
theorem look_in {t : List (Int × Int)} {k : Int} (h : k ∈ t.map (·.1)) : look t k = some (lk0 t k) := by
  have := look_mem.mpr h
  unfold lk0
  cases hh : look t k with
  | none => rw [hh] at this; cases this
  | some v => rfl
theorem counts_ok {k : Nat} (hk : 1 ≤ k) {s : List (Int × Int)} (hs : s.length < 64) (μ : Sto) : callK tb gl k Ix.counts_of [sSt s] μ = some (.s (sSt (cF s)), μ) := by
  obtain ⟨k, rfl, _⟩ := at1 hk
  have hsu := @und_st
  have hku : ∀ n (t : List (Int × Int)), kvBelow n (eT S.int t) = true := fun n t => kvB_eT (fun _ => rfl)
  have L := for_foldI (gs := []) (body := fbd (callK tb gl k) gl (.tp [(.nm 2), (.nm 3)]) (.kl [2, 3] b_counts_of_l0)) (σ := List (Int × Int)) sPr (fun t => [some (sSt s), some (.loc μ.length), none, none]) (fun t => μ ++ [.dK (eT S.int t)]) (fun t p => put t p.1 (lk0 t p.1 + p.2)) (fun r t => t.length + r.length < 64) (fun _ _ _ => rfl) (fun p r t hI => by
      simp only [List.length_cons] at hI
      refine ⟨?_, by have := @put_len Int t p.1 (lk0 t p.1 + p.2); omega⟩
      have hl : t.length < 16777216 := by omega
      have gd := getD_int
      simp only [fbd_at]
      walk_at "dvh"
      simp only [b_counts_of_l0]
      walk_at "dvh") s [] (by simpa using hs)
  have hlen : (cD s).length < 64 := by have := L.2; simpa [cD] using this
  have hl2 : (mergeI ((cD s).map (·.1))).length ≤ 16777216 := by rw [mergeI_len, List.length_map]; omega
  have L1 := L.1
  simp only [eT_nil] at L1
  have C := lc_filter (gs := []) (body := lbd (callK tb gl k) gl (.tup (.cons (.var 2) (.cons (.ix (.var 1) (.var 2)) .nil))) [2] (.nm 2) (.cmp .ne (.ix (.var 1) (.var 2)) (.k (.int 0))) [some (sSt s), some (.loc μ.length), none, none]) (μ := μ ++ [.dK (eT S.int (cD s))]) S.int (fun k => lk0 (cD s) k != 0) (fun k => sPr (k, lk0 (cD s) k)) rfl (mergeI ((cD s).map (·.1))) (fun a ha => by
      have hm := look_in (mergeI_mem.mp ha)
      simp only [lbd_at]
      walk_at "dvh"
      by_cases c : lk0 (cD s) a = 0
      · simp [c]
      · simp [c]) [] (by simpa using hl2)
  rw [call_at' (b := b_counts_of) rfl rfl]
  simp only [b_counts_of, s_counts_of_0, s_counts_of_1, s_counts_of_2]
  have hcD : List.foldl (fun t p => put t p.1 (lk0 t p.1 + p.2)) [] s = cD s := rfl
  rw [hcD] at L1
  have hcF : List.map (fun k => sPr (k, lk0 (cD s) k)) (List.filter (fun k => lk0 (cD s) k != 0) (mergeI (List.map (fun x => x.fst) (cD s)))) = (cF s).map sPr := by
    simp [cF, List.map_map, Function.comp_def]
  rw [hcF] at C
  walk_at "dvh"
end Pg
end
section
set_option Elab.async false
set_option linter.all false
set_option maxRecDepth 100000
set_option maxHeartbeats 4000000
namespace Pg
open Dv
local macro_rules | `(tactic| walk_at "dv") => `(tactic| simp -implicitDefEqProofs only [e_var, e_k, e_gl, e_bin, k_bin1, k_bin2, e_neg, k_neg, e_cmp, k_cmp1, k_cmp2, e_chn, k_chn1, k_chn2, k_chn3, e_and, k_and, e_or, k_or, e_not, k_not, e_tru, k_tru, e_ife, k_ife, e_ix, k_ix1, k_ix2, e_slc, k_sl1, k_sl2, k_sl3, e_tup, e_lst, k_tup, k_lst, e_dnK, e_dnT, e_call, k_call, k_fin, e_bi, k_bi, e_mt, k_mt1, k_mt2, e_app, k_app1, k_app2s, k_app2n, e_isi, k_isi, e_rg1, k_rg1, e_rg2, k_rg2, k_rg2b, e_lc, k_lc, k_lcR, lbd_at, k_ls0, k_ls1, k_ls3s, k_ls3n, s_nil, s_cons, k_cons_s, k_cons_n, k_cons2, d_nil, d_cons, k_consD, k_consD2, i_seq, k_sq, i_rng1, k_r1, i_rng2, k_r2, k_r2b, i_rngD, k_rD, k_rDb, i_enum, k_en, i_zip, k_zp1, k_zp2, i_rev, k_rv, r_skip, r_seq, k_seqN, k_seqR, k_seqB, k_seqC, r_asg, k_asgS, k_asgN, r_asgT, k_asgT, r_asgL, k_asgL, r_par, k_par, r_sub, k_sub1s, k_sub1n, k_sub2, k_sub3, r_aug, k_aug, r_augS, k_augS1, k_augS2, k_augS2b, k_augS3, r_exp, k_exp, r_ret, k_ret, r_retN, r_if, k_if, r_whl, r_fr, k_fr, fbd_at, k_run, r_brk, r_cont, r_gc, k_gcR, k_gcN, k_gcC, k_gcB, r_kl, k_kl, r_kill, r_del, k_del1, k_del2, k_endR, k_endN, fin_s, fin_n, finO_some, fin_loc, zl, rev_map, app_int, set_int, lsO_lst, seqL_loc, seqL_new, seqL_rol, lstOf_loc, lstOf_new, seqOf_tup, seqOf_loc, seqOf_new, seqOf_rol, tupOf_tup, tupOf_loc, tupOf_new, dictOf_new, dictOf_loc, b_any, b_all, lenO_lst, lenO_dK, b_len_tup, b_len_loc, b_len_new, b_len_rol, b_int, b_intB, b_tuple, b_list, b_sum, srtO_lst, srtO_dK, b_sorted_loc, b_sorted_new, b_min2, b_max2, b_abs, v_pop, v_popAt, v_rev, v_bit, v_get1, v_get2, dkO_K, dkO_T, m_pop, popAO_lst, m_popAt, revO_lst, m_rev, m_get1, m_get2, m_bit, dlook_int, popO_int, part_non, part_k, part_v, slc_tup, slc_rol, slc_new, slc_loc, cut_map, und_int, und_bl, und_non, und_str, und_loc, und_tup, und_rol, und_lst, unds_app, und_dK, iop_and, iop_or, iop_xor, setIx_loc, setO_lst, setO_dK, appD_loc, appO_lst, idx_tup, idx_ktu, idx_loc, idx_new, idxO_lst, idxO_dK, pyEq_int, pyEq_bl, c_eq, c_ne, c_lt, c_le, c_gt, c_ge, c_isN, c_notN, isNon_non, isNon_int, isNon_tup, isNon_bl, isNon_loc, tru_int, tru_bl, tru_tup, c_mem, c_nmem, mem_bls, mem_loc, memO_int, mem_tup, ty_nil, ty_cons, ty_int, ty_bl, ty_tup, ty_non, ty_str, grd_loc, grdO_some, grd_tup, grd_new, grd_rol, gOk_one, eT_len, look_eT, put_eT, kInts_eT, Option.bind_some, Option.map_some, Option.isSome_some, get_zero, get_succ, List.map_cons, List.map_nil, List.reduceReplicate, Nat.reduceSub, Nat.reduceAdd, Nat.reduceLeDiff, Nat.reduceLT, Nat.reduceEqDiff, List.append_nil, List.nil_append, List.cons_append, intOf, blOf, bop_int, iop_add, iop_sub, iop_mod, iop_mulR, iop_mulL, iop_fdiv, Int.reduceLT, Int.reduceLE, Int.reduceNeg, fin_f, List.set_cons_zero, List.set_cons_succ, asg, asgs, kill, if_true, if_false, Bool.false_eq_true, app_get0, app_get, app_set0, app_set, app_app, app_take0, app_take, GCok_P, gcP_nil, gcP_cons, gcP_refl, gcP_app, gcP_app_l, gcP_app_r, sigBelow, S.unds, List.take_length, unds_int, false_implies, implies_true, Bool.and_true, Bool.true_and, Bool.and_self, Bool.false_or, Bool.or_false, Bool.true_or, Bool.or_true, Bool.not_true, Bool.not_false, decide_true, decide_false, decide_eq_true_eq, reduceCtorEq, ne_eq, not_true_eq_false, W_bIte, W_if, bindIte, W_some, List.length_cons, List.length_nil, List.length_append, List.length_map, List.length_replicate, List.length_range, List.getElem?_cons_zero, List.getElem?_cons_succ, List.set_nil, List.take_succ_cons, List.take_zero, true_and, and_true, or_true, true_or, eq_self, asInts_map, LINE, Nat.zero_le, Nat.not_lt, Nat.le_add_right, Nat.le_refl, Nat.lt_irrefl, Nat.lt_add_right_iff_pos, Nat.add_lt_add_iff_left, Nat.add_le_add_iff_left, not_false_eq_true, Int.natCast_eq_zero, Nat.add_one_ne_zero])
local macro_rules | `(tactic| walk_at "dvh") => `(tactic| simp -implicitDefEqProofs only [e_var, e_k, e_gl, e_bin, k_bin1, k_bin2, e_neg, k_neg, e_cmp, k_cmp1, k_cmp2, e_chn, k_chn1, k_chn2, k_chn3, e_and, k_and, e_or, k_or, e_not, k_not, e_tru, k_tru, e_ife, k_ife, e_ix, k_ix1, k_ix2, e_slc, k_sl1, k_sl2, k_sl3, e_tup, e_lst, k_tup, k_lst, e_dnK, e_dnT, e_call, k_call, k_fin, e_bi, k_bi, e_mt, k_mt1, k_mt2, e_app, k_app1, k_app2s, k_app2n, e_isi, k_isi, e_rg1, k_rg1, e_rg2, k_rg2, k_rg2b, e_lc, k_lc, k_lcR, lbd_at, k_ls0, k_ls1, k_ls3s, k_ls3n, s_nil, s_cons, k_cons_s, k_cons_n, k_cons2, d_nil, d_cons, k_consD, k_consD2, i_seq, k_sq, i_rng1, k_r1, i_rng2, k_r2, k_r2b, i_rngD, k_rD, k_rDb, i_enum, k_en, i_zip, k_zp1, k_zp2, i_rev, k_rv, r_skip, r_seq, k_seqN, k_seqR, k_seqB, k_seqC, r_asg, k_asgS, k_asgN, r_asgT, k_asgT, r_asgL, k_asgL, r_par, k_par, r_sub, k_sub1s, k_sub1n, k_sub2, k_sub3, r_aug, k_aug, r_augS, k_augS1, k_augS2, k_augS2b, k_augS3, r_exp, k_exp, r_ret, k_ret, r_retN, r_if, k_if, r_whl, r_fr, k_fr, fbd_at, k_run, r_brk, r_cont, r_gc, k_gcR, k_gcN, k_gcC, k_gcB, r_kl, k_kl, r_kill, r_del, k_del1, k_del2, k_endR, k_endN, fin_s, fin_n, finO_some, fin_loc, zl, rev_map, app_int, set_int, lsO_lst, seqL_loc, seqL_new, seqL_rol, lstOf_loc, lstOf_new, seqOf_tup, seqOf_loc, seqOf_new, seqOf_rol, tupOf_tup, tupOf_loc, tupOf_new, dictOf_new, dictOf_loc, b_any, b_all, lenO_lst, lenO_dK, b_len_tup, b_len_loc, b_len_new, b_len_rol, b_int, b_intB, b_tuple, b_list, b_sum, srtO_lst, srtO_dK, b_sorted_loc, b_sorted_new, b_min2, b_max2, b_abs, v_pop, v_popAt, v_rev, v_bit, v_get1, v_get2, dkO_K, dkO_T, m_pop, popAO_lst, m_popAt, revO_lst, m_rev, m_get1, m_get2, m_bit, dlook_int, popO_int, part_non, part_k, part_v, slc_tup, slc_rol, slc_new, slc_loc, cut_map, und_int, und_bl, und_non, und_str, und_loc, und_tup, und_rol, und_lst, unds_app, und_dK, iop_and, iop_or, iop_xor, setIx_loc, setO_lst, setO_dK, appD_loc, appO_lst, idx_tup, idx_ktu, idx_loc, idx_new, idxO_lst, idxO_dK, pyEq_int, pyEq_bl, c_eq, c_ne, c_lt, c_le, c_gt, c_ge, c_isN, c_notN, isNon_non, isNon_int, isNon_tup, isNon_bl, isNon_loc, tru_int, tru_bl, tru_tup, c_mem, c_nmem, mem_bls, mem_loc, memO_int, mem_tup, ty_nil, ty_cons, ty_int, ty_bl, ty_tup, ty_non, ty_str, grd_loc, grdO_some, grd_tup, grd_new, grd_rol, gOk_one, eT_len, look_eT, put_eT, kInts_eT, Option.bind_some, Option.map_some, Option.isSome_some, get_zero, get_succ, List.map_cons, List.map_nil, List.reduceReplicate, Nat.reduceSub, Nat.reduceAdd, Nat.reduceLeDiff, Nat.reduceLT, Nat.reduceEqDiff, List.append_nil, List.nil_append, List.cons_append, intOf, blOf, bop_int, iop_add, iop_sub, iop_mod, iop_mulR, iop_mulL, iop_fdiv, Int.reduceLT, Int.reduceLE, Int.reduceNeg, fin_f, List.set_cons_zero, List.set_cons_succ, asg, asgs, kill, if_true, if_false, Bool.false_eq_true, app_get0, app_get, app_set0, app_set, app_app, app_take0, app_take, GCok_P, gcP_nil, gcP_cons, gcP_refl, gcP_app, gcP_app_l, gcP_app_r, sigBelow, S.unds, List.take_length, unds_int, false_implies, implies_true, Bool.and_true, Bool.true_and, Bool.and_self, Bool.false_or, Bool.or_false, Bool.true_or, Bool.or_true, Bool.not_true, Bool.not_false, decide_true, decide_false, decide_eq_true_eq, reduceCtorEq, ne_eq, not_true_eq_false, W_bIte, W_if, bindIte, W_some, List.length_cons, List.length_nil, List.length_append, List.length_map, List.length_replicate, List.length_range, List.getElem?_cons_zero, List.getElem?_cons_succ, List.set_nil, List.take_succ_cons, List.take_zero, true_and, and_true, or_true, true_or, eq_self, asInts_map, LINE, Nat.zero_le, Nat.not_lt, Nat.le_add_right, Nat.le_refl, Nat.lt_irrefl, Nat.lt_add_right_iff_pos, Nat.add_lt_add_iff_left, Nat.add_le_add_iff_left, not_false_eq_true, Int.natCast_eq_zero, Nat.add_one_ne_zero, *])
local macro_rules | `(tactic| walk_at "wb") => `(tactic| simp only [W_bind, W_map])

/-! ### linear sums over a stream -/
abbrev Stm := List (Int × Int)
def L (φ : Int → Int) (s : Stm) : Int := (s.map fun p => p.2 * φ p.1).sum
theorem L_app {φ : Int → Int} {a b : Stm} : L φ (a ++ b) = L φ a + L φ b := by simp [L]
theorem L_nil {φ : Int → Int} : L φ [] = 0 := rfl
theorem L_one {φ : Int → Int} {p : Int × Int} : L φ [p] = p.2 * φ p.1 := by simp [L]
theorem L_cons {φ : Int → Int} {p : Int × Int} {s : Stm} : L φ (p :: s) = p.2 * φ p.1 + L φ s := by simp [L]
/-- a row of sums: place f k takes g k -/
def ind (f g : Int → Int) (j : Nat) (k : Int) : Int := if f k = (j : Int) then g k else 0
def iRow (w : Nat) (f g : Int → Int) (s : Stm) : List Int := (List.range w).map fun j => L (ind f g j) s
theorem iRow_len {w : Nat} {f g : Int → Int} {s : Stm} : (iRow w f g s).length = w := by simp [iRow]
theorem iRow_nil {w : Nat} {f g : Int → Int} : iRow w f g [] = List.replicate w 0 := by
  apply List.ext_getElem
  · simp [iRow]
  · intro i h1 h2
    simp [iRow, L_nil]
def iAt (f g : Int → Int) (s : Stm) (k : Int) : Int := L (ind f g (f k).toNat) s
theorem iRow_at {w : Nat} {f g : Int → Int} {s : Stm} {k : Int} (h0 : 0 ≤ f k) (h1 : f k < w) : L2.atI ((iRow w f g s).map S.int) (f k) = some (.int (iAt f g s k)) := by
  apply atI_map _ h0
  have : (f k).toNat < w := by omega
  simp [iRow, this, iAt]
theorem iRow_ix {w : Nat} {f : Int → Int} {k : Int} (h0 : 0 ≤ f k) (h1 : f k < w) : L2.ixN w (f k) = some (f k).toNat := by
  unfold L2.ixN; rw [if_pos h0, if_pos h1]
theorem iRow_set {w : Nat} {f g : Int → Int} {s : Stm} {p : Int × Int} (h0 : 0 ≤ f p.1) : (iRow w f g s).set (f p.1).toNat (iAt f g s p.1 + p.2 * g p.1) = iRow w f g (s ++ [p]) := by
  apply List.ext_getElem
  · simp [iRow]
  · intro i h1 h2
    simp only [iRow, List.length_map, List.length_range] at h2
    rw [List.getElem_set]
    simp only [iRow, List.getElem_map, List.getElem_range, L_app, L_one]
    by_cases h : (f p.1).toNat = i
    · subst h
      have : f p.1 = ((f p.1).toNat : Int) := by omega
      rw [if_pos rfl]
      simp only [iAt, ind]
      rw [if_pos this]
    · rw [if_neg h]
      have : ¬ f p.1 = (i : Int) := by omega
      simp only [ind, if_neg this]
      omega
/-! ### small defs on rows -/
abbrev sRow (r : List Int) : S := iS r
abbrev sRows (rs : List (List Int)) : S := .tup (rs.map iS)
theorem und_rows {n : Nat} {l : List (List Int)} : S.unds n (l.map iS) = true := unds_map fun _ => unds_int
/-- the rows are laid one after another -/
def locs (n m : Nat) : List S := (List.range m).map fun i => S.loc (n + i)
theorem locs_at {n m i : Nat} (h : i < m) : L2.atI (locs n m) (i : Int) = some (.loc (n + i)) := by
  apply L2.atI_nat
  simp [locs, h]
theorem empty_ok {k : Nat} (hk : 1 ≤ k) (m w : Nat) (hm : m ≤ 16777216) (hw : w ≤ 16777216) (μ : Sto) : callK tb gl k Ix.empty_rows [.int m, .int w] μ = some (.new (.lst (locs μ.length m)), μ ++ List.replicate m (iO (List.replicate w 0))) := by
  obtain ⟨k, rfl, _⟩ := at1 hk
  have hb : b62 (m : Int) = true := by simp only [b62, Bool.and_eq_true, decide_eq_true_eq]; omega
  have C := lc_rng (gs := []) (body := lbd (callK tb gl k) gl (.bin .mul (.lst (.cons (.k (.int 0)) .nil)) (.var 1)) [2] (.nm 2) (.k (.bl true)) [some (.int m), some (.int w), none]) (fun i => S.loc (μ.length + i)) (fun i => μ ++ List.replicate i (iO (List.replicate w 0))) m hm (fun _ => rfl) (fun i hi => by
      have e := @bop_rep (μ ++ List.replicate i (iO (List.replicate w 0))) (.int 0) (w : Int) (by omega)
      have e3 : List.replicate w (S.int 0) = (List.replicate w 0).map S.int := by simp
      have e4 : List.replicate (i + 1) (iO (List.replicate w 0)) = List.replicate i (iO (List.replicate w 0)) ++ [iO (List.replicate w 0)] := List.replicate_succ'
      rw [e4]
      simp only [lbd_at]
      have e5 : ((w : Int).toNat) = w := Int.toNat_natCast w
      rw [e5, e3] at e
      walk_at "dvh")
  rw [call_at' (b := b_empty_rows) rfl rfl]
  simp only [b_empty_rows]
  have e6 : ((m : Int).toNat) = m := Int.toNat_natCast m
  simp only [List.replicate_zero, List.append_nil] at C
  walk_at "dvh"
  rfl
theorem frozen_ok {k : Nat} (hk : 1 ≤ k) (rs : List (List Int)) (hl : rs.length ≤ 16777216) (μ : Sto) (n : Nat) (hX : ∀ i, (h : i < rs.length) → μ[n + i]? = some (iO (rs[i]))) (a : Nat) (ha : μ[a]? = some (.lst (locs n rs.length))) : callK tb gl k Ix.frozen [.loc a] μ = some (.s (sRows rs), μ) := by
  obtain ⟨k, rfl, _⟩ := at1 hk
  have hu := @und_rows
  have e : locs n rs.length = (List.range rs.length).map fun i => S.loc (n + i) := rfl
  rw [e] at ha
  have hr : (List.range rs.length).map (fun i => iS (rs.getD i [])) = rs.map iS := by
    apply List.ext_getElem
    · simp
    · intro i h1 h2
      simp only [List.length_map] at h2
      simp [h2]
  have C := lc_map (gs := [(a, .lst ((List.range rs.length).map fun i => S.loc (n + i)))]) (body := lbd (callK tb gl k) gl (.bi .tuple (.cons (.var 1) .nil)) [1] (.nm 1) (.k (.bl true)) [some (.loc a), none]) (μ := μ) (fun i => S.loc (n + i)) (fun i => iS (rs.getD i [])) (by simp [gOk, ha]) (List.range rs.length) (fun i hi => by
      have hi' : i < rs.length := List.mem_range.mp hi
      have h2 := hX i hi'
      have h3 : rs.getD i [] = rs[i] := by simp [hi']
      simp only [lbd_at]
      walk_at "dvh") [] (by simpa using hl)
  rw [hr] at C
  rw [call_at' (b := b_frozen) rfl rfl]
  simp only [b_frozen]
  walk_at "dvh"
end Pg
end
section
set_option Elab.async false
set_option linter.all false
set_option maxRecDepth 100000
set_option maxHeartbeats 4000000
namespace Pg
open Dv
local macro_rules | `(tactic| walk_at "dv") => `(tactic| simp -implicitDefEqProofs only [e_var, e_k, e_gl, e_bin, k_bin1, k_bin2, e_neg, k_neg, e_cmp, k_cmp1, k_cmp2, e_chn, k_chn1, k_chn2, k_chn3, e_and, k_and, e_or, k_or, e_not, k_not, e_tru, k_tru, e_ife, k_ife, e_ix, k_ix1, k_ix2, e_slc, k_sl1, k_sl2, k_sl3, e_tup, e_lst, k_tup, k_lst, e_dnK, e_dnT, e_call, k_call, k_fin, e_bi, k_bi, e_mt, k_mt1, k_mt2, e_app, k_app1, k_app2s, k_app2n, e_isi, k_isi, e_rg1, k_rg1, e_rg2, k_rg2, k_rg2b, e_lc, k_lc, k_lcR, lbd_at, k_ls0, k_ls1, k_ls3s, k_ls3n, s_nil, s_cons, k_cons_s, k_cons_n, k_cons2, d_nil, d_cons, k_consD, k_consD2, i_seq, k_sq, i_rng1, k_r1, i_rng2, k_r2, k_r2b, i_rngD, k_rD, k_rDb, i_enum, k_en, i_zip, k_zp1, k_zp2, i_rev, k_rv, r_skip, r_seq, k_seqN, k_seqR, k_seqB, k_seqC, r_asg, k_asgS, k_asgN, r_asgT, k_asgT, r_asgL, k_asgL, r_par, k_par, r_sub, k_sub1s, k_sub1n, k_sub2, k_sub3, r_aug, k_aug, r_augS, k_augS1, k_augS2, k_augS2b, k_augS3, r_exp, k_exp, r_ret, k_ret, r_retN, r_if, k_if, r_whl, r_fr, k_fr, fbd_at, k_run, r_brk, r_cont, r_gc, k_gcR, k_gcN, k_gcC, k_gcB, r_kl, k_kl, r_kill, r_del, k_del1, k_del2, k_endR, k_endN, fin_s, fin_n, finO_some, fin_loc, zl, rev_map, app_int, set_int, lsO_lst, seqL_loc, seqL_new, seqL_rol, lstOf_loc, lstOf_new, seqOf_tup, seqOf_loc, seqOf_new, seqOf_rol, tupOf_tup, tupOf_loc, tupOf_new, dictOf_new, dictOf_loc, b_any, b_all, lenO_lst, lenO_dK, b_len_tup, b_len_loc, b_len_new, b_len_rol, b_int, b_intB, b_tuple, b_list, b_sum, srtO_lst, srtO_dK, b_sorted_loc, b_sorted_new, b_min2, b_max2, b_abs, v_pop, v_popAt, v_rev, v_bit, v_get1, v_get2, dkO_K, dkO_T, m_pop, popAO_lst, m_popAt, revO_lst, m_rev, m_get1, m_get2, m_bit, dlook_int, popO_int, part_non, part_k, part_v, slc_tup, slc_rol, slc_new, slc_loc, cut_map, und_int, und_bl, und_non, und_str, und_loc, und_tup, und_rol, und_lst, unds_app, und_dK, iop_and, iop_or, iop_xor, setIx_loc, setO_lst, setO_dK, appD_loc, appO_lst, idx_tup, idx_ktu, idx_loc, idx_new, idxO_lst, idxO_dK, pyEq_int, pyEq_bl, c_eq, c_ne, c_lt, c_le, c_gt, c_ge, c_isN, c_notN, isNon_non, isNon_int, isNon_tup, isNon_bl, isNon_loc, tru_int, tru_bl, tru_tup, c_mem, c_nmem, mem_bls, mem_loc, memO_int, mem_tup, ty_nil, ty_cons, ty_int, ty_bl, ty_tup, ty_non, ty_str, grd_loc, grdO_some, grd_tup, grd_new, grd_rol, gOk_one, eT_len, look_eT, put_eT, kInts_eT, Option.bind_some, Option.map_some, Option.isSome_some, get_zero, get_succ, List.map_cons, List.map_nil, List.reduceReplicate, Nat.reduceSub, Nat.reduceAdd, Nat.reduceLeDiff, Nat.reduceLT, Nat.reduceEqDiff, List.append_nil, List.nil_append, List.cons_append, intOf, blOf, bop_int, iop_add, iop_sub, iop_mod, iop_mulR, iop_mulL, iop_fdiv, Int.reduceLT, Int.reduceLE, Int.reduceNeg, fin_f, List.set_cons_zero, List.set_cons_succ, asg, asgs, kill, if_true, if_false, Bool.false_eq_true, app_get0, app_get, app_set0, app_set, app_app, app_take0, app_take, GCok_P, gcP_nil, gcP_cons, gcP_refl, gcP_app, gcP_app_l, gcP_app_r, sigBelow, S.unds, List.take_length, unds_int, false_implies, implies_true, Bool.and_true, Bool.true_and, Bool.and_self, Bool.false_or, Bool.or_false, Bool.true_or, Bool.or_true, Bool.not_true, Bool.not_false, decide_true, decide_false, decide_eq_true_eq, reduceCtorEq, ne_eq, not_true_eq_false, W_bIte, W_if, bindIte, W_some, List.length_cons, List.length_nil, List.length_append, List.length_map, List.length_replicate, List.length_range, List.getElem?_cons_zero, List.getElem?_cons_succ, List.set_nil, List.take_succ_cons, List.take_zero, true_and, and_true, or_true, true_or, eq_self, asInts_map, LINE, Nat.zero_le, Nat.not_lt, Nat.le_add_right, Nat.le_refl, Nat.lt_irrefl, Nat.lt_add_right_iff_pos, Nat.add_lt_add_iff_left, Nat.add_le_add_iff_left, not_false_eq_true, Int.natCast_eq_zero, Nat.add_one_ne_zero])
local macro_rules | `(tactic| walk_at "dvh") => `(tactic| simp -implicitDefEqProofs only [e_var, e_k, e_gl, e_bin, k_bin1, k_bin2, e_neg, k_neg, e_cmp, k_cmp1, k_cmp2, e_chn, k_chn1, k_chn2, k_chn3, e_and, k_and, e_or, k_or, e_not, k_not, e_tru, k_tru, e_ife, k_ife, e_ix, k_ix1, k_ix2, e_slc, k_sl1, k_sl2, k_sl3, e_tup, e_lst, k_tup, k_lst, e_dnK, e_dnT, e_call, k_call, k_fin, e_bi, k_bi, e_mt, k_mt1, k_mt2, e_app, k_app1, k_app2s, k_app2n, e_isi, k_isi, e_rg1, k_rg1, e_rg2, k_rg2, k_rg2b, e_lc, k_lc, k_lcR, lbd_at, k_ls0, k_ls1, k_ls3s, k_ls3n, s_nil, s_cons, k_cons_s, k_cons_n, k_cons2, d_nil, d_cons, k_consD, k_consD2, i_seq, k_sq, i_rng1, k_r1, i_rng2, k_r2, k_r2b, i_rngD, k_rD, k_rDb, i_enum, k_en, i_zip, k_zp1, k_zp2, i_rev, k_rv, r_skip, r_seq, k_seqN, k_seqR, k_seqB, k_seqC, r_asg, k_asgS, k_asgN, r_asgT, k_asgT, r_asgL, k_asgL, r_par, k_par, r_sub, k_sub1s, k_sub1n, k_sub2, k_sub3, r_aug, k_aug, r_augS, k_augS1, k_augS2, k_augS2b, k_augS3, r_exp, k_exp, r_ret, k_ret, r_retN, r_if, k_if, r_whl, r_fr, k_fr, fbd_at, k_run, r_brk, r_cont, r_gc, k_gcR, k_gcN, k_gcC, k_gcB, r_kl, k_kl, r_kill, r_del, k_del1, k_del2, k_endR, k_endN, fin_s, fin_n, finO_some, fin_loc, zl, rev_map, app_int, set_int, lsO_lst, seqL_loc, seqL_new, seqL_rol, lstOf_loc, lstOf_new, seqOf_tup, seqOf_loc, seqOf_new, seqOf_rol, tupOf_tup, tupOf_loc, tupOf_new, dictOf_new, dictOf_loc, b_any, b_all, lenO_lst, lenO_dK, b_len_tup, b_len_loc, b_len_new, b_len_rol, b_int, b_intB, b_tuple, b_list, b_sum, srtO_lst, srtO_dK, b_sorted_loc, b_sorted_new, b_min2, b_max2, b_abs, v_pop, v_popAt, v_rev, v_bit, v_get1, v_get2, dkO_K, dkO_T, m_pop, popAO_lst, m_popAt, revO_lst, m_rev, m_get1, m_get2, m_bit, dlook_int, popO_int, part_non, part_k, part_v, slc_tup, slc_rol, slc_new, slc_loc, cut_map, und_int, und_bl, und_non, und_str, und_loc, und_tup, und_rol, und_lst, unds_app, und_dK, iop_and, iop_or, iop_xor, setIx_loc, setO_lst, setO_dK, appD_loc, appO_lst, idx_tup, idx_ktu, idx_loc, idx_new, idxO_lst, idxO_dK, pyEq_int, pyEq_bl, c_eq, c_ne, c_lt, c_le, c_gt, c_ge, c_isN, c_notN, isNon_non, isNon_int, isNon_tup, isNon_bl, isNon_loc, tru_int, tru_bl, tru_tup, c_mem, c_nmem, mem_bls, mem_loc, memO_int, mem_tup, ty_nil, ty_cons, ty_int, ty_bl, ty_tup, ty_non, ty_str, grd_loc, grdO_some, grd_tup, grd_new, grd_rol, gOk_one, eT_len, look_eT, put_eT, kInts_eT, Option.bind_some, Option.map_some, Option.isSome_some, get_zero, get_succ, List.map_cons, List.map_nil, List.reduceReplicate, Nat.reduceSub, Nat.reduceAdd, Nat.reduceLeDiff, Nat.reduceLT, Nat.reduceEqDiff, List.append_nil, List.nil_append, List.cons_append, intOf, blOf, bop_int, iop_add, iop_sub, iop_mod, iop_mulR, iop_mulL, iop_fdiv, Int.reduceLT, Int.reduceLE, Int.reduceNeg, fin_f, List.set_cons_zero, List.set_cons_succ, asg, asgs, kill, if_true, if_false, Bool.false_eq_true, app_get0, app_get, app_set0, app_set, app_app, app_take0, app_take, GCok_P, gcP_nil, gcP_cons, gcP_refl, gcP_app, gcP_app_l, gcP_app_r, sigBelow, S.unds, List.take_length, unds_int, false_implies, implies_true, Bool.and_true, Bool.true_and, Bool.and_self, Bool.false_or, Bool.or_false, Bool.true_or, Bool.or_true, Bool.not_true, Bool.not_false, decide_true, decide_false, decide_eq_true_eq, reduceCtorEq, ne_eq, not_true_eq_false, W_bIte, W_if, bindIte, W_some, List.length_cons, List.length_nil, List.length_append, List.length_map, List.length_replicate, List.length_range, List.getElem?_cons_zero, List.getElem?_cons_succ, List.set_nil, List.take_succ_cons, List.take_zero, true_and, and_true, or_true, true_or, eq_self, asInts_map, LINE, Nat.zero_le, Nat.not_lt, Nat.le_add_right, Nat.le_refl, Nat.lt_irrefl, Nat.lt_add_right_iff_pos, Nat.add_lt_add_iff_left, Nat.add_le_add_iff_left, not_false_eq_true, Int.natCast_eq_zero, Nat.add_one_ne_zero, *])
local macro_rules | `(tactic| walk_at "wb") => `(tactic| simp only [W_bind, W_map])

abbrev sTab (t : List (List Int)) : S := .tup (t.map iS)
def Tok (F : Fd) (t : List (List Int)) : Prop := t.length ≤ 64 ∧ ∀ d ∈ t, Dok F d
theorem places_ok {p : Int} (hF : Fok (.p p)) {k : Nat} (hk : 4 ≤ k) {t : List (List Int)} (ht : Tok (.p p) t) (key : Int) (μ : Sto) : callK tb gl k Ix.places_of [sTab t, .int p, .int key] μ = some (.new (.lst (t.map fun d => .int (valF (.p p) d key))), μ) := by
  obtain ⟨k, rfl, hj⟩ := at1 hk
  have hU : ∀ n, S.unds n (t.map fun d => S.int (valF (.p p) d key)) = true := fun n => unds_map fun _ => rfl
  have C := lc_map (gs := []) (body := lbd (callK tb gl k) gl (.call Ix.value_of false (.cons (.var 1) (.cons (.var 3) (.cons (.var 2) .nil)))) [3] (.nm 3) (.k (.bl true)) [some (sTab t), some (.int p), some (.int key), none]) (μ := μ) iS (fun d => .int (valF (.p p) d key)) rfl t (fun d hd => by
      obtain ⟨e, _⟩ := value_ok hF hj (ht.2 d hd) key μ
      simp only [sF] at e
      simp only [lbd_at]
      walk_at "dvh") [] (by have := ht.1; simp only [List.length_nil, Nat.zero_add, LINE]; omega)
  rw [call_at' (b := b_places_of) rfl rfl]
  simp only [b_places_of]
  walk_at "dvh"
/-- a sketch: rows of weights; its numbers for a stream -/
def tabR {α : Type} (w : Nat) (f : α → Int → Int) (g : α → Int → Int) (t : List α) (s : Stm) : List (List Int) := t.map fun d => iRow w (f d) (g d) s
abbrev tRow {α : Type} (w : Nat) (f g : α → Int → Int) (s : Stm) (d : α) : Ob := iO (iRow w (f d) (g d) s)
theorem table_ok {p : Nat} (hF : Fok (.p p)) {k : Nat} (hk : 5 ≤ k) {t : List (List Int)} (ht : Tok (.p p) t) {s : Stm} (hs : s.length < 64) (μ : Sto) : callK tb gl k Ix.table_counters [sSt s, sTab t, .int p] μ = some (.s (sRows (tabR p (valF (.p p)) (fun _ _ => 1) t (cF s))), μ) := by
  obtain ⟨k, rfl, hj⟩ := at1 hk
  have hp := hF.2
  have e0 := empty_ok (k := k) (by omega) t.length p (by have := ht.1; omega) (by omega) μ
  have e1 := counts_ok (k := k) (by omega) hs
  let C : Sto := [.lst (locs μ.length t.length)]
  let M (s s' : Stm) (pre r : List (List Int)) : Sto := μ ++ rowsS (tRow p (valF (.p p)) (fun _ _ => 1) s) (tRow p (valF (.p p)) (fun _ _ => 1) s') pre r [.lst (locs μ.length t.length)]
  have inner : ∀ (dn : Stm) (q : Int × Int), forGo [] (fbd (callK tb gl k) gl (.tp [(.nm 6), (.nm 7)]) (.kl [6, 7] b_table_counters_l1)) (enumS 0 (t.map fun d => S.int (valF (.p p) d q.1))) [some (sSt s), some (sTab t), some (.int p), some (.loc (μ.length + t.length)), some (.int q.1), some (.int q.2), none, none] (M dn (dn ++ [q]) [] t) = some (.nx, [some (sSt s), some (sTab t), some (.int p), some (.loc (μ.length + t.length)), some (.int q.1), some (.int q.2), none, none], M dn (dn ++ [q]) t []) := by
    intro dn q
    refine for_enum (gs := []) (f := fun d => S.int (valF (.p p) d q.1)) (fun _ _ => [some (sSt s), some (sTab t), some (.int p), some (.loc (μ.length + t.length)), some (.int q.1), some (.int q.2), none, none]) (fun pre r => M dn (dn ++ [q]) pre r) (fun _ _ => rfl) ?_
    intro pre d r hall
    have hv := (value_ok hF (k := 3) (Nat.le_refl _) (ht.2 d (by rw [← hall]; simp)) q.1 []).2
    obtain ⟨_, _, v0, v1⟩ := hv
    dsimp only at v1
    have hlen : pre.length + (d :: r).length = t.length := by rw [← hall, List.length_append]
    have a1 := locs_at (n := μ.length) (m := t.length) (i := pre.length) (by simp only [List.length_cons] at hlen; omega)
    have a2 := @rowsS_last0 _ (tRow p (valF (.p p)) (fun _ _ => 1) dn) (tRow p (valF (.p p)) (fun _ _ => 1) (dn ++ [q])) pre (d :: r) _ (.lst (locs μ.length t.length)) [] hlen
    have a3 := @rowsS_get _ (tRow p (valF (.p p)) (fun _ _ => 1) dn) (tRow p (valF (.p p)) (fun _ _ => 1) (dn ++ [q])) pre r d [.lst (locs μ.length t.length)]
    have a4 := @rowsS_set _ (tRow p (valF (.p p)) (fun _ _ => 1) dn) (tRow p (valF (.p p)) (fun _ _ => 1) (dn ++ [q])) pre r d [.lst (locs μ.length t.length)]
    have a5 := iRow_at (w := p) (f := valF (.p p) d) (g := fun _ => 1) (s := dn) (k := q.1) v0 v1
    have a6 := iRow_set (w := p) (f := valF (.p p) d) (g := fun _ => 1) (s := dn) (p := q) v0
    have a7 := iRow_ix (w := p) (f := valF (.p p) d) (k := q.1) v0 v1
    have a8 := @iRow_len p (valF (.p p) d) (fun _ => 1) dn
    rw [Int.mul_one] at a6
    dsimp only [M]
    simp only [fbd_at]
    walk_at "dvh"
    simp only [b_table_counters_l1]
    walk_at "dvh"
  have outer := for_row (gs := []) (body := fbd (callK tb gl k) gl (.tp [(.nm 4), (.nm 5)]) (.kl [4, 5, 6, 7] b_table_counters_l0)) (f := sPr) (all := cF s) (fun _ _ => [some (sSt s), some (sTab t), some (.int p), some (.loc (μ.length + t.length)), none, none, none, none]) (fun pre _ => M pre pre [] t) (fun _ _ => rfl) (fun dn q r hall => by
    have e2 := places_ok hF hj ht q.1 (M dn dn [] t)
    have i1 := inner dn q
    have i0 : M dn dn [] t = M dn (dn ++ [q]) [] t := by simp [M, rowsS]
    have i2 : M (dn ++ [q]) (dn ++ [q]) [] t = M dn (dn ++ [q]) t [] := by simp [M, rowsS]
    rw [i2]
    rw [← i0] at i1
    clear i0 i2
    simp only [fbd_at]
    walk_at "dvh"
    simp only [b_table_counters_l0]
    walk_at "dvh")
  have hM0 : M [] [] [] t = μ ++ (List.replicate t.length (iO (List.replicate p 0)) ++ [.lst (locs μ.length t.length)]) := by
    have : t.map (tRow p (valF (.p p)) (fun _ _ => 1) []) = List.replicate t.length (iO (List.replicate p 0)) := by
      apply List.eq_replicate_iff.mpr
      refine ⟨by simp, fun o ho => ?_⟩
      obtain ⟨d, _, rfl⟩ := List.mem_map.mp ho
      simp only [tRow, iRow_nil]
    simp only [M, rowsS, List.map_nil, List.nil_append, this]
  rw [hM0] at outer
  have e3 := frozen_ok (k := k) (by omega) (tabR p (valF (.p p)) (fun _ _ => 1) t (cF s)) (by simp only [tabR, List.length_map]; have := ht.1; omega) (M (cF s) (cF s) [] t) μ.length (fun i hi => by
    simp only [tabR, List.length_map] at hi
    simp only [M, rowsS, List.map_nil, List.nil_append, app_get]
    rw [List.getElem?_append_left (by simpa using hi), List.getElem?_map, List.getElem?_eq_getElem hi]
    simp only [tabR, List.getElem_map, Option.map_some, tRow]) (μ.length + t.length) (by
    simp only [M, app_get, tabR, List.length_map]
    exact rowsS_last0 (by simp))
  have hU := @und_rows
  have hM1 : M (cF s) (cF s) [] t = μ ++ rowsS (tRow p (valF (.p p)) (fun _ _ => 1) (cF s)) (tRow p (valF (.p p)) (fun _ _ => 1) (cF s)) [] t [.lst (locs μ.length t.length)] := rfl
  rw [hM1] at outer e3
  clear hM0 hM1 inner
  rw [call_at' (b := b_table_counters) rfl rfl]
  simp only [b_table_counters, s_table_counters_0, s_table_counters_1, s_table_counters_2]
  walk_at "dvh"
end Pg
end
section
set_option Elab.async false
set_option linter.all false
set_option maxRecDepth 100000
set_option maxHeartbeats 4000000
namespace Pg
open Dv
local macro_rules | `(tactic| walk_at "dv") => `(tactic| simp -implicitDefEqProofs only [e_var, e_k, e_gl, e_bin, k_bin1, k_bin2, e_neg, k_neg, e_cmp, k_cmp1, k_cmp2, e_chn, k_chn1, k_chn2, k_chn3, e_and, k_and, e_or, k_or, e_not, k_not, e_tru, k_tru, e_ife, k_ife, e_ix, k_ix1, k_ix2, e_slc, k_sl1, k_sl2, k_sl3, e_tup, e_lst, k_tup, k_lst, e_dnK, e_dnT, e_call, k_call, k_fin, e_bi, k_bi, e_mt, k_mt1, k_mt2, e_app, k_app1, k_app2s, k_app2n, e_isi, k_isi, e_rg1, k_rg1, e_rg2, k_rg2, k_rg2b, e_lc, k_lc, k_lcR, lbd_at, k_ls0, k_ls1, k_ls3s, k_ls3n, s_nil, s_cons, k_cons_s, k_cons_n, k_cons2, d_nil, d_cons, k_consD, k_consD2, i_seq, k_sq, i_rng1, k_r1, i_rng2, k_r2, k_r2b, i_rngD, k_rD, k_rDb, i_enum, k_en, i_zip, k_zp1, k_zp2, i_rev, k_rv, r_skip, r_seq, k_seqN, k_seqR, k_seqB, k_seqC, r_asg, k_asgS, k_asgN, r_asgT, k_asgT, r_asgL, k_asgL, r_par, k_par, r_sub, k_sub1s, k_sub1n, k_sub2, k_sub3, r_aug, k_aug, r_augS, k_augS1, k_augS2, k_augS2b, k_augS3, r_exp, k_exp, r_ret, k_ret, r_retN, r_if, k_if, r_whl, r_fr, k_fr, fbd_at, k_run, r_brk, r_cont, r_gc, k_gcR, k_gcN, k_gcC, k_gcB, r_kl, k_kl, r_kill, r_del, k_del1, k_del2, k_endR, k_endN, fin_s, fin_n, finO_some, fin_loc, zl, rev_map, app_int, set_int, lsO_lst, seqL_loc, seqL_new, seqL_rol, lstOf_loc, lstOf_new, seqOf_tup, seqOf_loc, seqOf_new, seqOf_rol, tupOf_tup, tupOf_loc, tupOf_new, dictOf_new, dictOf_loc, b_any, b_all, lenO_lst, lenO_dK, b_len_tup, b_len_loc, b_len_new, b_len_rol, b_int, b_intB, b_tuple, b_list, b_sum, srtO_lst, srtO_dK, b_sorted_loc, b_sorted_new, b_min2, b_max2, b_abs, v_pop, v_popAt, v_rev, v_bit, v_get1, v_get2, dkO_K, dkO_T, m_pop, popAO_lst, m_popAt, revO_lst, m_rev, m_get1, m_get2, m_bit, dlook_int, popO_int, part_non, part_k, part_v, slc_tup, slc_rol, slc_new, slc_loc, cut_map, und_int, und_bl, und_non, und_str, und_loc, und_tup, und_rol, und_lst, unds_app, und_dK, iop_and, iop_or, iop_xor, setIx_loc, setO_lst, setO_dK, appD_loc, appO_lst, idx_tup, idx_ktu, idx_loc, idx_new, idxO_lst, idxO_dK, pyEq_int, pyEq_bl, c_eq, c_ne, c_lt, c_le, c_gt, c_ge, c_isN, c_notN, isNon_non, isNon_int, isNon_tup, isNon_bl, isNon_loc, tru_int, tru_bl, tru_tup, c_mem, c_nmem, mem_bls, mem_loc, memO_int, mem_tup, ty_nil, ty_cons, ty_int, ty_bl, ty_tup, ty_non, ty_str, grd_loc, grdO_some, grd_tup, grd_new, grd_rol, gOk_one, eT_len, look_eT, put_eT, kInts_eT, Option.bind_some, Option.map_some, Option.isSome_some, get_zero, get_succ, List.map_cons, List.map_nil, List.reduceReplicate, Nat.reduceSub, Nat.reduceAdd, Nat.reduceLeDiff, Nat.reduceLT, Nat.reduceEqDiff, List.append_nil, List.nil_append, List.cons_append, intOf, blOf, bop_int, iop_add, iop_sub, iop_mod, iop_mulR, iop_mulL, iop_fdiv, Int.reduceLT, Int.reduceLE, Int.reduceNeg, fin_f, List.set_cons_zero, List.set_cons_succ, asg, asgs, kill, if_true, if_false, Bool.false_eq_true, app_get0, app_get, app_set0, app_set, app_app, app_take0, app_take, GCok_P, gcP_nil, gcP_cons, gcP_refl, gcP_app, gcP_app_l, gcP_app_r, sigBelow, S.unds, List.take_length, unds_int, false_implies, implies_true, Bool.and_true, Bool.true_and, Bool.and_self, Bool.false_or, Bool.or_false, Bool.true_or, Bool.or_true, Bool.not_true, Bool.not_false, decide_true, decide_false, decide_eq_true_eq, reduceCtorEq, ne_eq, not_true_eq_false, W_bIte, W_if, bindIte, W_some, List.length_cons, List.length_nil, List.length_append, List.length_map, List.length_replicate, List.length_range, List.getElem?_cons_zero, List.getElem?_cons_succ, List.set_nil, List.take_succ_cons, List.take_zero, true_and, and_true, or_true, true_or, eq_self, asInts_map, LINE, Nat.zero_le, Nat.not_lt, Nat.le_add_right, Nat.le_refl, Nat.lt_irrefl, Nat.lt_add_right_iff_pos, Nat.add_lt_add_iff_left, Nat.add_le_add_iff_left, not_false_eq_true, Int.natCast_eq_zero, Nat.add_one_ne_zero])
local macro_rules | `(tactic| walk_at "dvh") => `(tactic| simp -implicitDefEqProofs only [e_var, e_k, e_gl, e_bin, k_bin1, k_bin2, e_neg, k_neg, e_cmp, k_cmp1, k_cmp2, e_chn, k_chn1, k_chn2, k_chn3, e_and, k_and, e_or, k_or, e_not, k_not, e_tru, k_tru, e_ife, k_ife, e_ix, k_ix1, k_ix2, e_slc, k_sl1, k_sl2, k_sl3, e_tup, e_lst, k_tup, k_lst, e_dnK, e_dnT, e_call, k_call, k_fin, e_bi, k_bi, e_mt, k_mt1, k_mt2, e_app, k_app1, k_app2s, k_app2n, e_isi, k_isi, e_rg1, k_rg1, e_rg2, k_rg2, k_rg2b, e_lc, k_lc, k_lcR, lbd_at, k_ls0, k_ls1, k_ls3s, k_ls3n, s_nil, s_cons, k_cons_s, k_cons_n, k_cons2, d_nil, d_cons, k_consD, k_consD2, i_seq, k_sq, i_rng1, k_r1, i_rng2, k_r2, k_r2b, i_rngD, k_rD, k_rDb, i_enum, k_en, i_zip, k_zp1, k_zp2, i_rev, k_rv, r_skip, r_seq, k_seqN, k_seqR, k_seqB, k_seqC, r_asg, k_asgS, k_asgN, r_asgT, k_asgT, r_asgL, k_asgL, r_par, k_par, r_sub, k_sub1s, k_sub1n, k_sub2, k_sub3, r_aug, k_aug, r_augS, k_augS1, k_augS2, k_augS2b, k_augS3, r_exp, k_exp, r_ret, k_ret, r_retN, r_if, k_if, r_whl, r_fr, k_fr, fbd_at, k_run, r_brk, r_cont, r_gc, k_gcR, k_gcN, k_gcC, k_gcB, r_kl, k_kl, r_kill, r_del, k_del1, k_del2, k_endR, k_endN, fin_s, fin_n, finO_some, fin_loc, zl, rev_map, app_int, set_int, lsO_lst, seqL_loc, seqL_new, seqL_rol, lstOf_loc, lstOf_new, seqOf_tup, seqOf_loc, seqOf_new, seqOf_rol, tupOf_tup, tupOf_loc, tupOf_new, dictOf_new, dictOf_loc, b_any, b_all, lenO_lst, lenO_dK, b_len_tup, b_len_loc, b_len_new, b_len_rol, b_int, b_intB, b_tuple, b_list, b_sum, srtO_lst, srtO_dK, b_sorted_loc, b_sorted_new, b_min2, b_max2, b_abs, v_pop, v_popAt, v_rev, v_bit, v_get1, v_get2, dkO_K, dkO_T, m_pop, popAO_lst, m_popAt, revO_lst, m_rev, m_get1, m_get2, m_bit, dlook_int, popO_int, part_non, part_k, part_v, slc_tup, slc_rol, slc_new, slc_loc, cut_map, und_int, und_bl, und_non, und_str, und_loc, und_tup, und_rol, und_lst, unds_app, und_dK, iop_and, iop_or, iop_xor, setIx_loc, setO_lst, setO_dK, appD_loc, appO_lst, idx_tup, idx_ktu, idx_loc, idx_new, idxO_lst, idxO_dK, pyEq_int, pyEq_bl, c_eq, c_ne, c_lt, c_le, c_gt, c_ge, c_isN, c_notN, isNon_non, isNon_int, isNon_tup, isNon_bl, isNon_loc, tru_int, tru_bl, tru_tup, c_mem, c_nmem, mem_bls, mem_loc, memO_int, mem_tup, ty_nil, ty_cons, ty_int, ty_bl, ty_tup, ty_non, ty_str, grd_loc, grdO_some, grd_tup, grd_new, grd_rol, gOk_one, eT_len, look_eT, put_eT, kInts_eT, Option.bind_some, Option.map_some, Option.isSome_some, get_zero, get_succ, List.map_cons, List.map_nil, List.reduceReplicate, Nat.reduceSub, Nat.reduceAdd, Nat.reduceLeDiff, Nat.reduceLT, Nat.reduceEqDiff, List.append_nil, List.nil_append, List.cons_append, intOf, blOf, bop_int, iop_add, iop_sub, iop_mod, iop_mulR, iop_mulL, iop_fdiv, Int.reduceLT, Int.reduceLE, Int.reduceNeg, fin_f, List.set_cons_zero, List.set_cons_succ, asg, asgs, kill, if_true, if_false, Bool.false_eq_true, app_get0, app_get, app_set0, app_set, app_app, app_take0, app_take, GCok_P, gcP_nil, gcP_cons, gcP_refl, gcP_app, gcP_app_l, gcP_app_r, sigBelow, S.unds, List.take_length, unds_int, false_implies, implies_true, Bool.and_true, Bool.true_and, Bool.and_self, Bool.false_or, Bool.or_false, Bool.true_or, Bool.or_true, Bool.not_true, Bool.not_false, decide_true, decide_false, decide_eq_true_eq, reduceCtorEq, ne_eq, not_true_eq_false, W_bIte, W_if, bindIte, W_some, List.length_cons, List.length_nil, List.length_append, List.length_map, List.length_replicate, List.length_range, List.getElem?_cons_zero, List.getElem?_cons_succ, List.set_nil, List.take_succ_cons, List.take_zero, true_and, and_true, or_true, true_or, eq_self, asInts_map, LINE, Nat.zero_le, Nat.not_lt, Nat.le_add_right, Nat.le_refl, Nat.lt_irrefl, Nat.lt_add_right_iff_pos, Nat.add_lt_add_iff_left, Nat.add_le_add_iff_left, not_false_eq_true, Int.natCast_eq_zero, Nat.add_one_ne_zero, *])
local macro_rules | `(tactic| walk_at "wb") => `(tactic| simp only [W_bind, W_map])

abbrev Sg := List Int × List Int
abbrev sSg (d : Sg) : S := .tup [iS d.1, iS d.2]
abbrev sSgs (t : List Sg) : S := .tup (t.map sSg)
def Sok (m : Nat) (t : List Sg) : Prop := t.length ≤ 64 ∧ ∀ d ∈ t, Dok (.g m) d.1 ∧ Dok (.g m) d.2
/-- place and sign of a key -/
def plF (m w : Nat) (d : Sg) (key : Int) : Int := valF (.g m) d.1 key % w
def siF (m : Nat) (d : Sg) (key : Int) : Int := sgF m d.2 key
theorem splaces_ok {m w : Nat} (hF : Fok (.g m)) (hw : 0 < w) {k : Nat} (hk : 5 ≤ k) {t : List Sg} (ht : Sok m t) (key : Int) (μ : Sto) : callK tb gl k Ix.signed_places [sSgs t, .int m, .int w, .int key] μ = some (.new (.lst (t.map fun d => .tup [.int (plF m w d key), .int (siF m d key)])), μ) := by
  obtain ⟨k, rfl, hj⟩ := at1 hk
  have hw' : (0 : Int) < w := by omega
  have hU : ∀ n, S.unds n (t.map fun d => S.tup [.int (plF m w d key), .int (siF m d key)]) = true := fun n => unds_map fun _ => rfl
  have C := lc_map (gs := []) (body := lbd (callK tb gl k) gl (.tup (.cons (.bin .mod (.call Ix.value_of false (.cons (.var 4) (.cons (.var 5) (.cons (.var 3) .nil)))) (.var 2)) (.cons (.call Ix.sign_of false (.cons (.var 4) (.cons (.var 6) (.cons (.var 3) .nil)))) .nil))) [5, 6] (.tp [(.nm 5), (.nm 6)]) (.k (.bl true)) [some (sSgs t), some (.int m), some (.int w), some (.int key), some (.tup [.int 2, .int m]), none, none]) (μ := μ) sSg (fun d => .tup [.int (plF m w d key), .int (siF m d key)]) rfl t (fun d hd => by
      obtain ⟨e, _⟩ := value_ok hF (k := k) (by omega) (ht.2 d hd).1 key μ
      have e2 := sign_ok hF hj (ht.2 d hd).2 key μ
      simp only [sF] at e
      simp only [lbd_at]
      walk_at "dvh"
      rfl) [] (by have := ht.1; simp only [List.length_nil, Nat.zero_add, LINE]; omega)
  rw [call_at' (b := b_signed_places) rfl rfl]
  simp only [b_signed_places]
  walk_at "dvh"
theorem siF_le {m : Nat} {d : Sg} {key : Int} : -18446744073709551616 < siF m d key ∧ siF m d key < 18446744073709551616 := by
  unfold siF sgF; split <;> exact ⟨by decide, by decide⟩
theorem signed_ok {m w : Nat} (hF : Fok (.g m)) (hw : 0 < w ∧ w ≤ 64) {k : Nat} (hk : 6 ≤ k) {t : List Sg} (ht : Sok m t) {s : Stm} (hs : s.length < 64) (μ : Sto) : callK tb gl k Ix.signed_counters [sSt s, sSgs t, .int m, .int w] μ = some (.s (sRows (tabR w (plF m w) (siF m) t (cF s))), μ) := by
  obtain ⟨k, rfl, hj⟩ := at1 hk
  have e0 := empty_ok (k := k) (by omega) t.length w (by have := ht.1; omega) (by omega) μ
  have e1 := counts_ok (k := k) (by omega) hs
  let M (s s' : Stm) (pre r : List Sg) : Sto := μ ++ rowsS (tRow w (plF m w) (siF m) s) (tRow w (plF m w) (siF m) s') pre r [.lst (locs μ.length t.length)]
  have inner : ∀ (dn : Stm) (q : Int × Int), forGo [] (fbd (callK tb gl k) gl (.tp [(.nm 7), (.tp [(.nm 8), (.nm 9)])]) (.kl [7, 8, 9] b_signed_counters_l1)) (enumS 0 (t.map fun d => S.tup [.int (plF m w d q.1), .int (siF m d q.1)])) [some (sSt s), some (sSgs t), some (.int m), some (.int w), some (.loc (μ.length + t.length)), some (.int q.1), some (.int q.2), none, none, none] (M dn (dn ++ [q]) [] t) = some (.nx, [some (sSt s), some (sSgs t), some (.int m), some (.int w), some (.loc (μ.length + t.length)), some (.int q.1), some (.int q.2), none, none, none], M dn (dn ++ [q]) t []) := by
    intro dn q
    refine for_enum (gs := []) (f := fun d => S.tup [.int (plF m w d q.1), .int (siF m d q.1)]) (fun _ _ => [some (sSt s), some (sSgs t), some (.int m), some (.int w), some (.loc (μ.length + t.length)), some (.int q.1), some (.int q.2), none, none, none]) (fun pre r => M dn (dn ++ [q]) pre r) (fun _ _ => rfl) ?_
    intro pre d r hall
    have v0 : 0 ≤ plF m w d q.1 := Int.emod_nonneg _ (by omega)
    have v1 : plF m w d q.1 < w := Int.emod_lt_of_pos _ (by omega)
    have hlen : pre.length + (d :: r).length = t.length := by rw [← hall, List.length_append]
    have a1 := locs_at (n := μ.length) (m := t.length) (i := pre.length) (by simp only [List.length_cons] at hlen; omega)
    have a2 := @rowsS_last0 _ (tRow w (plF m w) (siF m) dn) (tRow w (plF m w) (siF m) (dn ++ [q])) pre (d :: r) _ (.lst (locs μ.length t.length)) [] hlen
    have a3 := @rowsS_get _ (tRow w (plF m w) (siF m) dn) (tRow w (plF m w) (siF m) (dn ++ [q])) pre r d [.lst (locs μ.length t.length)]
    have a4 := @rowsS_set _ (tRow w (plF m w) (siF m) dn) (tRow w (plF m w) (siF m) (dn ++ [q])) pre r d [.lst (locs μ.length t.length)]
    have a5 := iRow_at (w := w) (f := plF m w d) (g := siF m d) (s := dn) (k := q.1) v0 v1
    have a6 := iRow_set (w := w) (f := plF m w d) (g := siF m d) (s := dn) (p := q) v0
    have a7 := iRow_ix (w := w) (f := plF m w d) (k := q.1) v0 v1
    have a8 := @iRow_len w (plF m w d) (siF m d) dn
    have a9 := @iop_mulL (siF m d q.1) q.2 siF_le
    rw [Int.mul_comm q.2] at a6
    dsimp only [M]
    simp only [fbd_at]
    walk_at "dvh"
    simp only [b_signed_counters_l1]
    walk_at "dvh"
  have outer := for_row (gs := []) (body := fbd (callK tb gl k) gl (.tp [(.nm 5), (.nm 6)]) (.kl [5, 6, 7, 8, 9] b_signed_counters_l0)) (f := sPr) (all := cF s) (fun _ _ => [some (sSt s), some (sSgs t), some (.int m), some (.int w), some (.loc (μ.length + t.length)), none, none, none, none, none]) (fun pre _ => M pre pre [] t) (fun _ _ => rfl) (fun dn q r hall => by
    have e2 := splaces_ok hF hw.1 hj ht q.1 (M dn dn [] t)
    have i1 := inner dn q
    have i0 : M dn dn [] t = M dn (dn ++ [q]) [] t := by simp [M, rowsS]
    have i2 : M (dn ++ [q]) (dn ++ [q]) [] t = M dn (dn ++ [q]) t [] := by simp [M, rowsS]
    rw [i2]
    rw [← i0] at i1
    clear i0 i2
    simp only [fbd_at]
    walk_at "dvh"
    simp only [b_signed_counters_l0]
    walk_at "dvh")
  have hM0 : M [] [] [] t = μ ++ (List.replicate t.length (iO (List.replicate w 0)) ++ [.lst (locs μ.length t.length)]) := by
    have : t.map (tRow w (plF m w) (siF m) []) = List.replicate t.length (iO (List.replicate w 0)) := by
      apply List.eq_replicate_iff.mpr
      refine ⟨by simp, fun o ho => ?_⟩
      obtain ⟨d, _, rfl⟩ := List.mem_map.mp ho
      simp only [tRow, iRow_nil]
    simp only [M, rowsS, List.map_nil, List.nil_append, this]
  rw [hM0] at outer
  have e3 := frozen_ok (k := k) (by omega) (tabR w (plF m w) (siF m) t (cF s)) (by simp only [tabR, List.length_map]; have := ht.1; omega) (M (cF s) (cF s) [] t) μ.length (fun i hi => by
    simp only [tabR, List.length_map] at hi
    simp only [M, rowsS, List.map_nil, List.nil_append, app_get]
    rw [List.getElem?_append_left (by simpa using hi), List.getElem?_map, List.getElem?_eq_getElem hi]
    simp only [tabR, List.getElem_map, Option.map_some, tRow]) (μ.length + t.length) (by
    simp only [M, app_get, tabR, List.length_map]
    exact rowsS_last0 (by simp))
  have hU := @und_rows
  have hM1 : M (cF s) (cF s) [] t = μ ++ rowsS (tRow w (plF m w) (siF m) (cF s)) (tRow w (plF m w) (siF m) (cF s)) [] t [.lst (locs μ.length t.length)] := rfl
  rw [hM1] at outer e3
  clear hM0 hM1 inner
  rw [call_at' (b := b_signed_counters) rfl rfl]
  simp only [b_signed_counters, s_signed_counters_0, s_signed_counters_1, s_signed_counters_2]
  walk_at "dvh"
end Pg
end
section
set_option Elab.async false
set_option linter.all false
set_option maxRecDepth 100000
set_option maxHeartbeats 4000000
namespace Pg
open Dv
local macro_rules | `(tactic| walk_at "dv") => `(tactic| simp -implicitDefEqProofs only [e_var, e_k, e_gl, e_bin, k_bin1, k_bin2, e_neg, k_neg, e_cmp, k_cmp1, k_cmp2, e_chn, k_chn1, k_chn2, k_chn3, e_and, k_and, e_or, k_or, e_not, k_not, e_tru, k_tru, e_ife, k_ife, e_ix, k_ix1, k_ix2, e_slc, k_sl1, k_sl2, k_sl3, e_tup, e_lst, k_tup, k_lst, e_dnK, e_dnT, e_call, k_call, k_fin, e_bi, k_bi, e_mt, k_mt1, k_mt2, e_app, k_app1, k_app2s, k_app2n, e_isi, k_isi, e_rg1, k_rg1, e_rg2, k_rg2, k_rg2b, e_lc, k_lc, k_lcR, lbd_at, k_ls0, k_ls1, k_ls3s, k_ls3n, s_nil, s_cons, k_cons_s, k_cons_n, k_cons2, d_nil, d_cons, k_consD, k_consD2, i_seq, k_sq, i_rng1, k_r1, i_rng2, k_r2, k_r2b, i_rngD, k_rD, k_rDb, i_enum, k_en, i_zip, k_zp1, k_zp2, i_rev, k_rv, r_skip, r_seq, k_seqN, k_seqR, k_seqB, k_seqC, r_asg, k_asgS, k_asgN, r_asgT, k_asgT, r_asgL, k_asgL, r_par, k_par, r_sub, k_sub1s, k_sub1n, k_sub2, k_sub3, r_aug, k_aug, r_augS, k_augS1, k_augS2, k_augS2b, k_augS3, r_exp, k_exp, r_ret, k_ret, r_retN, r_if, k_if, r_whl, r_fr, k_fr, fbd_at, k_run, r_brk, r_cont, r_gc, k_gcR, k_gcN, k_gcC, k_gcB, r_kl, k_kl, r_kill, r_del, k_del1, k_del2, k_endR, k_endN, fin_s, fin_n, finO_some, fin_loc, zl, rev_map, app_int, set_int, lsO_lst, seqL_loc, seqL_new, seqL_rol, lstOf_loc, lstOf_new, seqOf_tup, seqOf_loc, seqOf_new, seqOf_rol, tupOf_tup, tupOf_loc, tupOf_new, dictOf_new, dictOf_loc, b_any, b_all, lenO_lst, lenO_dK, b_len_tup, b_len_loc, b_len_new, b_len_rol, b_int, b_intB, b_tuple, b_list, b_sum, srtO_lst, srtO_dK, b_sorted_loc, b_sorted_new, b_min2, b_max2, b_abs, v_pop, v_popAt, v_rev, v_bit, v_get1, v_get2, dkO_K, dkO_T, m_pop, popAO_lst, m_popAt, revO_lst, m_rev, m_get1, m_get2, m_bit, dlook_int, popO_int, part_non, part_k, part_v, slc_tup, slc_rol, slc_new, slc_loc, cut_map, und_int, und_bl, und_non, und_str, und_loc, und_tup, und_rol, und_lst, unds_app, und_dK, iop_and, iop_or, iop_xor, setIx_loc, setO_lst, setO_dK, appD_loc, appO_lst, idx_tup, idx_ktu, idx_loc, idx_new, idxO_lst, idxO_dK, pyEq_int, pyEq_bl, c_eq, c_ne, c_lt, c_le, c_gt, c_ge, c_isN, c_notN, isNon_non, isNon_int, isNon_tup, isNon_bl, isNon_loc, tru_int, tru_bl, tru_tup, c_mem, c_nmem, mem_bls, mem_loc, memO_int, mem_tup, ty_nil, ty_cons, ty_int, ty_bl, ty_tup, ty_non, ty_str, grd_loc, grdO_some, grd_tup, grd_new, grd_rol, gOk_one, eT_len, look_eT, put_eT, kInts_eT, Option.bind_some, Option.map_some, Option.isSome_some, get_zero, get_succ, List.map_cons, List.map_nil, List.reduceReplicate, Nat.reduceSub, Nat.reduceAdd, Nat.reduceLeDiff, Nat.reduceLT, Nat.reduceEqDiff, List.append_nil, List.nil_append, List.cons_append, intOf, blOf, bop_int, iop_add, iop_sub, iop_mod, iop_mulR, iop_mulL, iop_fdiv, Int.reduceLT, Int.reduceLE, Int.reduceNeg, fin_f, List.set_cons_zero, List.set_cons_succ, asg, asgs, kill, if_true, if_false, Bool.false_eq_true, app_get0, app_get, app_set0, app_set, app_app, app_take0, app_take, GCok_P, gcP_nil, gcP_cons, gcP_refl, gcP_app, gcP_app_l, gcP_app_r, sigBelow, S.unds, List.take_length, unds_int, false_implies, implies_true, Bool.and_true, Bool.true_and, Bool.and_self, Bool.false_or, Bool.or_false, Bool.true_or, Bool.or_true, Bool.not_true, Bool.not_false, decide_true, decide_false, decide_eq_true_eq, reduceCtorEq, ne_eq, not_true_eq_false, W_bIte, W_if, bindIte, W_some, List.length_cons, List.length_nil, List.length_append, List.length_map, List.length_replicate, List.length_range, List.getElem?_cons_zero, List.getElem?_cons_succ, List.set_nil, List.take_succ_cons, List.take_zero, true_and, and_true, or_true, true_or, eq_self, asInts_map, LINE, Nat.zero_le, Nat.not_lt, Nat.le_add_right, Nat.le_refl, Nat.lt_irrefl, Nat.lt_add_right_iff_pos, Nat.add_lt_add_iff_left, Nat.add_le_add_iff_left, not_false_eq_true, Int.natCast_eq_zero, Nat.add_one_ne_zero])
local macro_rules | `(tactic| walk_at "dvh") => `(tactic| simp -implicitDefEqProofs only [e_var, e_k, e_gl, e_bin, k_bin1, k_bin2, e_neg, k_neg, e_cmp, k_cmp1, k_cmp2, e_chn, k_chn1, k_chn2, k_chn3, e_and, k_and, e_or, k_or, e_not, k_not, e_tru, k_tru, e_ife, k_ife, e_ix, k_ix1, k_ix2, e_slc, k_sl1, k_sl2, k_sl3, e_tup, e_lst, k_tup, k_lst, e_dnK, e_dnT, e_call, k_call, k_fin, e_bi, k_bi, e_mt, k_mt1, k_mt2, e_app, k_app1, k_app2s, k_app2n, e_isi, k_isi, e_rg1, k_rg1, e_rg2, k_rg2, k_rg2b, e_lc, k_lc, k_lcR, lbd_at, k_ls0, k_ls1, k_ls3s, k_ls3n, s_nil, s_cons, k_cons_s, k_cons_n, k_cons2, d_nil, d_cons, k_consD, k_consD2, i_seq, k_sq, i_rng1, k_r1, i_rng2, k_r2, k_r2b, i_rngD, k_rD, k_rDb, i_enum, k_en, i_zip, k_zp1, k_zp2, i_rev, k_rv, r_skip, r_seq, k_seqN, k_seqR, k_seqB, k_seqC, r_asg, k_asgS, k_asgN, r_asgT, k_asgT, r_asgL, k_asgL, r_par, k_par, r_sub, k_sub1s, k_sub1n, k_sub2, k_sub3, r_aug, k_aug, r_augS, k_augS1, k_augS2, k_augS2b, k_augS3, r_exp, k_exp, r_ret, k_ret, r_retN, r_if, k_if, r_whl, r_fr, k_fr, fbd_at, k_run, r_brk, r_cont, r_gc, k_gcR, k_gcN, k_gcC, k_gcB, r_kl, k_kl, r_kill, r_del, k_del1, k_del2, k_endR, k_endN, fin_s, fin_n, finO_some, fin_loc, zl, rev_map, app_int, set_int, lsO_lst, seqL_loc, seqL_new, seqL_rol, lstOf_loc, lstOf_new, seqOf_tup, seqOf_loc, seqOf_new, seqOf_rol, tupOf_tup, tupOf_loc, tupOf_new, dictOf_new, dictOf_loc, b_any, b_all, lenO_lst, lenO_dK, b_len_tup, b_len_loc, b_len_new, b_len_rol, b_int, b_intB, b_tuple, b_list, b_sum, srtO_lst, srtO_dK, b_sorted_loc, b_sorted_new, b_min2, b_max2, b_abs, v_pop, v_popAt, v_rev, v_bit, v_get1, v_get2, dkO_K, dkO_T, m_pop, popAO_lst, m_popAt, revO_lst, m_rev, m_get1, m_get2, m_bit, dlook_int, popO_int, part_non, part_k, part_v, slc_tup, slc_rol, slc_new, slc_loc, cut_map, und_int, und_bl, und_non, und_str, und_loc, und_tup, und_rol, und_lst, unds_app, und_dK, iop_and, iop_or, iop_xor, setIx_loc, setO_lst, setO_dK, appD_loc, appO_lst, idx_tup, idx_ktu, idx_loc, idx_new, idxO_lst, idxO_dK, pyEq_int, pyEq_bl, c_eq, c_ne, c_lt, c_le, c_gt, c_ge, c_isN, c_notN, isNon_non, isNon_int, isNon_tup, isNon_bl, isNon_loc, tru_int, tru_bl, tru_tup, c_mem, c_nmem, mem_bls, mem_loc, memO_int, mem_tup, ty_nil, ty_cons, ty_int, ty_bl, ty_tup, ty_non, ty_str, grd_loc, grdO_some, grd_tup, grd_new, grd_rol, gOk_one, eT_len, look_eT, put_eT, kInts_eT, Option.bind_some, Option.map_some, Option.isSome_some, get_zero, get_succ, List.map_cons, List.map_nil, List.reduceReplicate, Nat.reduceSub, Nat.reduceAdd, Nat.reduceLeDiff, Nat.reduceLT, Nat.reduceEqDiff, List.append_nil, List.nil_append, List.cons_append, intOf, blOf, bop_int, iop_add, iop_sub, iop_mod, iop_mulR, iop_mulL, iop_fdiv, Int.reduceLT, Int.reduceLE, Int.reduceNeg, fin_f, List.set_cons_zero, List.set_cons_succ, asg, asgs, kill, if_true, if_false, Bool.false_eq_true, app_get0, app_get, app_set0, app_set, app_app, app_take0, app_take, GCok_P, gcP_nil, gcP_cons, gcP_refl, gcP_app, gcP_app_l, gcP_app_r, sigBelow, S.unds, List.take_length, unds_int, false_implies, implies_true, Bool.and_true, Bool.true_and, Bool.and_self, Bool.false_or, Bool.or_false, Bool.true_or, Bool.or_true, Bool.not_true, Bool.not_false, decide_true, decide_false, decide_eq_true_eq, reduceCtorEq, ne_eq, not_true_eq_false, W_bIte, W_if, bindIte, W_some, List.length_cons, List.length_nil, List.length_append, List.length_map, List.length_replicate, List.length_range, List.getElem?_cons_zero, List.getElem?_cons_succ, List.set_nil, List.take_succ_cons, List.take_zero, true_and, and_true, or_true, true_or, eq_self, asInts_map, LINE, Nat.zero_le, Nat.not_lt, Nat.le_add_right, Nat.le_refl, Nat.lt_irrefl, Nat.lt_add_right_iff_pos, Nat.add_lt_add_iff_left, Nat.add_le_add_iff_left, not_false_eq_true, Int.natCast_eq_zero, Nat.add_one_ne_zero, *])
local macro_rules | `(tactic| walk_at "wb") => `(tactic| simp only [W_bind, W_map])

def addR (a b : List Int) : List Int := (a.zip b).map fun q => q.1 + q.2
def addRs (A B : List (List Int)) : List (List Int) := (A.zip B).map fun p => addR p.1 p.2
def Small (A : List (List Int)) : Prop := A.length ≤ 1000 ∧ ∀ a ∈ A, a.length ≤ 1000
theorem joined_ok {k : Nat} (hk : 1 ≤ k) {A B : List (List Int)} (hA : Small A) (μ : Sto) : callK tb gl k Ix.joined_rows [sRows A, sRows B] μ = some (.s (sRows (addRs A B)), μ) := by
  obtain ⟨k, rfl, hj⟩ := at1 hk
  have C := lc_map (gs := []) (body := lbd (callK tb gl k) gl (.bi .tuple (.cons (.lc (.bin .add (.var 4) (.var 5)) [4, 5] (.tp [(.nm 4), (.nm 5)]) (.zip (.var 2) (.var 3)) (.k (.bl true))) .nil)) [2, 3] (.tp [(.nm 2), (.nm 3)]) (.k (.bl true)) [some (sRows A), some (sRows B), none, none, none, none]) (μ := μ) (fun p : List Int × List Int => .tup [iS p.1, iS p.2]) (fun p => iS (addR p.1 p.2)) rfl (A.zip B) (fun p hp => by
      have hp1 := hA.2 p.1 (List.of_mem_zip hp).1
      have C := lc_map (gs := []) (body := lbd (callK tb gl k) gl (.bin .add (.var 4) (.var 5)) [4, 5] (.tp [(.nm 4), (.nm 5)]) (.k (.bl true)) [some (sRows A), some (sRows B), some (iS p.1), some (iS p.2), none, none]) (μ := μ) (fun q : Int × Int => .tup [.int q.1, .int q.2]) (fun q => .int (q.1 + q.2)) rfl (p.1.zip p.2) (fun q hq => by
        simp only [lbd_at]
        walk_at "dvh") [] (by simp only [List.length_nil, List.length_zip, LINE]; omega)
      have hz := @zipS_map _ _ S.int S.int p.1 p.2
      have hr : (addR p.1 p.2).map S.int = (p.1.zip p.2).map fun q => .int (q.1 + q.2) := by simp [addR, Function.comp_def]
      rw [← hr] at C
      clear hr
      simp only [lbd_at]
      walk_at "dvh") [] (by have := hA.1; simp only [List.length_nil, List.length_zip, LINE]; omega)
  have hz := @zipS_map _ _ iS iS A B
  have hr : (addRs A B).map iS = (A.zip B).map fun p => iS (addR p.1 p.2) := by simp [addRs, Function.comp_def]
  rw [← hr] at C
  have hU := @und_rows
  clear hr
  rw [call_at' (b := b_joined_rows) rfl rfl]
  simp only [b_joined_rows]
  walk_at "dvh"
/-! ### the law's own sum of rows -/
def Alike (A B : List (List Int)) : Prop := A.map List.length = B.map List.length
theorem sumrows_ok {k : Nat} (hk : 1 ≤ k) {A B : List (List Int)} (hA : Small A) (hB : Alike A B) (μ : Sto) : callK tb gl k Ix.law_sum_rows [sRows A, sRows B] μ = some (.s (sRows (addRs A B)), μ) := by
  obtain ⟨k, rfl, hj⟩ := at1 hk
  have hl : A.length = B.length := by have := congrArg List.length hB; simpa using this
  have hb : b62 (A.length : Int) = true := by have := hA.1; simp only [b62, Bool.and_eq_true, decide_eq_true_eq]; omega
  have hAB : (addRs A B).length = A.length := by simp [addRs, hl]
  have Lp := for_rng (gs := []) (body := fbd (callK tb gl k) gl (.nm 3) (.kl [3] b_law_sum_rows_l0)) (fun _ => [some (sRows A), some (sRows B), some (.loc μ.length), none, none]) (fun i => μ ++ [.lst (((addRs A B).take i).map iS)]) A.length (fun _ => rfl) (fun i hi => by
    have hi2 : i < B.length := by omega
    have e1 : L2.atI (A.map iS) (i : Int) = some (iS A[i]) := by apply L2.atI_nat; simp [hi]
    have e2 : L2.atI (B.map iS) (i : Int) = some (iS B[i]) := by apply L2.atI_nat; simp [hi2]
    have hlen : A[i].length = B[i].length := by
      have h1 : (A.map List.length)[i]? = (B.map List.length)[i]? := by rw [hB]
      simpa [hi, hi2] using h1
    have hs := hA.2 A[i] (List.getElem_mem hi)
    have hb2 : b62 (A[i].length : Int) = true := by simp only [b62, Bool.and_eq_true, decide_eq_true_eq]; omega
    have C := lc_rng (gs := []) (body := lbd (callK tb gl k) gl (.bin .add (.ix (.ix (.var 0) (.var 3)) (.var 4)) (.ix (.ix (.var 1) (.var 3)) (.var 4))) [4] (.nm 4) (.k (.bl true)) [some (sRows A), some (sRows B), some (.loc μ.length), some (.int i), none]) (fun j => .int ((A[i].getD j 0) + (B[i].getD j 0))) (fun _ => μ ++ [.lst (((addRs A B).take i).map iS)]) A[i].length (by simp only [LINE]; omega) (fun _ => rfl) (fun j hj => by
      have hj2 : j < B[i].length := by omega
      have f1 : L2.atI (A[i].map S.int) (j : Int) = some (.int (A[i].getD j 0)) := by apply L2.atI_nat; simp [hj]
      have f2 : L2.atI (B[i].map S.int) (j : Int) = some (.int (B[i].getD j 0)) := by apply L2.atI_nat; simp [hj2]
      simp only [lbd_at]
      walk_at "dvh")
    have hr : (List.range A[i].length).map (fun j => S.int ((A[i].getD j 0) + (B[i].getD j 0))) = (addR A[i] B[i]).map S.int := by
      apply List.ext_getElem
      · simp [addR, hlen]
      · intro j h1 h2
        simp only [List.length_map, List.length_range] at h1
        have : j < B[i].length := by omega
        simp [addR, h1, this]
    rw [hr] at C
    have ht : ((addRs A B).take (i + 1)).map iS = ((addRs A B).take i).map iS ++ [iS (addR A[i] B[i])] := by
      have hi3 : i < (addRs A B).length := by omega
      rw [List.take_succ_eq_append_getElem hi3, List.map_append]
      simp [addRs]
    have hL : ((addRs A B).take i).length < 16777216 := by have := hA.1; simp only [List.length_take]; omega
    have e5 : ((A[i].length : Int).toNat) = A[i].length := Int.toNat_natCast _
    clear hr hB hlen hl
    simp only [fbd_at]
    walk_at "dvh"
    simp only [b_law_sum_rows_l0]
    walk_at "dvh")
  have hU := @und_rows
  have e6 : ((A.length : Int).toNat) = A.length := Int.toNat_natCast _
  have hT : (addRs A B).take A.length = addRs A B := by rw [← hAB]; exact List.take_length
  rw [hT] at Lp
  simp only [List.take_zero, List.map_nil] at Lp
  clear hB hl
  rw [call_at' (b := b_law_sum_rows) rfl rfl]
  simp only [b_law_sum_rows, s_law_sum_rows_0, s_law_sum_rows_1, s_law_sum_rows_2]
  walk_at "dvh"
end Pg
end
section
set_option Elab.async false
set_option linter.all false
set_option maxRecDepth 100000
set_option maxHeartbeats 4000000
namespace Pg
open Dv
local macro_rules | `(tactic| walk_at "dv") => `(tactic| simp -implicitDefEqProofs only [e_var, e_k, e_gl, e_bin, k_bin1, k_bin2, e_neg, k_neg, e_cmp, k_cmp1, k_cmp2, e_chn, k_chn1, k_chn2, k_chn3, e_and, k_and, e_or, k_or, e_not, k_not, e_tru, k_tru, e_ife, k_ife, e_ix, k_ix1, k_ix2, e_slc, k_sl1, k_sl2, k_sl3, e_tup, e_lst, k_tup, k_lst, e_dnK, e_dnT, e_call, k_call, k_fin, e_bi, k_bi, e_mt, k_mt1, k_mt2, e_app, k_app1, k_app2s, k_app2n, e_isi, k_isi, e_rg1, k_rg1, e_rg2, k_rg2, k_rg2b, e_lc, k_lc, k_lcR, lbd_at, k_ls0, k_ls1, k_ls3s, k_ls3n, s_nil, s_cons, k_cons_s, k_cons_n, k_cons2, d_nil, d_cons, k_consD, k_consD2, i_seq, k_sq, i_rng1, k_r1, i_rng2, k_r2, k_r2b, i_rngD, k_rD, k_rDb, i_enum, k_en, i_zip, k_zp1, k_zp2, i_rev, k_rv, r_skip, r_seq, k_seqN, k_seqR, k_seqB, k_seqC, r_asg, k_asgS, k_asgN, r_asgT, k_asgT, r_asgL, k_asgL, r_par, k_par, r_sub, k_sub1s, k_sub1n, k_sub2, k_sub3, r_aug, k_aug, r_augS, k_augS1, k_augS2, k_augS2b, k_augS3, r_exp, k_exp, r_ret, k_ret, r_retN, r_if, k_if, r_whl, r_fr, k_fr, fbd_at, k_run, r_brk, r_cont, r_gc, k_gcR, k_gcN, k_gcC, k_gcB, r_kl, k_kl, r_kill, r_del, k_del1, k_del2, k_endR, k_endN, fin_s, fin_n, finO_some, fin_loc, zl, rev_map, app_int, set_int, lsO_lst, seqL_loc, seqL_new, seqL_rol, lstOf_loc, lstOf_new, seqOf_tup, seqOf_loc, seqOf_new, seqOf_rol, tupOf_tup, tupOf_loc, tupOf_new, dictOf_new, dictOf_loc, b_any, b_all, lenO_lst, lenO_dK, b_len_tup, b_len_loc, b_len_new, b_len_rol, b_int, b_intB, b_tuple, b_list, b_sum, srtO_lst, srtO_dK, b_sorted_loc, b_sorted_new, b_min2, b_max2, b_abs, v_pop, v_popAt, v_rev, v_bit, v_get1, v_get2, dkO_K, dkO_T, m_pop, popAO_lst, m_popAt, revO_lst, m_rev, m_get1, m_get2, m_bit, dlook_int, popO_int, part_non, part_k, part_v, slc_tup, slc_rol, slc_new, slc_loc, cut_map, und_int, und_bl, und_non, und_str, und_loc, und_tup, und_rol, und_lst, unds_app, und_dK, iop_and, iop_or, iop_xor, setIx_loc, setO_lst, setO_dK, appD_loc, appO_lst, idx_tup, idx_ktu, idx_loc, idx_new, idxO_lst, idxO_dK, pyEq_int, pyEq_bl, c_eq, c_ne, c_lt, c_le, c_gt, c_ge, c_isN, c_notN, isNon_non, isNon_int, isNon_tup, isNon_bl, isNon_loc, tru_int, tru_bl, tru_tup, c_mem, c_nmem, mem_bls, mem_loc, memO_int, mem_tup, ty_nil, ty_cons, ty_int, ty_bl, ty_tup, ty_non, ty_str, grd_loc, grdO_some, grd_tup, grd_new, grd_rol, gOk_one, eT_len, look_eT, put_eT, kInts_eT, Option.bind_some, Option.map_some, Option.isSome_some, get_zero, get_succ, List.map_cons, List.map_nil, List.reduceReplicate, Nat.reduceSub, Nat.reduceAdd, Nat.reduceLeDiff, Nat.reduceLT, Nat.reduceEqDiff, List.append_nil, List.nil_append, List.cons_append, intOf, blOf, bop_int, iop_add, iop_sub, iop_mod, iop_mulR, iop_mulL, iop_fdiv, Int.reduceLT, Int.reduceLE, Int.reduceNeg, fin_f, List.set_cons_zero, List.set_cons_succ, asg, asgs, kill, if_true, if_false, Bool.false_eq_true, app_get0, app_get, app_set0, app_set, app_app, app_take0, app_take, GCok_P, gcP_nil, gcP_cons, gcP_refl, gcP_app, gcP_app_l, gcP_app_r, sigBelow, S.unds, List.take_length, unds_int, false_implies, implies_true, Bool.and_true, Bool.true_and, Bool.and_self, Bool.false_or, Bool.or_false, Bool.true_or, Bool.or_true, Bool.not_true, Bool.not_false, decide_true, decide_false, decide_eq_true_eq, reduceCtorEq, ne_eq, not_true_eq_false, W_bIte, W_if, bindIte, W_some, List.length_cons, List.length_nil, List.length_append, List.length_map, List.length_replicate, List.length_range, List.getElem?_cons_zero, List.getElem?_cons_succ, List.set_nil, List.take_succ_cons, List.take_zero, true_and, and_true, or_true, true_or, eq_self, asInts_map, LINE, Nat.zero_le, Nat.not_lt, Nat.le_add_right, Nat.le_refl, Nat.lt_irrefl, Nat.lt_add_right_iff_pos, Nat.add_lt_add_iff_left, Nat.add_le_add_iff_left, not_false_eq_true, Int.natCast_eq_zero, Nat.add_one_ne_zero])
local macro_rules | `(tactic| walk_at "dvh") => `(tactic| simp -implicitDefEqProofs only [e_var, e_k, e_gl, e_bin, k_bin1, k_bin2, e_neg, k_neg, e_cmp, k_cmp1, k_cmp2, e_chn, k_chn1, k_chn2, k_chn3, e_and, k_and, e_or, k_or, e_not, k_not, e_tru, k_tru, e_ife, k_ife, e_ix, k_ix1, k_ix2, e_slc, k_sl1, k_sl2, k_sl3, e_tup, e_lst, k_tup, k_lst, e_dnK, e_dnT, e_call, k_call, k_fin, e_bi, k_bi, e_mt, k_mt1, k_mt2, e_app, k_app1, k_app2s, k_app2n, e_isi, k_isi, e_rg1, k_rg1, e_rg2, k_rg2, k_rg2b, e_lc, k_lc, k_lcR, lbd_at, k_ls0, k_ls1, k_ls3s, k_ls3n, s_nil, s_cons, k_cons_s, k_cons_n, k_cons2, d_nil, d_cons, k_consD, k_consD2, i_seq, k_sq, i_rng1, k_r1, i_rng2, k_r2, k_r2b, i_rngD, k_rD, k_rDb, i_enum, k_en, i_zip, k_zp1, k_zp2, i_rev, k_rv, r_skip, r_seq, k_seqN, k_seqR, k_seqB, k_seqC, r_asg, k_asgS, k_asgN, r_asgT, k_asgT, r_asgL, k_asgL, r_par, k_par, r_sub, k_sub1s, k_sub1n, k_sub2, k_sub3, r_aug, k_aug, r_augS, k_augS1, k_augS2, k_augS2b, k_augS3, r_exp, k_exp, r_ret, k_ret, r_retN, r_if, k_if, r_whl, r_fr, k_fr, fbd_at, k_run, r_brk, r_cont, r_gc, k_gcR, k_gcN, k_gcC, k_gcB, r_kl, k_kl, r_kill, r_del, k_del1, k_del2, k_endR, k_endN, fin_s, fin_n, finO_some, fin_loc, zl, rev_map, app_int, set_int, lsO_lst, seqL_loc, seqL_new, seqL_rol, lstOf_loc, lstOf_new, seqOf_tup, seqOf_loc, seqOf_new, seqOf_rol, tupOf_tup, tupOf_loc, tupOf_new, dictOf_new, dictOf_loc, b_any, b_all, lenO_lst, lenO_dK, b_len_tup, b_len_loc, b_len_new, b_len_rol, b_int, b_intB, b_tuple, b_list, b_sum, srtO_lst, srtO_dK, b_sorted_loc, b_sorted_new, b_min2, b_max2, b_abs, v_pop, v_popAt, v_rev, v_bit, v_get1, v_get2, dkO_K, dkO_T, m_pop, popAO_lst, m_popAt, revO_lst, m_rev, m_get1, m_get2, m_bit, dlook_int, popO_int, part_non, part_k, part_v, slc_tup, slc_rol, slc_new, slc_loc, cut_map, und_int, und_bl, und_non, und_str, und_loc, und_tup, und_rol, und_lst, unds_app, und_dK, iop_and, iop_or, iop_xor, setIx_loc, setO_lst, setO_dK, appD_loc, appO_lst, idx_tup, idx_ktu, idx_loc, idx_new, idxO_lst, idxO_dK, pyEq_int, pyEq_bl, c_eq, c_ne, c_lt, c_le, c_gt, c_ge, c_isN, c_notN, isNon_non, isNon_int, isNon_tup, isNon_bl, isNon_loc, tru_int, tru_bl, tru_tup, c_mem, c_nmem, mem_bls, mem_loc, memO_int, mem_tup, ty_nil, ty_cons, ty_int, ty_bl, ty_tup, ty_non, ty_str, grd_loc, grdO_some, grd_tup, grd_new, grd_rol, gOk_one, eT_len, look_eT, put_eT, kInts_eT, Option.bind_some, Option.map_some, Option.isSome_some, get_zero, get_succ, List.map_cons, List.map_nil, List.reduceReplicate, Nat.reduceSub, Nat.reduceAdd, Nat.reduceLeDiff, Nat.reduceLT, Nat.reduceEqDiff, List.append_nil, List.nil_append, List.cons_append, intOf, blOf, bop_int, iop_add, iop_sub, iop_mod, iop_mulR, iop_mulL, iop_fdiv, Int.reduceLT, Int.reduceLE, Int.reduceNeg, fin_f, List.set_cons_zero, List.set_cons_succ, asg, asgs, kill, if_true, if_false, Bool.false_eq_true, app_get0, app_get, app_set0, app_set, app_app, app_take0, app_take, GCok_P, gcP_nil, gcP_cons, gcP_refl, gcP_app, gcP_app_l, gcP_app_r, sigBelow, S.unds, List.take_length, unds_int, false_implies, implies_true, Bool.and_true, Bool.true_and, Bool.and_self, Bool.false_or, Bool.or_false, Bool.true_or, Bool.or_true, Bool.not_true, Bool.not_false, decide_true, decide_false, decide_eq_true_eq, reduceCtorEq, ne_eq, not_true_eq_false, W_bIte, W_if, bindIte, W_some, List.length_cons, List.length_nil, List.length_append, List.length_map, List.length_replicate, List.length_range, List.getElem?_cons_zero, List.getElem?_cons_succ, List.set_nil, List.take_succ_cons, List.take_zero, true_and, and_true, or_true, true_or, eq_self, asInts_map, LINE, Nat.zero_le, Nat.not_lt, Nat.le_add_right, Nat.le_refl, Nat.lt_irrefl, Nat.lt_add_right_iff_pos, Nat.add_lt_add_iff_left, Nat.add_le_add_iff_left, not_false_eq_true, Int.natCast_eq_zero, Nat.add_one_ne_zero, *])
local macro_rules | `(tactic| walk_at "wb") => `(tactic| simp only [W_bind, W_map])

/-! ### levels -/
theorem L_add {φ ψ χ : Int → Int} {s : Stm} (h : ∀ k, φ k + ψ k = χ k) : L φ s + L ψ s = L χ s := by
  induction s with
  | nil => rfl
  | cons p r ih => rw [L_cons, L_cons, L_cons, ← ih, ← h, Int.mul_add]; omega
theorem L_sub {φ ψ χ : Int → Int} {s : Stm} (h : ∀ k, φ k - ψ k = χ k) : L φ s - L ψ s = L χ s := by
  induction s with
  | nil => rfl
  | cons p r ih => rw [L_cons, L_cons, L_cons, ← ih, ← h, Int.mul_sub]; omega
/-- the blocks of 2^i keys -/
def lvF (i : Nat) (k : Int) : Int := k / 2 ^ i
def lv (m i : Nat) (s : Stm) : List Int := iRow (2 ^ (m - i)) (lvF i) (fun _ => 1) s
theorem lvF_succ (i : Nat) (k : Int) : lvF (i + 1) k = lvF i k / 2 := by
  unfold lvF
  rw [Int.pow_succ, Int.ediv_ediv_of_nonneg]
  exact Int.le_of_lt (Int.pow_pos (by decide))
theorem lv_at {m i j : Nat} {s : Stm} (h : j < 2 ^ (m - i)) : L2.atI ((lv m i s).map S.int) (j : Int) = some (.int (L (ind (lvF i) (fun _ => 1) j) s)) := by
  apply L2.atI_nat
  simp [lv, iRow, h]
theorem lv_add {i j : Nat} {s : Stm} : L (ind (lvF i) (fun _ => 1) (2 * j)) s + L (ind (lvF i) (fun _ => 1) (2 * j + 1)) s = L (ind (lvF (i + 1)) (fun _ => 1) j) s := by
  apply L_add
  intro k
  have := lvF_succ i k
  simp only [ind]
  split <;> split <;> split <;> omega
theorem lv_len {m i : Nat} {s : Stm} : (lv m i s).length = 2 ^ (m - i) := iRow_len
/-- a stream of keys below w -/
def Kb (w : Nat) (s : Stm) : Prop := ∀ p ∈ s, 0 ≤ p.1 ∧ p.1 < w
theorem cD_keys : ∀ (s : Stm) (t : List (Int × Int)) (x : Int), x ∈ (s.foldl (fun t p => put t p.1 (lk0 t p.1 + p.2)) t).map (·.1) → x ∈ t.map (·.1) ∨ x ∈ s.map (·.1)
  | [], t, x, h => .inl h
  | p :: r, t, x, h => by
    rcases cD_keys r _ x h with h | h
    · rw [put_keys] at h
      split at h
      · exact .inl h
      · rcases List.mem_append.mp h with h | h
        · exact .inl h
        · simp only [List.mem_singleton] at h
          exact .inr (by simp [h])
    · exact .inr (by simp only [List.map_cons, List.mem_cons]; exact .inr h)
theorem cF_keys {s : Stm} {p : Int × Int} (h : p ∈ cF s) : p.1 ∈ s.map (·.1) := by
  unfold cF at h
  obtain ⟨k, hk, rfl⟩ := List.mem_map.mp h
  have hk := mergeI_mem.mp (List.mem_filter.mp hk).1
  rcases cD_keys s [] k hk with h | h
  · simp at h
  · exact h
theorem Kb_cF {w : Nat} {s : Stm} (h : Kb w s) : Kb w (cF s) := fun p hp => by
  obtain ⟨q, hq, e⟩ := List.mem_map.mp (cF_keys hp)
  rw [← e]; exact h q hq
theorem level_ok {k : Nat} (hk : 2 ≤ k) {m : Nat} (hm : m ≤ 10) {s : Stm} (hs : s.length < 64) (hb : Kb (2 ^ m) s) (μ : Sto) : callK tb gl k Ix.level_counters [sSt s, .int m] μ = some (.s (sRows ((List.range (m + 1)).map fun i => lv m i (cF s))), μ) := by
  obtain ⟨k, rfl, hj⟩ := at1 hk
  have hkb := Kb_cF hb
  have hpw : (2 : Nat) ^ m ≤ 1024 := Nat.pow_le_pow_right (by decide) hm (n := 2)
  have e1 := counts_ok (k := k) (by omega) hs
  have esh : iop .shl 1 (m : Int) = some ((2 ^ m : Nat) : Int) := by
    rw [iop_shl (by omega)]
    congr 1
    simp
  have erep := fun (μ : Sto) => @bop_rep μ (.int 0) ((2 ^ m : Nat) : Int) ⟨Int.natCast_nonneg _, by have : ((2 ^ m : Nat) : Int) ≤ ((1024 : Nat) : Int) := Int.ofNat_le.mpr hpw; exact Int.le_trans this (by decide)⟩
  have e5 : (((2 ^ m : Nat) : Int).toNat) = 2 ^ m := Int.toNat_natCast _
  have e5b : List.replicate (2 ^ m) (S.int 0) = (lv m 0 []).map S.int := by
    rw [lv, iRow_nil]; simp
  rw [e5, e5b] at erep
  have l1 := for_row (gs := []) (body := fbd (callK tb gl k) gl (.tp [(.nm 3), (.nm 4)]) (.kl [3, 4] b_level_counters_l0)) (f := sPr) (all := cF s) (fun _ _ => [some (sSt s), some (.int m), some (.loc μ.length), none, none, none, none, none]) (fun pre _ => μ ++ [iO (lv m 0 pre)]) (fun _ _ => rfl) (fun dn q r hall => by
    have hq := hkb q (by rw [← hall]; simp)
    have f0 : lvF 0 q.1 = q.1 := by simp [lvF]
    have a5 := iRow_at (w := 2 ^ (m - 0)) (f := lvF 0) (g := fun _ => 1) (s := dn) (k := q.1) (by omega) (by rw [f0, Nat.sub_zero]; exact hq.2)
    have a6 := iRow_set (w := 2 ^ (m - 0)) (f := lvF 0) (g := fun _ => 1) (s := dn) (p := q) (by omega)
    have a7 := iRow_ix (w := 2 ^ (m - 0)) (f := lvF 0) (k := q.1) (by omega) (by rw [f0, Nat.sub_zero]; exact hq.2)
    have a8 := @iRow_len (2 ^ (m - 0)) (lvF 0) (fun _ => 1) dn
    rw [Int.mul_one] at a6
    rw [f0] at a5 a6 a7
    simp only [lv]
    simp only [fbd_at]
    clear e5 e5b erep esh
    walk_at "dvh"
    simp only [b_level_counters_l0]
    walk_at "dvh")
  let vr (i : Nat) : Nat := if i = 0 then 0 else i + 1
  have l2 := for_rng (gs := []) (body := fbd (callK tb gl k) gl (.nm 6) (.kl [6] b_level_counters_l1)) (fun i => [some (sSt s), some (.int m), some (.loc (μ.length + vr i)), none, none, some (.loc (μ.length + 1)), none, none]) (fun i => μ ++ (iO (lv m 0 (cF s)) :: .lst (((List.range (i + 1)).map fun i => lv m i (cF s)).map iS) :: (List.range i).map fun j => iO (lv m (j + 1) (cF s)))) m (fun _ => rfl) (fun i hi => by
    have f0 : i + 1 ≤ m := hi
    have hvr : (iO (lv m 0 (cF s)) :: Ob.lst (((List.range (i + 1)).map fun i => lv m i (cF s)).map iS) :: (List.range i).map fun j => iO (lv m (j + 1) (cF s)))[vr i]? = some (iO (lv m i (cF s))) := by
      cases i with
      | zero => rfl
      | succ i => simp [vr]
    have hvr1 : vr (i + 1) = i + 1 + 1 := by simp [vr]
    have epw : 2 ^ (m - i) = 2 * 2 ^ (m - (i + 1)) := by rw [show m - i = (m - (i + 1)) + 1 from by omega, Nat.pow_succ, Nat.mul_comm]
    have ple : 2 ^ (m - (i + 1)) ≤ 1024 := Nat.le_trans (Nat.pow_le_pow_right (by decide) (by omega)) hpw
    have efd : iop .fdiv ((2 ^ (m - i) : Nat) : Int) 2 = some ((2 ^ (m - (i + 1)) : Nat) : Int) := by
      rw [iop_fdiv (by decide) (by decide)]
      congr 1
      omega
    have hb62 : b62 ((2 ^ (m - (i + 1)) : Nat) : Int) = true := by simp only [b62, Bool.and_eq_true, decide_eq_true_eq]; omega
    have e7 : (((2 ^ (m - (i + 1)) : Nat) : Int).toNat) = 2 ^ (m - (i + 1)) := Int.toNat_natCast _
    have hll := @lv_len m i (cF s)
    have C := lc_rng (gs := []) (body := lbd (callK tb gl k) gl (.bin .add (.ix (.var 2) (.bin .mul (.k (.int 2)) (.var 7))) (.ix (.var 2) (.bin .add (.bin .mul (.k (.int 2)) (.var 7)) (.k (.int 1))))) [7] (.nm 7) (.k (.bl true)) [some (sSt s), some (.int m), some (.loc (μ.length + vr i)), none, none, some (.loc (μ.length + 1)), some (.int i), none]) (fun j => .int (L (ind (lvF (i + 1)) (fun _ => 1) j) (cF s))) (fun _ => μ ++ (iO (lv m 0 (cF s)) :: .lst (((List.range (i + 1)).map fun i => lv m i (cF s)).map iS) :: (List.range i).map fun j => iO (lv m (j + 1) (cF s)))) (2 ^ (m - (i + 1))) (by simp only [LINE]; omega) (fun _ => rfl) (fun j hj => by
      have g1 : L2.atI ((lv m i (cF s)).map S.int) (2 * (j : Int)) = some (.int (L (ind (lvF i) (fun _ => 1) (2 * j)) (cF s))) := by
        rw [show 2 * (j : Int) = ((2 * j : Nat) : Int) from by omega]; exact lv_at (by omega)
      have g2 : L2.atI ((lv m i (cF s)).map S.int) (2 * (j : Int) + 1) = some (.int (L (ind (lvF i) (fun _ => 1) (2 * j + 1)) (cF s))) := by
        rw [show 2 * (j : Int) + 1 = ((2 * j + 1 : Nat) : Int) from by omega]; exact lv_at (by omega)
      have g3 := @lv_add i j (cF s)
      simp only [lbd_at]
      clear epw e5b erep esh e7 efd
      walk_at "dvh")
    have hr : (List.range (2 ^ (m - (i + 1)))).map (fun j => S.int (L (ind (lvF (i + 1)) (fun _ => 1) j) (cF s))) = (lv m (i + 1) (cF s)).map .int := by simp [lv, iRow, Function.comp_def]
    rw [hr] at C
    have hX : (((List.range i).map fun j => iO (lv m (j + 1) (cF s))) ++ [iO (lv m (i + 1) (cF s))])[i]? = some (iO (lv m (i + 1) (cF s))) := by
      rw [List.getElem?_append_right (by simp)]; simp
    have n1 : ((List.range (i + 1 + 1)).map fun i => lv m i (cF s)).map iS = ((List.range (i + 1)).map fun i => lv m i (cF s)).map iS ++ [iS (lv m (i + 1) (cF s))] := by
      rw [List.range_succ, List.map_append, List.map_append]; rfl
    have n2 : ((List.range (i + 1)).map fun j => iO (lv m (j + 1) (cF s))) = ((List.range i).map fun j => iO (lv m (j + 1) (cF s))) ++ [iO (lv m (i + 1) (cF s))] := by
      rw [List.range_succ, List.map_append]; rfl
    have hL : i + 1 < 16777216 := by omega
    rw [n1, n2]
    clear n1 n2 hr epw e5b erep esh
    simp only [fbd_at]
    walk_at "dvh"
    simp only [b_level_counters_l1]
    walk_at "dvh")
  have z0 : vr 0 = 0 := rfl
  have z1 : ((List.range (0 + 1)).map fun i => lv m i (cF s)).map iS = [iS (lv m 0 (cF s))] := rfl
  have z2 : ((List.range 0).map fun j => iO (lv m (j + 1) (cF s))) = [] := rfl
  rw [z0, z1, z2, Nat.add_zero] at l2
  have hU := @und_rows
  have em : ((m : Int).toNat) = m := Int.toNat_natCast _
  have hbm : b62 (m : Int) = true := by simp only [b62, Bool.and_eq_true, decide_eq_true_eq]; omega
  clear z0 z1 z2 e5b e5 hpw
  rw [call_at' (b := b_level_counters) rfl rfl]
  simp only [b_level_counters, s_level_counters_0, s_level_counters_1, s_level_counters_2, s_level_counters_3, s_level_counters_4]
  walk_at "dvh"
/-! ### differences -/
def sgn2 (i : Nat) (k : Int) : Int := if lvF i k % 2 = 0 then 1 else -1
def dfr (m i : Nat) (s : Stm) : List Int := iRow (2 ^ (m - (i + 1))) (lvF (i + 1)) (sgn2 i) s
theorem lv_sub {i j : Nat} {s : Stm} : L (ind (lvF i) (fun _ => 1) (2 * j)) s - L (ind (lvF i) (fun _ => 1) (2 * j + 1)) s = L (ind (lvF (i + 1)) (sgn2 i) j) s := by
  apply L_sub
  intro k
  have := lvF_succ i k
  simp only [ind, sgn2]
  split <;> split <;> split <;> (try split) <;> omega
theorem diff_ok {k : Nat} (hk : 3 ≤ k) {m : Nat} (hm : m ≤ 10) {s : Stm} (hs : s.length < 64) (hb : Kb (2 ^ m) s) (μ : Sto) : callK tb gl k Ix.differences [sSt s, .int m] μ = some (.s (.tup [.int (L (ind (lvF m) (fun _ => 1) 0) (cF s)), sRows ((List.range m).map fun i => dfr m i (cF s))]), μ) := by
  obtain ⟨k, rfl, hj⟩ := at1 hk
  have e1 := level_ok hj hm hs hb
  have hpw : (2 : Nat) ^ m ≤ 1024 := Nat.pow_le_pow_right (by decide) hm (n := 2)
  let T : S := sRows ((List.range (m + 1)).map fun i => lv m i (cF s))
  have hTat : ∀ i, i ≤ m → L2.atI (((List.range (m + 1)).map fun i => lv m i (cF s)).map iS) (i : Int) = some (iS (lv m i (cF s))) := fun i hi => by
    apply L2.atI_nat
    rw [List.getElem?_map, List.getElem?_map, List.getElem?_range (by omega)]; rfl
  have hU := @und_rows
  have l2 := for_range (gs := []) (body := fbd (callK tb gl k) gl (.nm 4) (.kl [4, 5] b_differences_l0)) (fun i => S.int ((i : Int) + 1)) (fun i => [some (sSt s), some (.int m), some (sRows ((List.range (m + 1)).map fun i => lv m i (cF s))), some (.loc μ.length), none, none, none]) (fun i => μ ++ [.lst (((List.range i).map fun i => dfr m i (cF s)).map iS)]) m (fun _ => rfl) (fun i hi => by
    have f0 : i + 1 ≤ m := hi
    have t1 := hTat i (by omega)
    have epw : 2 ^ (m - i) = 2 * 2 ^ (m - (i + 1)) := by rw [show m - i = (m - (i + 1)) + 1 from by omega, Nat.pow_succ, Nat.mul_comm]
    have ple : 2 ^ (m - (i + 1)) ≤ 1024 := Nat.le_trans (Nat.pow_le_pow_right (by decide) (by omega)) hpw
    have efd : iop .fdiv ((2 ^ (m - i) : Nat) : Int) 2 = some ((2 ^ (m - (i + 1)) : Nat) : Int) := by
      rw [iop_fdiv (by decide) (by decide)]
      congr 1
      omega
    have hb62 : b62 ((2 ^ (m - (i + 1)) : Nat) : Int) = true := by simp only [b62, Bool.and_eq_true, decide_eq_true_eq]; omega
    have e7 : (((2 ^ (m - (i + 1)) : Nat) : Int).toNat) = 2 ^ (m - (i + 1)) := Int.toNat_natCast _
    have hll := @lv_len m i (cF s)
    have C := lc_rng (gs := []) (body := lbd (callK tb gl k) gl (.bin .sub (.ix (.var 5) (.bin .mul (.k (.int 2)) (.var 6))) (.ix (.var 5) (.bin .add (.bin .mul (.k (.int 2)) (.var 6)) (.k (.int 1))))) [6] (.nm 6) (.k (.bl true)) [some (sSt s), some (.int m), some (sRows ((List.range (m + 1)).map fun i => lv m i (cF s))), some (.loc μ.length), some (.int ((i : Int) + 1)), some (iS (lv m i (cF s))), none]) (fun j => .int (L (ind (lvF (i + 1)) (sgn2 i) j) (cF s))) (fun _ => μ ++ [.lst (((List.range i).map fun i => dfr m i (cF s)).map iS)]) (2 ^ (m - (i + 1))) (by simp only [LINE]; omega) (fun _ => rfl) (fun j hj => by
      have g1 : L2.atI ((lv m i (cF s)).map S.int) (2 * (j : Int)) = some (.int (L (ind (lvF i) (fun _ => 1) (2 * j)) (cF s))) := by
        rw [show 2 * (j : Int) = ((2 * j : Nat) : Int) from by omega]; exact lv_at (by omega)
      have g2 : L2.atI ((lv m i (cF s)).map S.int) (2 * (j : Int) + 1) = some (.int (L (ind (lvF i) (fun _ => 1) (2 * j + 1)) (cF s))) := by
        rw [show 2 * (j : Int) + 1 = ((2 * j + 1 : Nat) : Int) from by omega]; exact lv_at (by omega)
      have g3 := @lv_sub i j (cF s)
      simp only [lbd_at]
      clear epw e7 efd t1 hTat
      walk_at "dvh")
    have hr : (List.range (2 ^ (m - (i + 1)))).map (fun j => S.int (L (ind (lvF (i + 1)) (sgn2 i) j) (cF s))) = (dfr m i (cF s)).map .int := by simp [dfr, iRow, Function.comp_def]
    rw [hr] at C
    have n1 : ((List.range (i + 1)).map fun i => dfr m i (cF s)).map iS = ((List.range i).map fun i => dfr m i (cF s)).map iS ++ [iS (dfr m i (cF s))] := by
      rw [List.range_succ, List.map_append, List.map_append]; rfl
    have hL : i < 16777216 := by omega
    have i1 : (i : Int) + 1 - 1 = i := by omega
    rw [n1]
    clear n1 hr epw hTat
    simp only [fbd_at]
    walk_at "dvh"
    simp only [b_differences_l0]
    walk_at "dvh")
  have z1 : ((List.range 0).map fun i => dfr m i (cF s)).map iS = [] := rfl
  rw [z1] at l2
  have em : ((m : Int) + 1 - 1).toNat = m := by omega
  have hbm : (b62 1 && b62 ((m : Int) + 1)) = true := by simp only [b62, Bool.and_eq_true, decide_eq_true_eq]; omega
  have tm := hTat m (Nat.le_refl _)
  have t0 : L2.atI ((lv m m (cF s)).map S.int) 0 = some (.int (L (ind (lvF m) (fun _ => 1) 0) (cF s))) := lv_at (by simp)
  have hro := rngI_one m
  clear hTat z1 hpw
  rw [call_at' (b := b_differences) rfl rfl]
  simp only [b_differences, s_differences_0, s_differences_1, s_differences_2, s_differences_3]
  walk_at "dvh"
end Pg
end
section
set_option Elab.async false
set_option linter.all false
set_option maxRecDepth 100000
set_option maxHeartbeats 4000000
namespace Pg
open Dv
local macro_rules | `(tactic| walk_at "dv") => `(tactic| simp -implicitDefEqProofs only [e_var, e_k, e_gl, e_bin, k_bin1, k_bin2, e_neg, k_neg, e_cmp, k_cmp1, k_cmp2, e_chn, k_chn1, k_chn2, k_chn3, e_and, k_and, e_or, k_or, e_not, k_not, e_tru, k_tru, e_ife, k_ife, e_ix, k_ix1, k_ix2, e_slc, k_sl1, k_sl2, k_sl3, e_tup, e_lst, k_tup, k_lst, e_dnK, e_dnT, e_call, k_call, k_fin, e_bi, k_bi, e_mt, k_mt1, k_mt2, e_app, k_app1, k_app2s, k_app2n, e_isi, k_isi, e_rg1, k_rg1, e_rg2, k_rg2, k_rg2b, e_lc, k_lc, k_lcR, lbd_at, k_ls0, k_ls1, k_ls3s, k_ls3n, s_nil, s_cons, k_cons_s, k_cons_n, k_cons2, d_nil, d_cons, k_consD, k_consD2, i_seq, k_sq, i_rng1, k_r1, i_rng2, k_r2, k_r2b, i_rngD, k_rD, k_rDb, i_enum, k_en, i_zip, k_zp1, k_zp2, i_rev, k_rv, r_skip, r_seq, k_seqN, k_seqR, k_seqB, k_seqC, r_asg, k_asgS, k_asgN, r_asgT, k_asgT, r_asgL, k_asgL, r_par, k_par, r_sub, k_sub1s, k_sub1n, k_sub2, k_sub3, r_aug, k_aug, r_augS, k_augS1, k_augS2, k_augS2b, k_augS3, r_exp, k_exp, r_ret, k_ret, r_retN, r_if, k_if, r_whl, r_fr, k_fr, fbd_at, k_run, r_brk, r_cont, r_gc, k_gcR, k_gcN, k_gcC, k_gcB, r_kl, k_kl, r_kill, r_del, k_del1, k_del2, k_endR, k_endN, fin_s, fin_n, finO_some, fin_loc, zl, rev_map, app_int, set_int, lsO_lst, seqL_loc, seqL_new, seqL_rol, lstOf_loc, lstOf_new, seqOf_tup, seqOf_loc, seqOf_new, seqOf_rol, tupOf_tup, tupOf_loc, tupOf_new, dictOf_new, dictOf_loc, b_any, b_all, lenO_lst, lenO_dK, b_len_tup, b_len_loc, b_len_new, b_len_rol, b_int, b_intB, b_tuple, b_list, b_sum, srtO_lst, srtO_dK, b_sorted_loc, b_sorted_new, b_min2, b_max2, b_abs, v_pop, v_popAt, v_rev, v_bit, v_get1, v_get2, dkO_K, dkO_T, m_pop, popAO_lst, m_popAt, revO_lst, m_rev, m_get1, m_get2, m_bit, dlook_int, popO_int, part_non, part_k, part_v, slc_tup, slc_rol, slc_new, slc_loc, cut_map, und_int, und_bl, und_non, und_str, und_loc, und_tup, und_rol, und_lst, unds_app, und_dK, iop_and, iop_or, iop_xor, setIx_loc, setO_lst, setO_dK, appD_loc, appO_lst, idx_tup, idx_ktu, idx_loc, idx_new, idxO_lst, idxO_dK, pyEq_int, pyEq_bl, c_eq, c_ne, c_lt, c_le, c_gt, c_ge, c_isN, c_notN, isNon_non, isNon_int, isNon_tup, isNon_bl, isNon_loc, tru_int, tru_bl, tru_tup, c_mem, c_nmem, mem_bls, mem_loc, memO_int, mem_tup, ty_nil, ty_cons, ty_int, ty_bl, ty_tup, ty_non, ty_str, grd_loc, grdO_some, grd_tup, grd_new, grd_rol, gOk_one, eT_len, look_eT, put_eT, kInts_eT, Option.bind_some, Option.map_some, Option.isSome_some, get_zero, get_succ, List.map_cons, List.map_nil, List.reduceReplicate, Nat.reduceSub, Nat.reduceAdd, Nat.reduceLeDiff, Nat.reduceLT, Nat.reduceEqDiff, List.append_nil, List.nil_append, List.cons_append, intOf, blOf, bop_int, iop_add, iop_sub, iop_mod, iop_mulR, iop_mulL, iop_fdiv, Int.reduceLT, Int.reduceLE, Int.reduceNeg, fin_f, List.set_cons_zero, List.set_cons_succ, asg, asgs, kill, if_true, if_false, Bool.false_eq_true, app_get0, app_get, app_set0, app_set, app_app, app_take0, app_take, GCok_P, gcP_nil, gcP_cons, gcP_refl, gcP_app, gcP_app_l, gcP_app_r, sigBelow, S.unds, List.take_length, unds_int, false_implies, implies_true, Bool.and_true, Bool.true_and, Bool.and_self, Bool.false_or, Bool.or_false, Bool.true_or, Bool.or_true, Bool.not_true, Bool.not_false, decide_true, decide_false, decide_eq_true_eq, reduceCtorEq, ne_eq, not_true_eq_false, W_bIte, W_if, bindIte, W_some, List.length_cons, List.length_nil, List.length_append, List.length_map, List.length_replicate, List.length_range, List.getElem?_cons_zero, List.getElem?_cons_succ, List.set_nil, List.take_succ_cons, List.take_zero, true_and, and_true, or_true, true_or, eq_self, asInts_map, LINE, Nat.zero_le, Nat.not_lt, Nat.le_add_right, Nat.le_refl, Nat.lt_irrefl, Nat.lt_add_right_iff_pos, Nat.add_lt_add_iff_left, Nat.add_le_add_iff_left, not_false_eq_true, Int.natCast_eq_zero, Nat.add_one_ne_zero])
local macro_rules | `(tactic| walk_at "dvh") => `(tactic| simp -implicitDefEqProofs only [e_var, e_k, e_gl, e_bin, k_bin1, k_bin2, e_neg, k_neg, e_cmp, k_cmp1, k_cmp2, e_chn, k_chn1, k_chn2, k_chn3, e_and, k_and, e_or, k_or, e_not, k_not, e_tru, k_tru, e_ife, k_ife, e_ix, k_ix1, k_ix2, e_slc, k_sl1, k_sl2, k_sl3, e_tup, e_lst, k_tup, k_lst, e_dnK, e_dnT, e_call, k_call, k_fin, e_bi, k_bi, e_mt, k_mt1, k_mt2, e_app, k_app1, k_app2s, k_app2n, e_isi, k_isi, e_rg1, k_rg1, e_rg2, k_rg2, k_rg2b, e_lc, k_lc, k_lcR, lbd_at, k_ls0, k_ls1, k_ls3s, k_ls3n, s_nil, s_cons, k_cons_s, k_cons_n, k_cons2, d_nil, d_cons, k_consD, k_consD2, i_seq, k_sq, i_rng1, k_r1, i_rng2, k_r2, k_r2b, i_rngD, k_rD, k_rDb, i_enum, k_en, i_zip, k_zp1, k_zp2, i_rev, k_rv, r_skip, r_seq, k_seqN, k_seqR, k_seqB, k_seqC, r_asg, k_asgS, k_asgN, r_asgT, k_asgT, r_asgL, k_asgL, r_par, k_par, r_sub, k_sub1s, k_sub1n, k_sub2, k_sub3, r_aug, k_aug, r_augS, k_augS1, k_augS2, k_augS2b, k_augS3, r_exp, k_exp, r_ret, k_ret, r_retN, r_if, k_if, r_whl, r_fr, k_fr, fbd_at, k_run, r_brk, r_cont, r_gc, k_gcR, k_gcN, k_gcC, k_gcB, r_kl, k_kl, r_kill, r_del, k_del1, k_del2, k_endR, k_endN, fin_s, fin_n, finO_some, fin_loc, zl, rev_map, app_int, set_int, lsO_lst, seqL_loc, seqL_new, seqL_rol, lstOf_loc, lstOf_new, seqOf_tup, seqOf_loc, seqOf_new, seqOf_rol, tupOf_tup, tupOf_loc, tupOf_new, dictOf_new, dictOf_loc, b_any, b_all, lenO_lst, lenO_dK, b_len_tup, b_len_loc, b_len_new, b_len_rol, b_int, b_intB, b_tuple, b_list, b_sum, srtO_lst, srtO_dK, b_sorted_loc, b_sorted_new, b_min2, b_max2, b_abs, v_pop, v_popAt, v_rev, v_bit, v_get1, v_get2, dkO_K, dkO_T, m_pop, popAO_lst, m_popAt, revO_lst, m_rev, m_get1, m_get2, m_bit, dlook_int, popO_int, part_non, part_k, part_v, slc_tup, slc_rol, slc_new, slc_loc, cut_map, und_int, und_bl, und_non, und_str, und_loc, und_tup, und_rol, und_lst, unds_app, und_dK, iop_and, iop_or, iop_xor, setIx_loc, setO_lst, setO_dK, appD_loc, appO_lst, idx_tup, idx_ktu, idx_loc, idx_new, idxO_lst, idxO_dK, pyEq_int, pyEq_bl, c_eq, c_ne, c_lt, c_le, c_gt, c_ge, c_isN, c_notN, isNon_non, isNon_int, isNon_tup, isNon_bl, isNon_loc, tru_int, tru_bl, tru_tup, c_mem, c_nmem, mem_bls, mem_loc, memO_int, mem_tup, ty_nil, ty_cons, ty_int, ty_bl, ty_tup, ty_non, ty_str, grd_loc, grdO_some, grd_tup, grd_new, grd_rol, gOk_one, eT_len, look_eT, put_eT, kInts_eT, Option.bind_some, Option.map_some, Option.isSome_some, get_zero, get_succ, List.map_cons, List.map_nil, List.reduceReplicate, Nat.reduceSub, Nat.reduceAdd, Nat.reduceLeDiff, Nat.reduceLT, Nat.reduceEqDiff, List.append_nil, List.nil_append, List.cons_append, intOf, blOf, bop_int, iop_add, iop_sub, iop_mod, iop_mulR, iop_mulL, iop_fdiv, Int.reduceLT, Int.reduceLE, Int.reduceNeg, fin_f, List.set_cons_zero, List.set_cons_succ, asg, asgs, kill, if_true, if_false, Bool.false_eq_true, app_get0, app_get, app_set0, app_set, app_app, app_take0, app_take, GCok_P, gcP_nil, gcP_cons, gcP_refl, gcP_app, gcP_app_l, gcP_app_r, sigBelow, S.unds, List.take_length, unds_int, false_implies, implies_true, Bool.and_true, Bool.true_and, Bool.and_self, Bool.false_or, Bool.or_false, Bool.true_or, Bool.or_true, Bool.not_true, Bool.not_false, decide_true, decide_false, decide_eq_true_eq, reduceCtorEq, ne_eq, not_true_eq_false, W_bIte, W_if, bindIte, W_some, List.length_cons, List.length_nil, List.length_append, List.length_map, List.length_replicate, List.length_range, List.getElem?_cons_zero, List.getElem?_cons_succ, List.set_nil, List.take_succ_cons, List.take_zero, true_and, and_true, or_true, true_or, eq_self, asInts_map, LINE, Nat.zero_le, Nat.not_lt, Nat.le_add_right, Nat.le_refl, Nat.lt_irrefl, Nat.lt_add_right_iff_pos, Nat.add_lt_add_iff_left, Nat.add_le_add_iff_left, not_false_eq_true, Int.natCast_eq_zero, Nat.add_one_ne_zero, *])
local macro_rules | `(tactic| walk_at "wb") => `(tactic| simp only [W_bind, W_map])

/-! ### the Walsh turn -/
def wstep (j : Nat) (r : List Int) : List Int := (List.range r.length).map fun x => if x &&& 2 ^ j = 0 then r.getD x 0 + r.getD (x + 2 ^ j) 0 else r.getD (x - 2 ^ j) 0 - r.getD x 0
def wst : Nat → List Int → List Int
  | 0, r => r
  | j + 1, r => wstep j (wst j r)
theorem wstep_len {j : Nat} {r : List Int} : (wstep j r).length = r.length := by simp [wstep]
theorem wst_len {r : List Int} : ∀ {j : Nat}, (wst j r).length = r.length
  | 0 => rfl
  | j + 1 => by rw [wst, wstep_len, wst_len]
theorem addR_len {a b : List Int} (h : a.length = b.length) : (addR a b).length = a.length := by simp [addR, h]
theorem addR_getD {a b : List Int} (h : a.length = b.length) (x : Nat) : (addR a b).getD x 0 = a.getD x 0 + b.getD x 0 := by
  by_cases hx : x < a.length
  · have : x < b.length := by omega
    have hz : x < (a.zip b).length := by simp; omega
    simp [addR, List.getElem?_eq_getElem hz, hx, this]
  · have : ¬ x < b.length := by omega
    simp only [List.getD_eq_getElem?_getD]
    rw [List.getElem?_eq_none (by rw [addR_len h]; omega), List.getElem?_eq_none (by omega), List.getElem?_eq_none (by omega)]
    rfl
theorem wstep_add {j : Nat} {a b : List Int} (h : a.length = b.length) : wstep j (addR a b) = addR (wstep j a) (wstep j b) := by
  apply List.ext_getElem
  · rw [wstep_len, addR_len h, addR_len (by rw [wstep_len, wstep_len, h]), wstep_len]
  · intro x h1 h2
    rw [wstep_len, addR_len h] at h1
    have h3 : x < b.length := by omega
    simp only [wstep, addR, List.getElem_map, List.getElem_range, List.getElem_zip]
    have e := addR_getD h
    simp only [addR] at e
    rw [e, e, e]
    split <;> omega
theorem wst_add {a b : List Int} (h : a.length = b.length) : ∀ {j : Nat}, wst j (addR a b) = addR (wst j a) (wst j b)
  | 0 => rfl
  | j + 1 => by rw [wst, wst_add h, wstep_add (by rw [wst_len, wst_len, h])]; rfl
theorem wbits {m : Nat} (hm : m ≤ 4) {i : Nat} (hi : i < m) {x : Nat} (hx : x < 2 ^ m) : (x &&& 2 ^ i = 0 → x + 2 ^ i < 2 ^ m) ∧ (¬ x &&& 2 ^ i = 0 → 2 ^ i ≤ x) := by
  have h : ((List.range 5).all fun m => (List.range m).all fun i => (List.range (2 ^ m)).all fun x => if x &&& 2 ^ i = 0 then decide (x + 2 ^ i < 2 ^ m) else decide (2 ^ i ≤ x)) = true := by decide
  have h1 := List.all_eq_true.mp h m (List.mem_range.mpr (by omega))
  have h2 := List.all_eq_true.mp h1 i (List.mem_range.mpr hi)
  have h3 := List.all_eq_true.mp h2 x (List.mem_range.mpr hx)
  by_cases c : x &&& 2 ^ i = 0
  · rw [if_pos c] at h3
    exact ⟨fun _ => of_decide_eq_true h3, fun n => absurd c n⟩
  · rw [if_neg c] at h3
    exact ⟨fun n => absurd n c, fun _ => of_decide_eq_true h3⟩
theorem turned_ok {k : Nat} (hk : 1 ≤ k) {m : Nat} (hm : m ≤ 4) {r : List Int} (hr : r.length = 2 ^ m) (μ : Sto) (a : Nat) (ha : μ[a]? = some (iO r)) : callK tb gl k Ix.turned [.loc a] μ = some (.new (iO (wst m r)), μ) := by
  obtain ⟨k, rfl, hj⟩ := at1 hk
  have hpw : (2 : Nat) ^ m ≤ 16 := Nat.pow_le_pow_right (by decide) hm (n := 2)
  let M (i : Nat) : Sto := μ ++ (List.range (i + 1)).map fun j => iO (wst j r)
  have hM : ∀ i, (M i)[μ.length + i]? = some (iO (wst i r)) := fun i => by
    simp only [M, app_get]
    rw [List.getElem?_map, List.getElem?_range (by omega)]; rfl
  have l := while_go (c := evE (callK tb gl k) gl (.cmp .lt (.var 2) (.bi .len (.cons (.var 1) .nil)))) (b := run (callK tb gl k) gl b_turned_l0) (fun i => [some (.loc a), some (.loc (μ.length + i)), some (.int ((2 ^ i : Nat) : Int)), none]) M m (fun i hi => by
    have hMi := hM i
    have hlen := @wst_len r i
    have hlt : ((2 ^ i : Nat) : Int) < ((2 ^ m : Nat) : Int) := by
      have := Nat.pow_lt_pow_right (a := 2) (by decide) hi
      exact_mod_cast this
    refine ⟨?_, ?_⟩
    · walk_at "dvh"
    · have C := lc_rng (gs := []) (body := lbd (callK tb gl k) gl (.ife (.cmp .eq (.bin .band (.var 3) (.var 2)) (.k (.int 0))) (.bin .add (.ix (.var 1) (.var 3)) (.ix (.var 1) (.bin .add (.var 3) (.var 2)))) (.bin .sub (.ix (.var 1) (.bin .sub (.var 3) (.var 2))) (.ix (.var 1) (.var 3)))) [3] (.nm 3) (.k (.bl true)) [some (.loc a), some (.loc (μ.length + i)), some (.int ((2 ^ i : Nat) : Int)), none]) (fun x => .int (if x &&& 2 ^ i = 0 then (wst i r).getD x 0 + (wst i r).getD (x + 2 ^ i) 0 else (wst i r).getD (x - 2 ^ i) 0 - (wst i r).getD x 0)) (fun _ => M i) (2 ^ m) (by simp only [LINE]; omega) (fun _ => rfl) (fun x hx => by
        obtain ⟨w1, w2⟩ := wbits hm hi hx
        have hl2 : (wst i r).length = 2 ^ m := by rw [hlen, hr]
        have f1 : L2.atI ((wst i r).map S.int) (x : Int) = some (.int ((wst i r).getD x 0)) := by
          have : x < (wst i r).length := by omega
          apply L2.atI_nat; simp [this]
        have hba : PySem.Builtin.bitAnd (x : Int) ((2 ^ i : Nat) : Int) = ((x &&& 2 ^ i : Nat) : Int) := by exact PySem.W.os_band _ _
        by_cases c : x &&& 2 ^ i = 0
        · have c1 := w1 c
          have f2 : L2.atI ((wst i r).map S.int) ((x : Int) + ((2 ^ i : Nat) : Int)) = some (.int ((wst i r).getD (x + 2 ^ i) 0)) := by
            rw [show (x : Int) + ((2 ^ i : Nat) : Int) = ((x + 2 ^ i : Nat) : Int) from by simp]
            have : x + 2 ^ i < (wst i r).length := by omega
            apply L2.atI_nat; simp [this]
          rw [if_pos c]
          simp only [lbd_at]
          clear w1 w2 hl2 hlen hr
          walk_at "dvh"
        · have c1 := w2 c
          have f2 : L2.atI ((wst i r).map S.int) ((x : Int) - ((2 ^ i : Nat) : Int)) = some (.int ((wst i r).getD (x - 2 ^ i) 0)) := by
            rw [show (x : Int) - ((2 ^ i : Nat) : Int) = ((x - 2 ^ i : Nat) : Int) from by omega]
            have : x - 2 ^ i < (wst i r).length := Nat.lt_of_le_of_lt (Nat.sub_le _ _) (by omega)
            apply L2.atI_nat; simp [this]
          rw [if_neg c]
          simp only [lbd_at]
          clear w1 w2 hl2 hlen hr
          walk_at "dvh")
      have hw : (List.range (2 ^ m)).map (fun x => S.int (if x &&& 2 ^ i = 0 then (wst i r).getD x 0 + (wst i r).getD (x + 2 ^ i) 0 else (wst i r).getD (x - 2 ^ i) 0 - (wst i r).getD x 0)) = (wst (i + 1) r).map .int := by
        simp only [wst, wstep, List.map_map, hlen, hr]; rfl
      rw [hw] at C
      have hMn : M (i + 1) = M i ++ [iO (wst (i + 1) r)] := by
        simp only [M]; rw [List.range_succ (n := i + 1), List.map_append, ← List.append_assoc]; rfl
      have hMl : (M i).length = μ.length + (i + 1) := by simp [M]
      have hb : b62 ((2 ^ m : Nat) : Int) = true := by simp only [b62, Bool.and_eq_true, decide_eq_true_eq]; omega
      have e7 : (((2 ^ m : Nat) : Int).toNat) = 2 ^ m := Int.toNat_natCast _
      have e8 : 2 * ((2 ^ i : Nat) : Int) = ((2 ^ (i + 1) : Nat) : Int) := by rw [Nat.pow_succ]; omega
      rw [hMn]
      clear hw hMn
      simp only [b_turned_l0]
      walk_at "dvh") (by
    have hMi := hM m
    have hlen := @wst_len r m
    have hlt : ¬ ((2 ^ m : Nat) : Int) < ((2 ^ m : Nat) : Int) := by omega
    walk_at "dvh") m 0 (by omega)
  have h0 : M 0 = μ ++ [iO r] := rfl
  have hMm := hM m
  have hg : gcP μ.length μ (M m) := by simp only [M, gcP_app_l]
  have ht : (M m).take μ.length = μ := by simp only [M, app_take0]
  have hn : ¬ μ.length + m < μ.length := by omega
  rw [h0] at l
  rw [call_at' (b := b_turned) rfl rfl]
  simp only [b_turned, s_turned_0, s_turned_1, s_turned_2, s_turned_3]
  have p0 : ((2 ^ 0 : Nat) : Int) = 1 := rfl
  rw [p0, Nat.add_zero] at l
  clear hM h0 p0 hr
  walk_at "dvh"
/-! ### each key of the counts once -/
theorem cD_nodup : ∀ (s : Stm) (t : List (Int × Int)), (t.map (·.1)).Nodup → ((s.foldl (fun t p => put t p.1 (lk0 t p.1 + p.2)) t).map (·.1)).Nodup
  | [], t, h => h
  | p :: r, t, h => by
    refine cD_nodup r _ ?_
    rw [put_keys]
    split
    · exact h
    · rename_i hn
      exact List.nodup_append.mpr ⟨h, by simp, fun a ha b hb e => hn (by simp only [List.mem_singleton] at hb; rw [← hb, ← e]; exact ha)⟩
theorem cF_nodup (s : Stm) : ((cF s).map (·.1)).Nodup := by
  have h := cD_nodup s [] List.nodup_nil
  unfold cF
  rw [List.map_map]
  have : ((fun x : Int × Int => x.1) ∘ fun k => (k, lk0 (cD s) k)) = id := rfl
  rw [this, List.map_id]
  exact ((mergeI_perm _).nodup_iff.mpr h).filter _
theorem L_out {j : Nat} {f g : Int → Int} {s : Stm} (h : ∀ p ∈ s, ¬ f p.1 = (j : Int)) : L (ind f g j) s = 0 := by
  induction s with
  | nil => rfl
  | cons p r ih =>
    rw [L_cons, ih fun q hq => h q (by simp [hq])]
    have := h p (by simp)
    simp only [ind, if_neg this]
    omega
theorem walsh_ok {k : Nat} (hk : 2 ≤ k) {m : Nat} (hm : m ≤ 4) {s : Stm} (hs : s.length < 64) (hb : Kb (2 ^ m) s) (μ : Sto) : callK tb gl k Ix.walsh_numbers [sSt s, .int m] μ = some (.s (sRow (wst m (lv m 0 (cF s)))), μ) := by
  obtain ⟨k, rfl, hj⟩ := at1 hk
  have hkb := Kb_cF hb
  have hpw : (2 : Nat) ^ m ≤ 16 := Nat.pow_le_pow_right (by decide) hm (n := 2)
  have e1 := counts_ok (k := k) (by omega) hs
  have esh : iop .shl 1 (m : Int) = some ((2 ^ m : Nat) : Int) := by
    rw [iop_shl (by omega)]
    congr 1
    simp
  have erep := fun (μ : Sto) => @bop_rep μ (.int 0) ((2 ^ m : Nat) : Int) ⟨Int.natCast_nonneg _, by have : ((2 ^ m : Nat) : Int) ≤ ((16 : Nat) : Int) := Int.ofNat_le.mpr hpw; exact Int.le_trans this (by decide)⟩
  have e5 : (((2 ^ m : Nat) : Int).toNat) = 2 ^ m := Int.toNat_natCast _
  have e5b : List.replicate (2 ^ m) (S.int 0) = (lv m 0 []).map S.int := by
    rw [lv, iRow_nil]; simp
  rw [e5, e5b] at erep
  have l1 := for_row (gs := []) (body := fbd (callK tb gl k) gl (.tp [(.nm 3), (.nm 4)]) (.kl [3, 4] b_walsh_numbers_l0)) (f := sPr) (all := cF s) (fun _ _ => [some (sSt s), some (.int m), some (.loc μ.length), none, none]) (fun pre _ => μ ++ [iO (lv m 0 pre)]) (fun _ _ => rfl) (fun dn q r hall => by
    have hq := hkb q (by rw [← hall]; simp)
    have f0 : lvF 0 q.1 = q.1 := by simp [lvF]
    have hnd := cF_nodup s
    rw [← hall, List.map_append, List.map_cons] at hnd
    have hout : ∀ p ∈ dn, ¬ lvF 0 p.1 = ((q.1.toNat : Nat) : Int) := fun p hp e => by
      have hx : p.1 = q.1 := by simp only [lvF] at e; omega
      have := (List.nodup_append.mp hnd).2.2 p.1 (List.mem_map_of_mem hp) q.1 (by simp)
      exact this hx
    have a6 := iRow_set (w := 2 ^ (m - 0)) (f := lvF 0) (g := fun _ => 1) (s := dn) (p := q) (by omega)
    have a7 := iRow_ix (w := 2 ^ (m - 0)) (f := lvF 0) (k := q.1) (by omega) (by rw [f0, Nat.sub_zero]; exact hq.2)
    have a8 := @iRow_len (2 ^ (m - 0)) (lvF 0) (fun _ => 1) dn
    have a9 : iAt (lvF 0) (fun _ => 1) dn q.1 = 0 := by unfold iAt; rw [f0]; exact L_out hout
    rw [Int.mul_one, a9, Int.zero_add] at a6
    rw [f0] at a6 a7
    simp only [lv]
    simp only [fbd_at]
    clear e5 e5b erep esh hout hnd
    walk_at "dvh"
    simp only [b_walsh_numbers_l0]
    walk_at "dvh")
  have et := turned_ok hj hm (r := lv m 0 (cF s)) (by rw [lv_len, Nat.sub_zero]) (μ ++ [iO (lv m 0 (cF s))]) μ.length (by simp)
  clear e5b e5 hpw
  rw [call_at' (b := b_walsh_numbers) rfl rfl]
  simp only [b_walsh_numbers, s_walsh_numbers_0, s_walsh_numbers_1, s_walsh_numbers_2]
  walk_at "dvh"
/-! ### the law's own -/
theorem size_ok {k : Nat} (hk : 1 ≤ k) {s : Stm} (hs : s.length < 64) (μ : Sto) : callK tb gl k Ix.law_size [sSt s] μ = some (.s (.int (L (fun _ => 1) s)), μ) := by
  obtain ⟨k, rfl, hj⟩ := at1 hk
  have C := lc_map (gs := []) (body := lbd (callK tb gl k) gl (.ix (.var 1) (.k (.int 1))) [1] (.nm 1) (.k (.bl true)) [some (sSt s), none]) (μ := μ) sPr (fun p => .int p.2) rfl s (fun p hp => by
    have e : L2.atI [S.int p.1, .int p.2] 1 = some (.int p.2) := rfl
    simp only [lbd_at]
    walk_at "dvh") [] (by simp only [List.length_nil, Nat.zero_add, LINE]; omega)
  have hm : s.map (fun p => S.int p.2) = (s.map (·.2)).map .int := by simp
  rw [hm] at C
  have hL : L (fun _ => 1) s = (s.map (·.2)).sum := by simp [L]
  rw [hL]
  clear hm hL
  rw [call_at' (b := b_law_size) rfl rfl]
  simp only [b_law_size]
  walk_at "dvh"
end Pg
end
section
set_option Elab.async false
set_option linter.all false
set_option maxRecDepth 100000
set_option maxHeartbeats 4000000
namespace Pg
open Dv
local macro_rules | `(tactic| walk_at "dv") => `(tactic| simp -implicitDefEqProofs only [e_var, e_k, e_gl, e_bin, k_bin1, k_bin2, e_neg, k_neg, e_cmp, k_cmp1, k_cmp2, e_chn, k_chn1, k_chn2, k_chn3, e_and, k_and, e_or, k_or, e_not, k_not, e_tru, k_tru, e_ife, k_ife, e_ix, k_ix1, k_ix2, e_slc, k_sl1, k_sl2, k_sl3, e_tup, e_lst, k_tup, k_lst, e_dnK, e_dnT, e_call, k_call, k_fin, e_bi, k_bi, e_mt, k_mt1, k_mt2, e_app, k_app1, k_app2s, k_app2n, e_isi, k_isi, e_rg1, k_rg1, e_rg2, k_rg2, k_rg2b, e_lc, k_lc, k_lcR, lbd_at, k_ls0, k_ls1, k_ls3s, k_ls3n, s_nil, s_cons, k_cons_s, k_cons_n, k_cons2, d_nil, d_cons, k_consD, k_consD2, i_seq, k_sq, i_rng1, k_r1, i_rng2, k_r2, k_r2b, i_rngD, k_rD, k_rDb, i_enum, k_en, i_zip, k_zp1, k_zp2, i_rev, k_rv, r_skip, r_seq, k_seqN, k_seqR, k_seqB, k_seqC, r_asg, k_asgS, k_asgN, r_asgT, k_asgT, r_asgL, k_asgL, r_par, k_par, r_sub, k_sub1s, k_sub1n, k_sub2, k_sub3, r_aug, k_aug, r_augS, k_augS1, k_augS2, k_augS2b, k_augS3, r_exp, k_exp, r_ret, k_ret, r_retN, r_if, k_if, r_whl, r_fr, k_fr, fbd_at, k_run, r_brk, r_cont, r_gc, k_gcR, k_gcN, k_gcC, k_gcB, r_kl, k_kl, r_kill, r_del, k_del1, k_del2, k_endR, k_endN, fin_s, fin_n, finO_some, fin_loc, zl, rev_map, app_int, set_int, lsO_lst, seqL_loc, seqL_new, seqL_rol, lstOf_loc, lstOf_new, seqOf_tup, seqOf_loc, seqOf_new, seqOf_rol, tupOf_tup, tupOf_loc, tupOf_new, dictOf_new, dictOf_loc, b_any, b_all, lenO_lst, lenO_dK, b_len_tup, b_len_loc, b_len_new, b_len_rol, b_int, b_intB, b_tuple, b_list, b_sum, srtO_lst, srtO_dK, b_sorted_loc, b_sorted_new, b_min2, b_max2, b_abs, v_pop, v_popAt, v_rev, v_bit, v_get1, v_get2, dkO_K, dkO_T, m_pop, popAO_lst, m_popAt, revO_lst, m_rev, m_get1, m_get2, m_bit, dlook_int, popO_int, part_non, part_k, part_v, slc_tup, slc_rol, slc_new, slc_loc, cut_map, und_int, und_bl, und_non, und_str, und_loc, und_tup, und_rol, und_lst, unds_app, und_dK, iop_and, iop_or, iop_xor, setIx_loc, setO_lst, setO_dK, appD_loc, appO_lst, idx_tup, idx_ktu, idx_loc, idx_new, idxO_lst, idxO_dK, pyEq_int, pyEq_bl, c_eq, c_ne, c_lt, c_le, c_gt, c_ge, c_isN, c_notN, isNon_non, isNon_int, isNon_tup, isNon_bl, isNon_loc, tru_int, tru_bl, tru_tup, c_mem, c_nmem, mem_bls, mem_loc, memO_int, mem_tup, ty_nil, ty_cons, ty_int, ty_bl, ty_tup, ty_non, ty_str, grd_loc, grdO_some, grd_tup, grd_new, grd_rol, gOk_one, eT_len, look_eT, put_eT, kInts_eT, Option.bind_some, Option.map_some, Option.isSome_some, get_zero, get_succ, List.map_cons, List.map_nil, List.reduceReplicate, Nat.reduceSub, Nat.reduceAdd, Nat.reduceLeDiff, Nat.reduceLT, Nat.reduceEqDiff, List.append_nil, List.nil_append, List.cons_append, intOf, blOf, bop_int, iop_add, iop_sub, iop_mod, iop_mulR, iop_mulL, iop_fdiv, Int.reduceLT, Int.reduceLE, Int.reduceNeg, fin_f, List.set_cons_zero, List.set_cons_succ, asg, asgs, kill, if_true, if_false, Bool.false_eq_true, app_get0, app_get, app_set0, app_set, app_app, app_take0, app_take, GCok_P, gcP_nil, gcP_cons, gcP_refl, gcP_app, gcP_app_l, gcP_app_r, sigBelow, S.unds, List.take_length, unds_int, false_implies, implies_true, Bool.and_true, Bool.true_and, Bool.and_self, Bool.false_or, Bool.or_false, Bool.true_or, Bool.or_true, Bool.not_true, Bool.not_false, decide_true, decide_false, decide_eq_true_eq, reduceCtorEq, ne_eq, not_true_eq_false, W_bIte, W_if, bindIte, W_some, List.length_cons, List.length_nil, List.length_append, List.length_map, List.length_replicate, List.length_range, List.getElem?_cons_zero, List.getElem?_cons_succ, List.set_nil, List.take_succ_cons, List.take_zero, true_and, and_true, or_true, true_or, eq_self, asInts_map, LINE, Nat.zero_le, Nat.not_lt, Nat.le_add_right, Nat.le_refl, Nat.lt_irrefl, Nat.lt_add_right_iff_pos, Nat.add_lt_add_iff_left, Nat.add_le_add_iff_left, not_false_eq_true, Int.natCast_eq_zero, Nat.add_one_ne_zero])
local macro_rules | `(tactic| walk_at "dvh") => `(tactic| simp -implicitDefEqProofs only [e_var, e_k, e_gl, e_bin, k_bin1, k_bin2, e_neg, k_neg, e_cmp, k_cmp1, k_cmp2, e_chn, k_chn1, k_chn2, k_chn3, e_and, k_and, e_or, k_or, e_not, k_not, e_tru, k_tru, e_ife, k_ife, e_ix, k_ix1, k_ix2, e_slc, k_sl1, k_sl2, k_sl3, e_tup, e_lst, k_tup, k_lst, e_dnK, e_dnT, e_call, k_call, k_fin, e_bi, k_bi, e_mt, k_mt1, k_mt2, e_app, k_app1, k_app2s, k_app2n, e_isi, k_isi, e_rg1, k_rg1, e_rg2, k_rg2, k_rg2b, e_lc, k_lc, k_lcR, lbd_at, k_ls0, k_ls1, k_ls3s, k_ls3n, s_nil, s_cons, k_cons_s, k_cons_n, k_cons2, d_nil, d_cons, k_consD, k_consD2, i_seq, k_sq, i_rng1, k_r1, i_rng2, k_r2, k_r2b, i_rngD, k_rD, k_rDb, i_enum, k_en, i_zip, k_zp1, k_zp2, i_rev, k_rv, r_skip, r_seq, k_seqN, k_seqR, k_seqB, k_seqC, r_asg, k_asgS, k_asgN, r_asgT, k_asgT, r_asgL, k_asgL, r_par, k_par, r_sub, k_sub1s, k_sub1n, k_sub2, k_sub3, r_aug, k_aug, r_augS, k_augS1, k_augS2, k_augS2b, k_augS3, r_exp, k_exp, r_ret, k_ret, r_retN, r_if, k_if, r_whl, r_fr, k_fr, fbd_at, k_run, r_brk, r_cont, r_gc, k_gcR, k_gcN, k_gcC, k_gcB, r_kl, k_kl, r_kill, r_del, k_del1, k_del2, k_endR, k_endN, fin_s, fin_n, finO_some, fin_loc, zl, rev_map, app_int, set_int, lsO_lst, seqL_loc, seqL_new, seqL_rol, lstOf_loc, lstOf_new, seqOf_tup, seqOf_loc, seqOf_new, seqOf_rol, tupOf_tup, tupOf_loc, tupOf_new, dictOf_new, dictOf_loc, b_any, b_all, lenO_lst, lenO_dK, b_len_tup, b_len_loc, b_len_new, b_len_rol, b_int, b_intB, b_tuple, b_list, b_sum, srtO_lst, srtO_dK, b_sorted_loc, b_sorted_new, b_min2, b_max2, b_abs, v_pop, v_popAt, v_rev, v_bit, v_get1, v_get2, dkO_K, dkO_T, m_pop, popAO_lst, m_popAt, revO_lst, m_rev, m_get1, m_get2, m_bit, dlook_int, popO_int, part_non, part_k, part_v, slc_tup, slc_rol, slc_new, slc_loc, cut_map, und_int, und_bl, und_non, und_str, und_loc, und_tup, und_rol, und_lst, unds_app, und_dK, iop_and, iop_or, iop_xor, setIx_loc, setO_lst, setO_dK, appD_loc, appO_lst, idx_tup, idx_ktu, idx_loc, idx_new, idxO_lst, idxO_dK, pyEq_int, pyEq_bl, c_eq, c_ne, c_lt, c_le, c_gt, c_ge, c_isN, c_notN, isNon_non, isNon_int, isNon_tup, isNon_bl, isNon_loc, tru_int, tru_bl, tru_tup, c_mem, c_nmem, mem_bls, mem_loc, memO_int, mem_tup, ty_nil, ty_cons, ty_int, ty_bl, ty_tup, ty_non, ty_str, grd_loc, grdO_some, grd_tup, grd_new, grd_rol, gOk_one, eT_len, look_eT, put_eT, kInts_eT, Option.bind_some, Option.map_some, Option.isSome_some, get_zero, get_succ, List.map_cons, List.map_nil, List.reduceReplicate, Nat.reduceSub, Nat.reduceAdd, Nat.reduceLeDiff, Nat.reduceLT, Nat.reduceEqDiff, List.append_nil, List.nil_append, List.cons_append, intOf, blOf, bop_int, iop_add, iop_sub, iop_mod, iop_mulR, iop_mulL, iop_fdiv, Int.reduceLT, Int.reduceLE, Int.reduceNeg, fin_f, List.set_cons_zero, List.set_cons_succ, asg, asgs, kill, if_true, if_false, Bool.false_eq_true, app_get0, app_get, app_set0, app_set, app_app, app_take0, app_take, GCok_P, gcP_nil, gcP_cons, gcP_refl, gcP_app, gcP_app_l, gcP_app_r, sigBelow, S.unds, List.take_length, unds_int, false_implies, implies_true, Bool.and_true, Bool.true_and, Bool.and_self, Bool.false_or, Bool.or_false, Bool.true_or, Bool.or_true, Bool.not_true, Bool.not_false, decide_true, decide_false, decide_eq_true_eq, reduceCtorEq, ne_eq, not_true_eq_false, W_bIte, W_if, bindIte, W_some, List.length_cons, List.length_nil, List.length_append, List.length_map, List.length_replicate, List.length_range, List.getElem?_cons_zero, List.getElem?_cons_succ, List.set_nil, List.take_succ_cons, List.take_zero, true_and, and_true, or_true, true_or, eq_self, asInts_map, LINE, Nat.zero_le, Nat.not_lt, Nat.le_add_right, Nat.le_refl, Nat.lt_irrefl, Nat.lt_add_right_iff_pos, Nat.add_lt_add_iff_left, Nat.add_le_add_iff_left, not_false_eq_true, Int.natCast_eq_zero, Nat.add_one_ne_zero, *])
local macro_rules | `(tactic| walk_at "wb") => `(tactic| simp only [W_bind, W_map])

/-! ### _law_same of a thing with itself -/
def Same (k : Nat) (x : S) : Prop := ∀ j μ, k ≤ j → callK tb gl j Ix.law_same [x, x] μ = some (.s (.bl true), μ)
theorem same_int (i : Int) : Same 1 (.int i) := by
  intro k μ hk
  obtain ⟨k, rfl, hj⟩ := at1 hk
  rw [call_at' (b := b_law_same) rfl rfl]
  simp only [b_law_same, s_law_same_0, s_law_same_1, s_law_same_2, s_law_same_3]
  walk_at "dvh"
theorem same_tup {n : Nat} {xs : List S} (hl : xs.length ≤ 100000) (h : ∀ x ∈ xs, Same n x) : Same (n + 1) (.tup xs) := by
  intro k μ hk
  obtain ⟨k, rfl, hj⟩ := at1 hk
  have hb : b62 (xs.length : Int) = true := by simp only [b62, Bool.and_eq_true, decide_eq_true_eq]; omega
  have C := lc_rng (gs := []) (body := lbd (callK tb gl k) gl (.call Ix.law_same false (.cons (.ix (.var 0) (.var 2)) (.cons (.ix (.var 1) (.var 2)) .nil))) [2] (.nm 2) (.k (.bl true)) [some (.tup xs), some (.tup xs), none]) (fun _ => .bl true) (fun _ => μ) xs.length (by simp only [LINE]; omega) (fun _ => rfl) (fun j hj2 => by
    have e1 : L2.atI xs (j : Int) = some xs[j] := by apply L2.atI_nat; simp [hj2]
    have e2 := h xs[j] (List.getElem_mem hj2) k μ hj
    simp only [lbd_at]
    walk_at "dvh")
  have hm : (List.range xs.length).map (fun _ => S.bl true) = (List.replicate xs.length true).map S.bl := by
    rw [List.map_replicate]
    apply List.eq_replicate_iff.mpr
    simp
  have ha : (List.replicate xs.length true).any (· == false) = false := by simp
  have e7 : ((xs.length : Int).toNat) = xs.length := Int.toNat_natCast _
  rw [hm] at C
  clear hm
  rw [call_at' (b := b_law_same) rfl rfl]
  simp only [b_law_same, s_law_same_0, s_law_same_1, s_law_same_2, s_law_same_3]
  walk_at "dvh"
theorem same_row {r : List Int} (h : r.length ≤ 100000) : Same 2 (iS r) := same_tup (by simpa using h) fun x hx => by
  obtain ⟨i, _, rfl⟩ := List.mem_map.mp hx
  exact same_int i
theorem same_rows {A : List (List Int)} (h : Small A) : Same 3 (sRows A) := same_tup (by have := h.1; simp; omega) fun x hx => by
  obtain ⟨r, hr, rfl⟩ := List.mem_map.mp hx
  exact same_row (by have := h.2 r hr; omega)
/-! ### two halves -/
theorem cut_ok {k : Nat} (hk : 2 ≤ k) {s : Stm} (hs : s.length < 64) (ds : List Int) (ρ : Sto) : ∃ a b ds', a ++ b = s ∧ callK tb gl k Ix.law_cut [.loc 0, sSt s] (dr ds :: ρ) = some (.new (.lst [sSt a, sSt b]), dr ds' :: ρ) := by
  obtain ⟨k, rfl, hj⟩ := at1 hk
  obtain ⟨v, ds', v0, v1, e⟩ := take_ok hj (m := (s.length : Int) + 1) (by omega) ds ρ
  obtain ⟨n, rfl⟩ : ∃ n : Nat, v = (n : Int) := ⟨v.toNat, by omega⟩
  have hn : n ≤ s.length := by omega
  have c1 := cutA_to s n hn
  have c2 := cutA_from s n hn
  have hU := @und_st
  refine ⟨s.take n, s.drop n, ds', List.take_append_drop n s, ?_⟩
  rw [call_at' (b := b_law_cut) rfl rfl]
  simp only [b_law_cut]
  walk_at "dvh"
/-! ### the law's own value -/
def lvalF (p : Int) (d : List Int) (key : Int) : Int := (d.foldl (fun s c => ((s.1 + c * s.2 % p) % p, s.2 * (key % p) % p)) ((0, 1) : Int × Int)).1
def poly (x : Int) (d : List Int) : Int := d.foldr (fun c a => c + x * a) 0
theorem valF_poly {p : Int} {d : List Int} {key : Int} (hd : d ≠ [] ∨ True) : valF (.p p) d key = poly (key % p) d % p := by
  unfold valF
  rw [List.foldl_reverse]
  induction d with
  | nil => simp [poly]
  | cons c r ih =>
    have ih := ih (.inr trivial)
    simp only [List.foldr_cons, poly] at ih ⊢
    rw [ih]
    simp only [addF, mulF, memF]
    rw [Int.emod_add_emod, Int.add_emod, Int.mul_emod, Int.emod_emod, ← Int.mul_emod, ← Int.add_emod, Int.mul_comm, Int.add_comm]
theorem lval_fold {p x : Int} : ∀ (d : List Int) (s w : Int), (d.foldl (fun s c => ((s.1 + c * s.2 % p) % p, s.2 * x % p)) ((s % p, w) : Int × Int)).1 = (s + w * poly x d) % p
  | [], s, w => by simp [poly]
  | c :: r, s, w => by
    have ih := lval_fold (p := p) (x := x) r (s % p + c * w % p) (w * x % p)
    simp only [List.foldl_cons]
    rw [ih]
    simp only [poly, List.foldr_cons]
    generalize r.foldr (fun c a => c + x * a) 0 = q
    have e1 : w * (c + x * q) = c * w + (w * x) * q := by rw [Int.mul_add, Int.mul_comm w c, Int.mul_assoc]
    rw [e1, ← Int.add_assoc]
    rw [Int.add_emod (s % p + c * w % p), Int.mul_emod (w * x % p), Int.emod_emod, ← Int.mul_emod, ← Int.add_emod s, ← Int.add_emod]
theorem lval_eq {p : Int} {d : List Int} {key : Int} : lvalF p d key = valF (.p p) d key := by
  rw [valF_poly (.inr trivial)]
  have := lval_fold (p := p) (x := key % p) d 0 1
  rw [Int.zero_emod, Int.zero_add, Int.one_mul] at this
  exact this
theorem lvalue_ok {p : Int} (hF : Fok (.p p)) {k : Nat} (hk : 2 ≤ k) {d : List Int} (hd : Dok (.p p) d) (key : Int) (μ : Sto) : callK tb gl k Ix.law_value [.int p, iS d, .int key] μ = some (.s (.int (valF (.p p) d key)), μ) := by
  obtain ⟨k, rfl, hj⟩ := at1 hk
  have hp := hF.1
  have hp2 := hF.2
  have h0 : (0 : Int) < p := by omega
  have es : ∀ a b μ, callK tb gl k Ix.law_field_sum [.int p, .int a, .int b] μ = some (.s (.int ((a + b) % p)), μ) := fun a b μ => by
    obtain ⟨k, rfl, hj⟩ := at1 hj
    rw [call_at' (b := b_law_field_sum) rfl rfl]
    simp only [b_law_field_sum]
    walk_at "dvh"
  have ep : ∀ a b μ, 0 ≤ b → b < p → callK tb gl k Ix.law_field_product [.int p, .int a, .int b] μ = some (.s (.int (a * b % p)), μ) := fun a b μ b0 b1 => by
    obtain ⟨k, rfl, hj⟩ := at1 hj
    have hm : iop .mul a b = some (a * b) := iop_mulR (by omega)
    rw [call_at' (b := b_law_field_product) rfl rfl]
    simp only [b_law_field_product, s_law_field_product_0]
    walk_at "dvh"
  have x0 := Int.emod_nonneg key (b := p) (by omega)
  have x1 := Int.emod_lt_of_pos key h0
  obtain ⟨lp, _⟩ := for_foldI (gs := []) (body := fbd (callK tb gl k) gl (.nm 6) (.kl [6] b_law_value_l0)) (σ := Int × Int) S.int (fun s => [some (.int p), some (iS d), some (.int key), some (.int (key % p)), some (.int s.1), some (.int s.2), none]) (fun _ => μ) (fun s c => ((s.1 + c * s.2 % p) % p, s.2 * (key % p) % p)) (fun r s => 0 ≤ s.2 ∧ s.2 < p) (fun _ _ _ => rfl) (fun c r s hI => by
      obtain ⟨a, w⟩ := s
      obtain ⟨w0, w1⟩ := hI
      dsimp only at w0 w1
      refine ⟨?_, Int.emod_nonneg _ (by omega), Int.emod_lt_of_pos _ h0⟩
      have p1 := ep c w μ w0 w1
      have p2 := ep w (key % p) μ x0 x1
      simp only [fbd_at]
      walk_at "dvh"
      simp only [b_law_value_l0]
      walk_at "dvh") d (0, 1) ⟨by decide, by dsimp only; omega⟩
  rw [← lval_eq, lvalF]
  rw [call_at' (b := b_law_value) rfl rfl]
  simp only [b_law_value, s_law_value_0, s_law_value_1, s_law_value_2, s_law_value_3, s_law_value_4, s_law_value_5]
  walk_at "dvh"
/-- the law's own table: straight over the stream -/
theorem ltable_ok {p : Nat} (hF : Fok (.p p)) {k : Nat} (hk : 3 ≤ k) {t : List (List Int)} (ht : Tok (.p p) t) {s : Stm} (μ : Sto) : callK tb gl k Ix.law_table_counters [sSt s, sTab t, .int p] μ = some (.s (sRows (tabR p (valF (.p p)) (fun _ _ => 1) t s)), μ) := by
  obtain ⟨k, rfl, hj⟩ := at1 hk
  have hp := hF.2
  have hp1 := hF.1
  have erep := fun (μ : Sto) => @bop_rep μ (.int 0) (p : Int) (by omega)
  have e5 : ((p : Int).toNat) = p := Int.toNat_natCast _
  have lt := for_row (gs := []) (body := fbd (callK tb gl k) gl (.nm 4) (.gc [4, 5, 6, 7, 8] b_law_table_counters_l0)) (f := iS) (all := t) (fun _ _ => [some (sSt s), some (sTab t), some (.int p), some (.loc μ.length), none, none, none, none, none]) (fun pre _ => μ ++ [.lst ((tabR p (valF (.p p)) (fun _ _ => 1) pre s).map iS)]) (fun _ _ => rfl) (fun pre d r hall => by
    have hd := ht.2 d (by rw [← hall]; simp)
    have e5b : List.replicate p (S.int 0) = (iRow p (valF (.p p) d) (fun _ => 1) []).map S.int := by rw [iRow_nil]; simp
    have li := for_row (gs := []) (body := fbd (callK tb gl k) gl (.tp [(.nm 6), (.nm 7)]) (.kl [6, 7, 8] b_law_table_counters_l1)) (f := sPr) (all := s) (fun _ _ => [some (sSt s), some (sTab t), some (.int p), some (.loc μ.length), some (iS d), some (.loc (μ.length + 1)), none, none, none]) (fun dn _ => μ ++ [.lst ((tabR p (valF (.p p)) (fun _ _ => 1) pre s).map iS), iO (iRow p (valF (.p p) d) (fun _ => 1) dn)]) (fun _ _ => rfl) (fun dn q r hall => by
      have hv := (value_ok hF (k := 3) (Nat.le_refl _) hd q.1 []).2
      obtain ⟨_, _, v0, v1⟩ := hv
      dsimp only at v1
      have ev := lvalue_ok hF hj hd q.1
      have a5 := iRow_at (w := p) (f := valF (.p p) d) (g := fun _ => 1) (s := dn) (k := q.1) v0 v1
      have a6 := iRow_set (w := p) (f := valF (.p p) d) (g := fun _ => 1) (s := dn) (p := q) v0
      have a7 := iRow_ix (w := p) (f := valF (.p p) d) (k := q.1) v0 v1
      have a8 := @iRow_len p (valF (.p p) d) (fun _ => 1) dn
      rw [Int.mul_one] at a6
      clear e5b erep e5
      simp only [fbd_at]
      walk_at "dvh"
      simp only [b_law_table_counters_l1]
      walk_at "dvh")
    have hU := @und_rows
    have hU2 := @und_st
    have hl : (tabR p (valF (.p p)) (fun _ _ => 1) pre s).length < 16777216 := by
      have := ht.1; rw [← hall, List.length_append] at this; simp only [tabR, List.length_map]; omega
    have n1 : (tabR p (valF (.p p)) (fun _ _ => 1) (pre ++ [d]) s).map iS = (tabR p (valF (.p p)) (fun _ _ => 1) pre s).map iS ++ [iS (iRow p (valF (.p p) d) (fun _ => 1) s)] := by simp [tabR]
    rw [e5, e5b] at erep
    rw [n1]
    clear n1 e5b e5 hall
    simp only [fbd_at]
    walk_at "dvh"
    simp only [b_law_table_counters_l0, s_law_table_counters_l0_0, s_law_table_counters_l0_1, s_law_table_counters_l0_2]
    walk_at "dvh")
  have hU := @und_rows
  have z : (tabR p (valF (.p p)) (fun _ _ => 1) [] s).map iS = [] := rfl
  rw [z] at lt
  clear e5 z
  rw [call_at' (b := b_law_table_counters) rfl rfl]
  simp only [b_law_table_counters, s_law_table_counters_0, s_law_table_counters_1, s_law_table_counters_2]
  walk_at "dvh"
end Pg
end
section
set_option Elab.async false
set_option linter.all false
set_option maxRecDepth 100000
set_option maxHeartbeats 4000000
namespace Pg
open Dv
local macro_rules | `(tactic| walk_at "dv") => `(tactic| simp -implicitDefEqProofs only [e_var, e_k, e_gl, e_bin, k_bin1, k_bin2, e_neg, k_neg, e_cmp, k_cmp1, k_cmp2, e_chn, k_chn1, k_chn2, k_chn3, e_and, k_and, e_or, k_or, e_not, k_not, e_tru, k_tru, e_ife, k_ife, e_ix, k_ix1, k_ix2, e_slc, k_sl1, k_sl2, k_sl3, e_tup, e_lst, k_tup, k_lst, e_dnK, e_dnT, e_call, k_call, k_fin, e_bi, k_bi, e_mt, k_mt1, k_mt2, e_app, k_app1, k_app2s, k_app2n, e_isi, k_isi, e_rg1, k_rg1, e_rg2, k_rg2, k_rg2b, e_lc, k_lc, k_lcR, lbd_at, k_ls0, k_ls1, k_ls3s, k_ls3n, s_nil, s_cons, k_cons_s, k_cons_n, k_cons2, d_nil, d_cons, k_consD, k_consD2, i_seq, k_sq, i_rng1, k_r1, i_rng2, k_r2, k_r2b, i_rngD, k_rD, k_rDb, i_enum, k_en, i_zip, k_zp1, k_zp2, i_rev, k_rv, r_skip, r_seq, k_seqN, k_seqR, k_seqB, k_seqC, r_asg, k_asgS, k_asgN, r_asgT, k_asgT, r_asgL, k_asgL, r_par, k_par, r_sub, k_sub1s, k_sub1n, k_sub2, k_sub3, r_aug, k_aug, r_augS, k_augS1, k_augS2, k_augS2b, k_augS3, r_exp, k_exp, r_ret, k_ret, r_retN, r_if, k_if, r_whl, r_fr, k_fr, fbd_at, k_run, r_brk, r_cont, r_gc, k_gcR, k_gcN, k_gcC, k_gcB, r_kl, k_kl, r_kill, r_del, k_del1, k_del2, k_endR, k_endN, fin_s, fin_n, finO_some, fin_loc, zl, rev_map, app_int, set_int, lsO_lst, seqL_loc, seqL_new, seqL_rol, lstOf_loc, lstOf_new, seqOf_tup, seqOf_loc, seqOf_new, seqOf_rol, tupOf_tup, tupOf_loc, tupOf_new, dictOf_new, dictOf_loc, b_any, b_all, lenO_lst, lenO_dK, b_len_tup, b_len_loc, b_len_new, b_len_rol, b_int, b_intB, b_tuple, b_list, b_sum, srtO_lst, srtO_dK, b_sorted_loc, b_sorted_new, b_min2, b_max2, b_abs, v_pop, v_popAt, v_rev, v_bit, v_get1, v_get2, dkO_K, dkO_T, m_pop, popAO_lst, m_popAt, revO_lst, m_rev, m_get1, m_get2, m_bit, dlook_int, popO_int, part_non, part_k, part_v, slc_tup, slc_rol, slc_new, slc_loc, cut_map, und_int, und_bl, und_non, und_str, und_loc, und_tup, und_rol, und_lst, unds_app, und_dK, iop_and, iop_or, iop_xor, setIx_loc, setO_lst, setO_dK, appD_loc, appO_lst, idx_tup, idx_ktu, idx_loc, idx_new, idxO_lst, idxO_dK, pyEq_int, pyEq_bl, c_eq, c_ne, c_lt, c_le, c_gt, c_ge, c_isN, c_notN, isNon_non, isNon_int, isNon_tup, isNon_bl, isNon_loc, tru_int, tru_bl, tru_tup, c_mem, c_nmem, mem_bls, mem_loc, memO_int, mem_tup, ty_nil, ty_cons, ty_int, ty_bl, ty_tup, ty_non, ty_str, grd_loc, grdO_some, grd_tup, grd_new, grd_rol, gOk_one, eT_len, look_eT, put_eT, kInts_eT, Option.bind_some, Option.map_some, Option.isSome_some, get_zero, get_succ, List.map_cons, List.map_nil, List.reduceReplicate, Nat.reduceSub, Nat.reduceAdd, Nat.reduceLeDiff, Nat.reduceLT, Nat.reduceEqDiff, List.append_nil, List.nil_append, List.cons_append, intOf, blOf, bop_int, iop_add, iop_sub, iop_mod, iop_mulR, iop_mulL, iop_fdiv, Int.reduceLT, Int.reduceLE, Int.reduceNeg, fin_f, List.set_cons_zero, List.set_cons_succ, asg, asgs, kill, if_true, if_false, Bool.false_eq_true, app_get0, app_get, app_set0, app_set, app_app, app_take0, app_take, GCok_P, gcP_nil, gcP_cons, gcP_refl, gcP_app, gcP_app_l, gcP_app_r, sigBelow, S.unds, List.take_length, unds_int, false_implies, implies_true, Bool.and_true, Bool.true_and, Bool.and_self, Bool.false_or, Bool.or_false, Bool.true_or, Bool.or_true, Bool.not_true, Bool.not_false, decide_true, decide_false, decide_eq_true_eq, reduceCtorEq, ne_eq, not_true_eq_false, W_bIte, W_if, bindIte, W_some, List.length_cons, List.length_nil, List.length_append, List.length_map, List.length_replicate, List.length_range, List.getElem?_cons_zero, List.getElem?_cons_succ, List.set_nil, List.take_succ_cons, List.take_zero, true_and, and_true, or_true, true_or, eq_self, asInts_map, LINE, Nat.zero_le, Nat.not_lt, Nat.le_add_right, Nat.le_refl, Nat.lt_irrefl, Nat.lt_add_right_iff_pos, Nat.add_lt_add_iff_left, Nat.add_le_add_iff_left, not_false_eq_true, Int.natCast_eq_zero, Nat.add_one_ne_zero])
local macro_rules | `(tactic| walk_at "dvh") => `(tactic| simp -implicitDefEqProofs only [e_var, e_k, e_gl, e_bin, k_bin1, k_bin2, e_neg, k_neg, e_cmp, k_cmp1, k_cmp2, e_chn, k_chn1, k_chn2, k_chn3, e_and, k_and, e_or, k_or, e_not, k_not, e_tru, k_tru, e_ife, k_ife, e_ix, k_ix1, k_ix2, e_slc, k_sl1, k_sl2, k_sl3, e_tup, e_lst, k_tup, k_lst, e_dnK, e_dnT, e_call, k_call, k_fin, e_bi, k_bi, e_mt, k_mt1, k_mt2, e_app, k_app1, k_app2s, k_app2n, e_isi, k_isi, e_rg1, k_rg1, e_rg2, k_rg2, k_rg2b, e_lc, k_lc, k_lcR, lbd_at, k_ls0, k_ls1, k_ls3s, k_ls3n, s_nil, s_cons, k_cons_s, k_cons_n, k_cons2, d_nil, d_cons, k_consD, k_consD2, i_seq, k_sq, i_rng1, k_r1, i_rng2, k_r2, k_r2b, i_rngD, k_rD, k_rDb, i_enum, k_en, i_zip, k_zp1, k_zp2, i_rev, k_rv, r_skip, r_seq, k_seqN, k_seqR, k_seqB, k_seqC, r_asg, k_asgS, k_asgN, r_asgT, k_asgT, r_asgL, k_asgL, r_par, k_par, r_sub, k_sub1s, k_sub1n, k_sub2, k_sub3, r_aug, k_aug, r_augS, k_augS1, k_augS2, k_augS2b, k_augS3, r_exp, k_exp, r_ret, k_ret, r_retN, r_if, k_if, r_whl, r_fr, k_fr, fbd_at, k_run, r_brk, r_cont, r_gc, k_gcR, k_gcN, k_gcC, k_gcB, r_kl, k_kl, r_kill, r_del, k_del1, k_del2, k_endR, k_endN, fin_s, fin_n, finO_some, fin_loc, zl, rev_map, app_int, set_int, lsO_lst, seqL_loc, seqL_new, seqL_rol, lstOf_loc, lstOf_new, seqOf_tup, seqOf_loc, seqOf_new, seqOf_rol, tupOf_tup, tupOf_loc, tupOf_new, dictOf_new, dictOf_loc, b_any, b_all, lenO_lst, lenO_dK, b_len_tup, b_len_loc, b_len_new, b_len_rol, b_int, b_intB, b_tuple, b_list, b_sum, srtO_lst, srtO_dK, b_sorted_loc, b_sorted_new, b_min2, b_max2, b_abs, v_pop, v_popAt, v_rev, v_bit, v_get1, v_get2, dkO_K, dkO_T, m_pop, popAO_lst, m_popAt, revO_lst, m_rev, m_get1, m_get2, m_bit, dlook_int, popO_int, part_non, part_k, part_v, slc_tup, slc_rol, slc_new, slc_loc, cut_map, und_int, und_bl, und_non, und_str, und_loc, und_tup, und_rol, und_lst, unds_app, und_dK, iop_and, iop_or, iop_xor, setIx_loc, setO_lst, setO_dK, appD_loc, appO_lst, idx_tup, idx_ktu, idx_loc, idx_new, idxO_lst, idxO_dK, pyEq_int, pyEq_bl, c_eq, c_ne, c_lt, c_le, c_gt, c_ge, c_isN, c_notN, isNon_non, isNon_int, isNon_tup, isNon_bl, isNon_loc, tru_int, tru_bl, tru_tup, c_mem, c_nmem, mem_bls, mem_loc, memO_int, mem_tup, ty_nil, ty_cons, ty_int, ty_bl, ty_tup, ty_non, ty_str, grd_loc, grdO_some, grd_tup, grd_new, grd_rol, gOk_one, eT_len, look_eT, put_eT, kInts_eT, Option.bind_some, Option.map_some, Option.isSome_some, get_zero, get_succ, List.map_cons, List.map_nil, List.reduceReplicate, Nat.reduceSub, Nat.reduceAdd, Nat.reduceLeDiff, Nat.reduceLT, Nat.reduceEqDiff, List.append_nil, List.nil_append, List.cons_append, intOf, blOf, bop_int, iop_add, iop_sub, iop_mod, iop_mulR, iop_mulL, iop_fdiv, Int.reduceLT, Int.reduceLE, Int.reduceNeg, fin_f, List.set_cons_zero, List.set_cons_succ, asg, asgs, kill, if_true, if_false, Bool.false_eq_true, app_get0, app_get, app_set0, app_set, app_app, app_take0, app_take, GCok_P, gcP_nil, gcP_cons, gcP_refl, gcP_app, gcP_app_l, gcP_app_r, sigBelow, S.unds, List.take_length, unds_int, false_implies, implies_true, Bool.and_true, Bool.true_and, Bool.and_self, Bool.false_or, Bool.or_false, Bool.true_or, Bool.or_true, Bool.not_true, Bool.not_false, decide_true, decide_false, decide_eq_true_eq, reduceCtorEq, ne_eq, not_true_eq_false, W_bIte, W_if, bindIte, W_some, List.length_cons, List.length_nil, List.length_append, List.length_map, List.length_replicate, List.length_range, List.getElem?_cons_zero, List.getElem?_cons_succ, List.set_nil, List.take_succ_cons, List.take_zero, true_and, and_true, or_true, true_or, eq_self, asInts_map, LINE, Nat.zero_le, Nat.not_lt, Nat.le_add_right, Nat.le_refl, Nat.lt_irrefl, Nat.lt_add_right_iff_pos, Nat.add_lt_add_iff_left, Nat.add_le_add_iff_left, not_false_eq_true, Int.natCast_eq_zero, Nat.add_one_ne_zero, *])
local macro_rules | `(tactic| walk_at "wb") => `(tactic| simp only [W_bind, W_map])

/-! ### cells of bits -/
def cW (b : Nat) (k : Int) : Int := if b = 0 then 1 else (k / 2 ^ (b - 1)) % 2
def cP (f : Int → Int) (j b : Nat) (k : Int) : Int := if f k = (j : Int) then cW b k else 0
/-- a cell after dn, its first i places after dn and q -/
def cellP (B : Nat) (f : Int → Int) (j : Nat) (dn : Stm) (q : Int × Int) (i : Nat) : List Int := (List.range B).map fun b => L (cP f j b) (if b < i then dn ++ [q] else dn)
def cell (B : Nat) (f : Int → Int) (j : Nat) (dn : Stm) : List Int := (List.range B).map fun b => L (cP f j b) dn
variable {B : Nat} {f : Int → Int} {j : Nat} {dn : Stm} {q : Int × Int}
theorem cellP_zero : cellP B f j dn q 0 = cell B f j dn := by simp [cellP, cell]
theorem cellP_all : cellP B f j dn q B = cell B f j (dn ++ [q]) := by
  apply List.ext_getElem
  · simp [cellP, cell]
  · intro b h1 h2
    simp only [cellP, List.length_map, List.length_range] at h1
    simp [cellP, cell, h1]
theorem cellP_len {i : Nat} : (cellP B f j dn q i).length = B := by simp [cellP]
theorem cell_len : (cell B f j dn).length = B := by simp [cell]
theorem cell_other (h : ¬ f q.1 = (j : Int)) : cell B f j (dn ++ [q]) = cell B f j dn := by
  simp only [cell]
  congr 1
  funext b
  rw [L_app, L_one]
  simp only [cP, if_neg h]
  omega
theorem cellP_at {i : Nat} (h : i < B) : L2.atI ((cellP B f j dn q i).map S.int) (i : Int) = some (.int (L (cP f j i) dn)) := by
  apply L2.atI_nat
  simp [cellP, h]
theorem cellP_set {i : Nat} (hj : f q.1 = (j : Int)) : (cellP B f j dn q i).set i (L (cP f j i) dn + q.2 * cW i q.1) = cellP B f j dn q (i + 1) := by
  apply List.ext_getElem
  · simp [cellP]
  · intro b h1 h2
    simp only [cellP, List.length_map, List.length_range] at h2
    rw [List.getElem_set]
    simp only [cellP, List.getElem_map, List.getElem_range]
    by_cases h : i = b
    · subst h
      rw [if_pos rfl, if_pos (by omega), L_app, L_one]
      simp only [cP, if_pos hj]
    · rw [if_neg h]
      by_cases h2 : b < i
      · rw [if_pos h2, if_pos (by omega)]
      · rw [if_neg h2, if_neg (by omega)]
theorem cellP_skip {i : Nat} (hj : f q.1 = (j : Int)) (h0 : cW i q.1 = 0) : cellP B f j dn q (i + 1) = cellP B f j dn q i := by
  rw [← cellP_set hj, h0, Int.mul_zero, Int.add_zero]
  apply List.ext_getElem
  · simp
  · intro b h1 h2
    rw [List.getElem_set]
    split
    · rename_i e
      subst e
      simp [cellP]
    · rfl
/-- the cells of a draw, in the store -/
def cellsS (w B : Nat) (f : Int → Int) (dn : Stm) : Sto := (List.range w).map fun j => iO (cell B f j dn)
theorem cellsS_get {w : Nat} (h : j < w) : (cellsS w B f dn)[j]? = some (iO (cell B f j dn)) := by simp [cellsS, h]
theorem cellsS_len {w : Nat} : (cellsS w B f dn).length = w := by simp [cellsS]
theorem cellsS_step {w : Nat} (hj : f q.1 = (j : Int)) (h : j < w) : (cellsS w B f dn).set j (iO (cell B f j (dn ++ [q]))) = cellsS w B f (dn ++ [q]) := by
  apply List.ext_getElem
  · simp [cellsS]
  · intro b h1 h2
    rw [List.getElem_set]
    simp only [cellsS, List.getElem_map, List.getElem_range]
    by_cases e : j = b
    · subst e; rw [if_pos rfl]
    · rw [if_neg e]
      rw [cell_other]
      rw [hj]
      omega
/-- the cells, the cell j under way -/
def cellsP (w B : Nat) (f : Int → Int) (dn : Stm) (q : Int × Int) (j i : Nat) (C : Sto) : Sto := (cellsS w B f dn).set j (iO (cellP B f j dn q i)) ++ C
theorem cellsP_zero {w : Nat} {C : Sto} : cellsP w B f dn q j 0 C = cellsS w B f dn ++ C := by
  unfold cellsP
  rw [cellP_zero]
  congr 1
  apply List.ext_getElem
  · simp
  · intro b h1 h2
    rw [List.getElem_set]
    split
    · rename_i e; subst e; simp [cellsS]
    · rfl
theorem cellsP_get {w i : Nat} {C : Sto} (h : j < w) : (cellsP w B f dn q j i C)[j]? = some (iO (cellP B f j dn q i)) := by
  unfold cellsP
  rw [List.getElem?_append_left (by simp [cellsS_len, h])]
  simp [cellsS_len, h]
theorem cellsP_set {w i i' : Nat} {C : Sto} (h : j < w) : (cellsP w B f dn q j i C).set j (iO (cellP B f j dn q i')) = cellsP w B f dn q j i' C := by
  unfold cellsP
  rw [List.set_append_left _ _ (by simp [cellsS_len, h]), List.set_set]
theorem cellsP_last {w i : Nat} {o : Ob} : (cellsP w B f dn q j i [o])[w]? = some o := by
  unfold cellsP
  rw [List.getElem?_append_right (by simp [cellsS_len])]
  simp [cellsS_len]
theorem cellsP_all {w : Nat} {C : Sto} (hj : f q.1 = (j : Int)) (h : j < w) : cellsP w B f dn q j B C = cellsS w B f (dn ++ [q]) ++ C := by
  unfold cellsP
  rw [cellP_all, cellsS_step hj h]
/-! ### bit_cells -/
def cfF (p : Int) (w : Nat) (d : List Int) (key : Int) : Int := valF (.p p) d key % w
theorem cell_of_ok {p : Int} (hF : Fok (.p p)) {k : Nat} (hk : 4 ≤ k) {d : List Int} (hd : Dok (.p p) d) {w : Nat} (hw : 0 < w) (key : Int) (μ : Sto) : callK tb gl k Ix.cell_of [iS d, .int p, .int w, .int key] μ = some (.s (.int (cfF p w d key)), μ) := by
  obtain ⟨k, rfl, hj⟩ := at1 hk
  obtain ⟨e, _⟩ := value_ok hF hj hd key μ
  simp only [sF] at e
  have hw' : (0 : Int) < w := by omega
  rw [call_at' (b := b_cell_of) rfl rfl]
  simp only [b_cell_of]
  walk_at "dvh"
  rfl
def nb (p : Int) : Nat := PySem.Builtin.Int.intBits (p - 1)
theorem bits_ok {k : Nat} (hk : 1 ≤ k) {p : Int} (μ : Sto) : callK tb gl k Ix.bits_over [.int p] μ = some (.s (.int (nb p)), μ) := by
  obtain ⟨k, rfl, hj⟩ := at1 hk
  rw [call_at' (b := b_bits_over) rfl rfl]
  simp only [b_bits_over]
  walk_at "dvh"
  rfl
theorem nb_le {p : Nat} (h : p ≤ 64) : nb p ≤ 7 := by
  have h2 : ((List.range 65).all fun p => decide (nb (p : Nat) ≤ 7)) = true := by decide +kernel
  exact of_decide_eq_true (List.all_eq_true.mp h2 p (List.mem_range.mpr (by omega)))
theorem bit_turn {p : Nat} (hF : Fok (.p p)) {k : Nat} (hk : 4 ≤ k) {d : List Int} (hd : Dok (.p p) d) {w : Nat} (hw : 0 < w ∧ w ≤ 64) (a0 a1 a6 : S) (C : Stm) (dn : Stm) (q : Int × Int) (μ : Sto) :
    run (callK tb gl k) gl b_bit_cells_l1 [some a0, some a1, some (.int p), some (.int w), some (.int (nb p)), some (sSt C), some a6, some (iS d), some (.loc (μ.length + w)), some (.int q.1), some (.int q.2), none, none, none] (μ ++ (cellsS w (nb p + 1) (cfF p w d) dn ++ [.lst (locs μ.length w)]))
      = some (.nx, [some a0, some a1, some (.int p), some (.int w), some (.int (nb p)), some (sSt C), some a6, some (iS d), some (.loc (μ.length + w)), some (.int q.1), some (.int q.2), some (.loc (μ.length + (cfF p w d q.1).toNat)), none, none], μ ++ (cellsS w (nb p + 1) (cfF p w d) (dn ++ [q]) ++ [.lst (locs μ.length w)])) := by
  have hp := hF.2
  have hnb := nb_le (p := p) (by omega)
  have v0 : 0 ≤ cfF p w d q.1 := Int.emod_nonneg _ (by omega)
  have v1 : cfF p w d q.1 < w := Int.emod_lt_of_pos _ (by omega)
  obtain ⟨j, hj⟩ : ∃ j : Nat, cfF p w d q.1 = (j : Int) := ⟨(cfF p w d q.1).toNat, by omega⟩
  have hjw : j < w := by omega
  have ec := cell_of_ok hF hk hd hw.1 q.1
  have a1' := locs_at (n := μ.length) (m := w) (i := j) hjw
  have P0 := @cellsP_zero (nb p + 1) (cfF p w d) j dn q w [.lst (locs μ.length w)]
  have PB := @cellsP_all (nb p + 1) (cfF p w d) j dn q w [.lst (locs μ.length w)] hj hjw
  have Pl := @cellsP_last (nb p + 1) (cfF p w d) j dn q w
  have Pg := fun i => @cellsP_get (nb p + 1) (cfF p w d) j dn q w i [.lst (locs μ.length w)] hjw
  have Ps := fun i i' => @cellsP_set (nb p + 1) (cfF p w d) j dn q w i i' [.lst (locs μ.length w)] hjw
  have Pc := fun i => @cellP_len (nb p + 1) (cfF p w d) j dn q i
  have ca := fun i h => @cellP_at (nb p + 1) (cfF p w d) j dn q i h
  have cs := fun i => @cellP_set (nb p + 1) (cfF p w d) j dn q i hj
  rw [← P0, ← PB]
  have c0 : L2.atI ((cellP (nb p + 1) (cfF p w d) j dn q 0).map S.int) 0 = some (.int (L (cP (cfF p w d) j 0) dn)) := ca 0 (by omega)
  have s0 : (cellP (nb p + 1) (cfF p w d) j dn q 0).set 0 (L (cP (cfF p w d) j 0) dn + q.2) = cellP (nb p + 1) (cfF p w d) j dn q 1 := by
    have := cs 0
    simp only [cW, if_true, Int.mul_one] at this
    exact this
  have x0 : L2.ixN (nb p + 1) 0 = some 0 := by unfold L2.ixN; rw [if_pos (by omega), if_pos (by omega)]; rfl
  have hb : b62 (nb p : Int) = true := by simp only [b62, Bool.and_eq_true, decide_eq_true_eq]; omega
  have lp := for_rng (gs := []) (body := fbd (callK tb gl k) gl (.nm 12) (.kl [12] b_bit_cells_l2)) (fun _ => [some a0, some a1, some (.int p), some (.int w), some (.int (nb p)), some (sSt C), some a6, some (iS d), some (.loc (μ.length + w)), some (.int q.1), some (.int q.2), some (.loc (μ.length + j)), none, none]) (fun i => μ ++ cellsP w (nb p + 1) (cfF p w d) dn q j (i + 1) [.lst (locs μ.length w)]) (nb p) (fun _ => rfl) (fun i hi => by
    have ci : L2.atI ((cellP (nb p + 1) (cfF p w d) j dn q (i + 1)).map S.int) ((i : Int) + 1) = some (.int (L (cP (cfF p w d) j (i + 1)) dn)) := ca (i + 1) (by omega)
    have xi : L2.ixN (nb p + 1) ((i : Int) + 1) = some (i + 1) := by unfold L2.ixN; rw [if_pos (by omega), if_pos (by omega)]; congr 1
    have hr1 : iop .shr q.1 i = some (q.1 / 2 ^ i) := iop_shr (by omega)
    have hb1 : PySem.Builtin.bitAnd (q.1 / 2 ^ i) 1 = q.1 / 2 ^ i % 2 := PyProof.Rows.bitAnd_m1 _
    have hcw : cW (i + 1) q.1 = q.1 / 2 ^ i % 2 := by simp [cW]
    have si := cs (i + 1)
    rw [hcw] at si
    rcases Int.emod_two_eq (q.1 / 2 ^ i) with h | h
    · rw [h] at hcw
      have sk := @cellP_skip (nb p + 1) (cfF p w d) j dn q (i + 1) hj hcw
      have sk2 : cellsP w (nb p + 1) (cfF p w d) dn q j (i + 1 + 1) [.lst (locs μ.length w)] = cellsP w (nb p + 1) (cfF p w d) dn q j (i + 1) [.lst (locs μ.length w)] := by unfold cellsP; rw [sk]
      rw [sk2]
      clear P0 PB Pl Pg Ps Pc ca cs c0 s0 x0 si hcw sk sk2 ec v0 v1 hj hk
      have hne : ((0 : Int) != 0) = false := rfl
      simp only [fbd_at]
      walk_at "dvh"
      simp only [b_bit_cells_l2]
      walk_at "dvh"
    · rw [h, Int.mul_one] at si
      clear P0 PB Pl ca cs c0 s0 x0 hcw ec v0 v1 hj hk
      have hne : ((1 : Int) != 0) = true := rfl
      simp only [fbd_at]
      walk_at "dvh"
      simp only [b_bit_cells_l2]
      walk_at "dvh")
  rw [Nat.zero_add] at lp
  have jt : (((j : Nat) : Int)).toNat = j := Int.toNat_natCast _
  have e7 : (((nb p : Nat) : Int)).toNat = nb p := Int.toNat_natCast _
  clear P0 PB ca cs v0 v1
  simp only [b_bit_cells_l1, s_bit_cells_l1_0, s_bit_cells_l1_1, s_bit_cells_l1_2]
  walk_at "dvh"
end Pg
end
section
set_option Elab.async false
set_option linter.all false
set_option maxRecDepth 100000
set_option maxHeartbeats 4000000
namespace Pg
open Dv
local macro_rules | `(tactic| walk_at "dv") => `(tactic| simp -implicitDefEqProofs only [e_var, e_k, e_gl, e_bin, k_bin1, k_bin2, e_neg, k_neg, e_cmp, k_cmp1, k_cmp2, e_chn, k_chn1, k_chn2, k_chn3, e_and, k_and, e_or, k_or, e_not, k_not, e_tru, k_tru, e_ife, k_ife, e_ix, k_ix1, k_ix2, e_slc, k_sl1, k_sl2, k_sl3, e_tup, e_lst, k_tup, k_lst, e_dnK, e_dnT, e_call, k_call, k_fin, e_bi, k_bi, e_mt, k_mt1, k_mt2, e_app, k_app1, k_app2s, k_app2n, e_isi, k_isi, e_rg1, k_rg1, e_rg2, k_rg2, k_rg2b, e_lc, k_lc, k_lcR, lbd_at, k_ls0, k_ls1, k_ls3s, k_ls3n, s_nil, s_cons, k_cons_s, k_cons_n, k_cons2, d_nil, d_cons, k_consD, k_consD2, i_seq, k_sq, i_rng1, k_r1, i_rng2, k_r2, k_r2b, i_rngD, k_rD, k_rDb, i_enum, k_en, i_zip, k_zp1, k_zp2, i_rev, k_rv, r_skip, r_seq, k_seqN, k_seqR, k_seqB, k_seqC, r_asg, k_asgS, k_asgN, r_asgT, k_asgT, r_asgL, k_asgL, r_par, k_par, r_sub, k_sub1s, k_sub1n, k_sub2, k_sub3, r_aug, k_aug, r_augS, k_augS1, k_augS2, k_augS2b, k_augS3, r_exp, k_exp, r_ret, k_ret, r_retN, r_if, k_if, r_whl, r_fr, k_fr, fbd_at, k_run, r_brk, r_cont, r_gc, k_gcR, k_gcN, k_gcC, k_gcB, r_kl, k_kl, r_kill, r_del, k_del1, k_del2, k_endR, k_endN, fin_s, fin_n, finO_some, fin_loc, zl, rev_map, app_int, set_int, lsO_lst, seqL_loc, seqL_new, seqL_rol, lstOf_loc, lstOf_new, seqOf_tup, seqOf_loc, seqOf_new, seqOf_rol, tupOf_tup, tupOf_loc, tupOf_new, dictOf_new, dictOf_loc, b_any, b_all, lenO_lst, lenO_dK, b_len_tup, b_len_loc, b_len_new, b_len_rol, b_int, b_intB, b_tuple, b_list, b_sum, srtO_lst, srtO_dK, b_sorted_loc, b_sorted_new, b_min2, b_max2, b_abs, v_pop, v_popAt, v_rev, v_bit, v_get1, v_get2, dkO_K, dkO_T, m_pop, popAO_lst, m_popAt, revO_lst, m_rev, m_get1, m_get2, m_bit, dlook_int, popO_int, part_non, part_k, part_v, slc_tup, slc_rol, slc_new, slc_loc, cut_map, und_int, und_bl, und_non, und_str, und_loc, und_tup, und_rol, und_lst, unds_app, und_dK, iop_and, iop_or, iop_xor, setIx_loc, setO_lst, setO_dK, appD_loc, appO_lst, idx_tup, idx_ktu, idx_loc, idx_new, idxO_lst, idxO_dK, pyEq_int, pyEq_bl, c_eq, c_ne, c_lt, c_le, c_gt, c_ge, c_isN, c_notN, isNon_non, isNon_int, isNon_tup, isNon_bl, isNon_loc, tru_int, tru_bl, tru_tup, c_mem, c_nmem, mem_bls, mem_loc, memO_int, mem_tup, ty_nil, ty_cons, ty_int, ty_bl, ty_tup, ty_non, ty_str, grd_loc, grdO_some, grd_tup, grd_new, grd_rol, gOk_one, eT_len, look_eT, put_eT, kInts_eT, Option.bind_some, Option.map_some, Option.isSome_some, get_zero, get_succ, List.map_cons, List.map_nil, List.reduceReplicate, Nat.reduceSub, Nat.reduceAdd, Nat.reduceLeDiff, Nat.reduceLT, Nat.reduceEqDiff, List.append_nil, List.nil_append, List.cons_append, intOf, blOf, bop_int, iop_add, iop_sub, iop_mod, iop_mulR, iop_mulL, iop_fdiv, Int.reduceLT, Int.reduceLE, Int.reduceNeg, fin_f, List.set_cons_zero, List.set_cons_succ, asg, asgs, kill, if_true, if_false, Bool.false_eq_true, app_get0, app_get, app_set0, app_set, app_app, app_take0, app_take, GCok_P, gcP_nil, gcP_cons, gcP_refl, gcP_app, gcP_app_l, gcP_app_r, sigBelow, S.unds, List.take_length, unds_int, false_implies, implies_true, Bool.and_true, Bool.true_and, Bool.and_self, Bool.false_or, Bool.or_false, Bool.true_or, Bool.or_true, Bool.not_true, Bool.not_false, decide_true, decide_false, decide_eq_true_eq, reduceCtorEq, ne_eq, not_true_eq_false, W_bIte, W_if, bindIte, W_some, List.length_cons, List.length_nil, List.length_append, List.length_map, List.length_replicate, List.length_range, List.getElem?_cons_zero, List.getElem?_cons_succ, List.set_nil, List.take_succ_cons, List.take_zero, true_and, and_true, or_true, true_or, eq_self, asInts_map, LINE, Nat.zero_le, Nat.not_lt, Nat.le_add_right, Nat.le_refl, Nat.lt_irrefl, Nat.lt_add_right_iff_pos, Nat.add_lt_add_iff_left, Nat.add_le_add_iff_left, not_false_eq_true, Int.natCast_eq_zero, Nat.add_one_ne_zero])
local macro_rules | `(tactic| walk_at "dvh") => `(tactic| simp -implicitDefEqProofs only [e_var, e_k, e_gl, e_bin, k_bin1, k_bin2, e_neg, k_neg, e_cmp, k_cmp1, k_cmp2, e_chn, k_chn1, k_chn2, k_chn3, e_and, k_and, e_or, k_or, e_not, k_not, e_tru, k_tru, e_ife, k_ife, e_ix, k_ix1, k_ix2, e_slc, k_sl1, k_sl2, k_sl3, e_tup, e_lst, k_tup, k_lst, e_dnK, e_dnT, e_call, k_call, k_fin, e_bi, k_bi, e_mt, k_mt1, k_mt2, e_app, k_app1, k_app2s, k_app2n, e_isi, k_isi, e_rg1, k_rg1, e_rg2, k_rg2, k_rg2b, e_lc, k_lc, k_lcR, lbd_at, k_ls0, k_ls1, k_ls3s, k_ls3n, s_nil, s_cons, k_cons_s, k_cons_n, k_cons2, d_nil, d_cons, k_consD, k_consD2, i_seq, k_sq, i_rng1, k_r1, i_rng2, k_r2, k_r2b, i_rngD, k_rD, k_rDb, i_enum, k_en, i_zip, k_zp1, k_zp2, i_rev, k_rv, r_skip, r_seq, k_seqN, k_seqR, k_seqB, k_seqC, r_asg, k_asgS, k_asgN, r_asgT, k_asgT, r_asgL, k_asgL, r_par, k_par, r_sub, k_sub1s, k_sub1n, k_sub2, k_sub3, r_aug, k_aug, r_augS, k_augS1, k_augS2, k_augS2b, k_augS3, r_exp, k_exp, r_ret, k_ret, r_retN, r_if, k_if, r_whl, r_fr, k_fr, fbd_at, k_run, r_brk, r_cont, r_gc, k_gcR, k_gcN, k_gcC, k_gcB, r_kl, k_kl, r_kill, r_del, k_del1, k_del2, k_endR, k_endN, fin_s, fin_n, finO_some, fin_loc, zl, rev_map, app_int, set_int, lsO_lst, seqL_loc, seqL_new, seqL_rol, lstOf_loc, lstOf_new, seqOf_tup, seqOf_loc, seqOf_new, seqOf_rol, tupOf_tup, tupOf_loc, tupOf_new, dictOf_new, dictOf_loc, b_any, b_all, lenO_lst, lenO_dK, b_len_tup, b_len_loc, b_len_new, b_len_rol, b_int, b_intB, b_tuple, b_list, b_sum, srtO_lst, srtO_dK, b_sorted_loc, b_sorted_new, b_min2, b_max2, b_abs, v_pop, v_popAt, v_rev, v_bit, v_get1, v_get2, dkO_K, dkO_T, m_pop, popAO_lst, m_popAt, revO_lst, m_rev, m_get1, m_get2, m_bit, dlook_int, popO_int, part_non, part_k, part_v, slc_tup, slc_rol, slc_new, slc_loc, cut_map, und_int, und_bl, und_non, und_str, und_loc, und_tup, und_rol, und_lst, unds_app, und_dK, iop_and, iop_or, iop_xor, setIx_loc, setO_lst, setO_dK, appD_loc, appO_lst, idx_tup, idx_ktu, idx_loc, idx_new, idxO_lst, idxO_dK, pyEq_int, pyEq_bl, c_eq, c_ne, c_lt, c_le, c_gt, c_ge, c_isN, c_notN, isNon_non, isNon_int, isNon_tup, isNon_bl, isNon_loc, tru_int, tru_bl, tru_tup, c_mem, c_nmem, mem_bls, mem_loc, memO_int, mem_tup, ty_nil, ty_cons, ty_int, ty_bl, ty_tup, ty_non, ty_str, grd_loc, grdO_some, grd_tup, grd_new, grd_rol, gOk_one, eT_len, look_eT, put_eT, kInts_eT, Option.bind_some, Option.map_some, Option.isSome_some, get_zero, get_succ, List.map_cons, List.map_nil, List.reduceReplicate, Nat.reduceSub, Nat.reduceAdd, Nat.reduceLeDiff, Nat.reduceLT, Nat.reduceEqDiff, List.append_nil, List.nil_append, List.cons_append, intOf, blOf, bop_int, iop_add, iop_sub, iop_mod, iop_mulR, iop_mulL, iop_fdiv, Int.reduceLT, Int.reduceLE, Int.reduceNeg, fin_f, List.set_cons_zero, List.set_cons_succ, asg, asgs, kill, if_true, if_false, Bool.false_eq_true, app_get0, app_get, app_set0, app_set, app_app, app_take0, app_take, GCok_P, gcP_nil, gcP_cons, gcP_refl, gcP_app, gcP_app_l, gcP_app_r, sigBelow, S.unds, List.take_length, unds_int, false_implies, implies_true, Bool.and_true, Bool.true_and, Bool.and_self, Bool.false_or, Bool.or_false, Bool.true_or, Bool.or_true, Bool.not_true, Bool.not_false, decide_true, decide_false, decide_eq_true_eq, reduceCtorEq, ne_eq, not_true_eq_false, W_bIte, W_if, bindIte, W_some, List.length_cons, List.length_nil, List.length_append, List.length_map, List.length_replicate, List.length_range, List.getElem?_cons_zero, List.getElem?_cons_succ, List.set_nil, List.take_succ_cons, List.take_zero, true_and, and_true, or_true, true_or, eq_self, asInts_map, LINE, Nat.zero_le, Nat.not_lt, Nat.le_add_right, Nat.le_refl, Nat.lt_irrefl, Nat.lt_add_right_iff_pos, Nat.add_lt_add_iff_left, Nat.add_le_add_iff_left, not_false_eq_true, Int.natCast_eq_zero, Nat.add_one_ne_zero, *])
local macro_rules | `(tactic| walk_at "wb") => `(tactic| simp only [W_bind, W_map])

abbrev sCells (cs : List (List (List Int))) : S := .tup (cs.map sRows)
theorem und_cells {n : Nat} {l : List (List (List Int))} : S.unds n (l.map sRows) = true := unds_map fun _ => und_rows
def cellsR (w B : Nat) (f : Int → Int) (s : Stm) : List (List Int) := (List.range w).map fun j => cell B f j s
def bitR (p w : Nat) (t : List (List Int)) (s : Stm) : List (List (List Int)) := t.map fun d => cellsR w (nb p + 1) (cfF p w d) s
theorem cellsS_nil {w B : Nat} {f : Int → Int} : cellsS w B f [] = List.replicate w (iO (List.replicate B 0)) := by
  apply List.ext_getElem
  · simp [cellsS]
  · intro i h1 h2
    simp only [cellsS, cell, List.getElem_map, L_nil, List.getElem_replicate]
    have : List.map (fun _ => (0 : Int)) (List.range B) = List.replicate B 0 := by
      apply List.eq_replicate_iff.mpr; simp
    rw [this]
/-- tuple of the rows that stand at places -/
theorem lc_froz {c : Cal} {i n : Nat} {g : Sig} {gs : Grd} {μ : Sto} (rs : List (List Int)) (hl : rs.length ≤ 16777216) (hX : ∀ j, (h : j < rs.length) → μ[n + j]? = some (iO (rs[j]))) (hg : gOk gs μ = true) (hi : i = 11 ∨ i = 10) (h12 : g.length = 14 ∨ g.length = 13) :
    lcGo gs (lbd c gl (.bi .tuple (.cons (.var i) .nil)) [i] (.nm i) (.k (.bl true)) g) (locs n rs.length) [] μ = some (rs.map iS, μ) := by
  have hr : (List.range rs.length).map (fun j => iS (rs.getD j [])) = rs.map iS := by
    apply List.ext_getElem
    · simp
    · intro j h1 h2
      simp only [List.length_map] at h2
      simp [h2]
  have C := lc_map (gs := gs) (body := lbd c gl (.bi .tuple (.cons (.var i) .nil)) [i] (.nm i) (.k (.bl true)) g) (μ := μ) (fun j => S.loc (n + j)) (fun j => iS (rs.getD j [])) hg (List.range rs.length) (fun j hj => by
    have hj' : j < rs.length := List.mem_range.mp hj
    have h2 := hX j hj'
    have h3 : rs.getD j [] = rs[j] := by simp [hj']
    have hlen : i < g.length := by omega
    have hget : Dv.get ((g.set i none).set i (some (S.loc (n + j)))) i = some (S.loc (n + j)) := by
      simp [Dv.get, hlen]
    obtain ⟨a, g', hg'⟩ : ∃ a g', (g.set i none).set i (some (S.loc (n + j))) = a :: g' := by
      cases hh : (g.set i none).set i (some (S.loc (n + j))) with
      | nil => have := congrArg List.length hh; rw [List.length_set, List.length_set, List.length_nil] at this; omega
      | cons a g' => exact ⟨a, g', rfl⟩
    rw [hg'] at hget
    simp only [lbd_at, kill, asg, hg', Option.bind_some, k_ls0, e_k, k_ls1, if_true, e_bi, d_cons, e_var, hget, Option.map_some, k_consD, d_nil, k_consD2, k_bi, b_tuple, seqOf_loc, h2, lsO_lst, k_ls3s, h3]) [] (by simpa using hl)
  rw [hr] at C
  exact C
theorem bit_cells_ok {p : Nat} (hF : Fok (.p p)) {k : Nat} (hk : 5 ≤ k) {t : List (List Int)} (ht : Tok (.p p) t) {w : Nat} (hw : 0 < w ∧ w ≤ 64) {s : Stm} (hs : s.length < 64) (μ : Sto) : callK tb gl k Ix.bit_cells [sSt s, sTab t, .int p, .int w] μ = some (.s (sCells (bitR p w t (cF s))), μ) := by
  obtain ⟨k, rfl, hj⟩ := at1 hk
  have hp := hF.2
  have hnb := nb_le (p := p) (by omega)
  have e1 := counts_ok (k := k) (by omega) hs
  have e2 := bits_ok (k := k) (by omega) (p := p)
  have hbw : b62 (w : Int) = true := by simp only [b62, Bool.and_eq_true, decide_eq_true_eq]; omega
  have ew : ((w : Int).toNat) = w := Int.toNat_natCast _
  have enb : ((nb p : Int) + 1).toNat = nb p + 1 := by omega
  have hU := @und_cells
  have hU1 := @und_rows
  have hU2 := @und_st
  have lt := for_row (gs := []) (body := fbd (callK tb gl k) gl (.nm 7) (.gc [7, 8, 9, 10, 11, 12] b_bit_cells_l0)) (f := iS) (all := t) (fun _ _ => [some (sSt s), some (sTab t), some (.int p), some (.int w), some (.int (nb p)), some (sSt (cF s)), some (.loc μ.length), none, none, none, none, none, none, none]) (fun pre _ => μ ++ [.lst ((bitR p w pre (cF s)).map sRows)]) (fun _ _ => rfl) (fun pre d r hall => by
    have hd := ht.2 d (by rw [← hall]; simp)
    let A : Ob := .lst ((bitR p w pre (cF s)).map sRows)
    have C0 := lc_rng (gs := []) (body := lbd (callK tb gl k) gl (.bin .mul (.lst (.cons (.k (.int 0)) .nil)) (.bin .add (.var 4) (.k (.int 1)))) [13] (.nm 13) (.k (.bl true)) [some (sSt s), some (sTab t), some (.int p), some (.int w), some (.int (nb p)), some (sSt (cF s)), some (.loc μ.length), some (iS d), none, none, none, none, none, none]) (fun i => S.loc (μ.length + 1 + i)) (fun i => μ ++ (.lst ((bitR p w pre (cF s)).map sRows) :: List.replicate i (iO (List.replicate (nb p + 1) 0)))) w (by simp only [LINE]; omega) (fun _ => rfl) (fun i hi => by
      have e := fun μ => @bop_rep μ (.int 0) ((nb p : Int) + 1) (by omega)
      rw [enb] at e
      have e3 : List.replicate (nb p + 1) (S.int 0) = (List.replicate (nb p + 1) 0).map S.int := by simp
      have e4 : List.replicate (i + 1) (iO (List.replicate (nb p + 1) 0)) = List.replicate i (iO (List.replicate (nb p + 1) 0)) ++ [iO (List.replicate (nb p + 1) 0)] := List.replicate_succ'
      have e5 : μ.length + (i + 1) = μ.length + 1 + i := by omega
      rw [e4]
      rw [e3] at e
      clear e3 e4
      simp only [lbd_at]
      walk_at "dvh")
    have z0 : List.replicate w (iO (List.replicate (nb p + 1) 0)) = cellsS w (nb p + 1) (cfF p w d) [] := cellsS_nil.symm
    have el : (List.range w).map (fun i => S.loc (μ.length + 1 + i)) = locs (μ.length + 1) w := rfl
    rw [z0, el] at C0
    have lq := for_row (gs := []) (body := fbd (callK tb gl k) gl (.tp [(.nm 9), (.nm 10)]) (.kl [9, 10, 11, 12] b_bit_cells_l1)) (f := sPr) (all := cF s) (fun _ _ => [some (sSt s), some (sTab t), some (.int p), some (.int w), some (.int (nb p)), some (sSt (cF s)), some (.loc μ.length), some (iS d), some (.loc (μ.length + (1 + w))), none, none, none, none, none]) (fun dn _ => μ ++ (.lst ((bitR p w pre (cF s)).map sRows) :: (cellsS w (nb p + 1) (cfF p w d) dn ++ [.lst (locs (μ.length + 1) w)]))) (fun _ _ => rfl) (fun dn q r hall => by
      have e := bit_turn hF hj hd hw (sSt s) (sTab t) (.loc μ.length) (cF s) dn q (μ ++ [.lst ((bitR p w pre (cF s)).map sRows)])
      simp only [app_app, List.cons_append, List.nil_append, List.length_append, List.length_cons, List.length_nil, Nat.zero_add, Nat.add_assoc] at e ⊢
      simp only [fbd_at]
      walk_at "dvh")
    have hrl : (cellsR w (nb p + 1) (cfF p w d) (cF s)).length = w := by simp [cellsR]
    have hlast : (μ ++ (Ob.lst ((bitR p w pre (cF s)).map sRows) :: (cellsS w (nb p + 1) (cfF p w d) (cF s) ++ [.lst (locs (μ.length + 1) w)])))[μ.length + (1 + w)]? = some (.lst (locs (μ.length + 1) w)) := by
      rw [app_get, Nat.add_comm 1 w, List.getElem?_cons_succ, List.getElem?_append_right (by simp [cellsS_len])]
      simp [cellsS_len]
    have Cf := lc_froz (c := callK tb gl k) (i := 11) (n := μ.length + 1) (g := [some (sSt s), some (sTab t), some (.int p), some (.int w), some (.int (nb p)), some (sSt (cF s)), some (.loc μ.length), some (iS d), some (.loc (μ.length + (1 + w))), none, none, none, none, none]) (gs := [(μ.length + (1 + w), .lst (locs (μ.length + 1) w))]) (μ := μ ++ (.lst ((bitR p w pre (cF s)).map sRows) :: (cellsS w (nb p + 1) (cfF p w d) (cF s) ++ [.lst (locs (μ.length + 1) w)]))) (cellsR w (nb p + 1) (cfF p w d) (cF s)) (by rw [hrl]; omega) (fun j hj => by
      rw [hrl] at hj
      rw [Nat.add_assoc, app_get, Nat.add_comm 1 j, List.getElem?_cons_succ, List.getElem?_append_left (by rw [cellsS_len]; exact hj), cellsS_get hj]
      simp [cellsR]) (by rw [gOk_one, hlast]; exact decide_eq_true rfl) (.inl rfl) (.inl rfl)
    rw [hrl] at Cf
    have hl : (bitR p w pre (cF s)).length < 16777216 := by
      have := ht.1; rw [← hall, List.length_append] at this; simp only [bitR, List.length_map]; omega
    have n1 : (bitR p w (pre ++ [d]) (cF s)).map sRows = (bitR p w pre (cF s)).map sRows ++ [sRows (cellsR w (nb p + 1) (cfF p w d) (cF s))] := by simp [bitR]
    rw [n1]
    have hz : List.replicate 0 (iO (List.replicate (nb p + 1) 0)) = [] := rfl
    rw [hz] at C0
    have hcl : (cellsS w (nb p + 1) (cfF p w d) []).length = w := cellsS_len
    have hcl2 : (cellsS w (nb p + 1) (cfF p w d) (cF s)).length = w := cellsS_len
    have ha2 : ∀ (o : Ob), (cellsS w (nb p + 1) (cfF p w d) (cF s) ++ [o])[w]? = some o := fun o => by rw [List.getElem?_append_right (by simp [cellsS_len])]; simp [cellsS_len]
    have hw1 : w + 1 = 1 + w := Nat.add_comm _ _
    rw [app_get, Nat.add_comm 1 w] at hlast
    rw [Nat.add_comm 1 w] at lq Cf
    clear n1 hz z0 el hall hrl hw1 enb hlast
    simp only [fbd_at]
    walk_at "dvh"
    simp only [b_bit_cells_l0, s_bit_cells_l0_0, s_bit_cells_l0_1, s_bit_cells_l0_2]
    walk_at "dvh")
  have z : (bitR p w [] (cF s)).map sRows = [] := rfl
  rw [z] at lt
  clear z enb hnb
  rw [call_at' (b := b_bit_cells) rfl rfl]
  simp only [b_bit_cells, s_bit_cells_0, s_bit_cells_1, s_bit_cells_2, s_bit_cells_3, s_bit_cells_4]
  walk_at "dvh"
end Pg
end
section
set_option Elab.async false
set_option linter.all false
set_option maxRecDepth 100000
set_option maxHeartbeats 4000000
namespace Pg
open Dv
local macro_rules | `(tactic| walk_at "dv") => `(tactic| simp -implicitDefEqProofs only [e_var, e_k, e_gl, e_bin, k_bin1, k_bin2, e_neg, k_neg, e_cmp, k_cmp1, k_cmp2, e_chn, k_chn1, k_chn2, k_chn3, e_and, k_and, e_or, k_or, e_not, k_not, e_tru, k_tru, e_ife, k_ife, e_ix, k_ix1, k_ix2, e_slc, k_sl1, k_sl2, k_sl3, e_tup, e_lst, k_tup, k_lst, e_dnK, e_dnT, e_call, k_call, k_fin, e_bi, k_bi, e_mt, k_mt1, k_mt2, e_app, k_app1, k_app2s, k_app2n, e_isi, k_isi, e_rg1, k_rg1, e_rg2, k_rg2, k_rg2b, e_lc, k_lc, k_lcR, lbd_at, k_ls0, k_ls1, k_ls3s, k_ls3n, s_nil, s_cons, k_cons_s, k_cons_n, k_cons2, d_nil, d_cons, k_consD, k_consD2, i_seq, k_sq, i_rng1, k_r1, i_rng2, k_r2, k_r2b, i_rngD, k_rD, k_rDb, i_enum, k_en, i_zip, k_zp1, k_zp2, i_rev, k_rv, r_skip, r_seq, k_seqN, k_seqR, k_seqB, k_seqC, r_asg, k_asgS, k_asgN, r_asgT, k_asgT, r_asgL, k_asgL, r_par, k_par, r_sub, k_sub1s, k_sub1n, k_sub2, k_sub3, r_aug, k_aug, r_augS, k_augS1, k_augS2, k_augS2b, k_augS3, r_exp, k_exp, r_ret, k_ret, r_retN, r_if, k_if, r_whl, r_fr, k_fr, fbd_at, k_run, r_brk, r_cont, r_gc, k_gcR, k_gcN, k_gcC, k_gcB, r_kl, k_kl, r_kill, r_del, k_del1, k_del2, k_endR, k_endN, fin_s, fin_n, finO_some, fin_loc, zl, rev_map, app_int, set_int, lsO_lst, seqL_loc, seqL_new, seqL_rol, lstOf_loc, lstOf_new, seqOf_tup, seqOf_loc, seqOf_new, seqOf_rol, tupOf_tup, tupOf_loc, tupOf_new, dictOf_new, dictOf_loc, b_any, b_all, lenO_lst, lenO_dK, b_len_tup, b_len_loc, b_len_new, b_len_rol, b_int, b_intB, b_tuple, b_list, b_sum, srtO_lst, srtO_dK, b_sorted_loc, b_sorted_new, b_min2, b_max2, b_abs, v_pop, v_popAt, v_rev, v_bit, v_get1, v_get2, dkO_K, dkO_T, m_pop, popAO_lst, m_popAt, revO_lst, m_rev, m_get1, m_get2, m_bit, dlook_int, popO_int, part_non, part_k, part_v, slc_tup, slc_rol, slc_new, slc_loc, cut_map, und_int, und_bl, und_non, und_str, und_loc, und_tup, und_rol, und_lst, unds_app, und_dK, iop_and, iop_or, iop_xor, setIx_loc, setO_lst, setO_dK, appD_loc, appO_lst, idx_tup, idx_ktu, idx_loc, idx_new, idxO_lst, idxO_dK, pyEq_int, pyEq_bl, c_eq, c_ne, c_lt, c_le, c_gt, c_ge, c_isN, c_notN, isNon_non, isNon_int, isNon_tup, isNon_bl, isNon_loc, tru_int, tru_bl, tru_tup, c_mem, c_nmem, mem_bls, mem_loc, memO_int, mem_tup, ty_nil, ty_cons, ty_int, ty_bl, ty_tup, ty_non, ty_str, grd_loc, grdO_some, grd_tup, grd_new, grd_rol, gOk_one, eT_len, look_eT, put_eT, kInts_eT, Option.bind_some, Option.map_some, Option.isSome_some, get_zero, get_succ, List.map_cons, List.map_nil, List.reduceReplicate, Nat.reduceSub, Nat.reduceAdd, Nat.reduceLeDiff, Nat.reduceLT, Nat.reduceEqDiff, List.append_nil, List.nil_append, List.cons_append, intOf, blOf, bop_int, iop_add, iop_sub, iop_mod, iop_mulR, iop_mulL, iop_fdiv, Int.reduceLT, Int.reduceLE, Int.reduceNeg, fin_f, List.set_cons_zero, List.set_cons_succ, asg, asgs, kill, if_true, if_false, Bool.false_eq_true, app_get0, app_get, app_set0, app_set, app_app, app_take0, app_take, GCok_P, gcP_nil, gcP_cons, gcP_refl, gcP_app, gcP_app_l, gcP_app_r, sigBelow, S.unds, List.take_length, unds_int, false_implies, implies_true, Bool.and_true, Bool.true_and, Bool.and_self, Bool.false_or, Bool.or_false, Bool.true_or, Bool.or_true, Bool.not_true, Bool.not_false, decide_true, decide_false, decide_eq_true_eq, reduceCtorEq, ne_eq, not_true_eq_false, W_bIte, W_if, bindIte, W_some, List.length_cons, List.length_nil, List.length_append, List.length_map, List.length_replicate, List.length_range, List.getElem?_cons_zero, List.getElem?_cons_succ, List.set_nil, List.take_succ_cons, List.take_zero, true_and, and_true, or_true, true_or, eq_self, asInts_map, LINE, Nat.zero_le, Nat.not_lt, Nat.le_add_right, Nat.le_refl, Nat.lt_irrefl, Nat.lt_add_right_iff_pos, Nat.add_lt_add_iff_left, Nat.add_le_add_iff_left, not_false_eq_true, Int.natCast_eq_zero, Nat.add_one_ne_zero])
local macro_rules | `(tactic| walk_at "dvh") => `(tactic| simp -implicitDefEqProofs only [e_var, e_k, e_gl, e_bin, k_bin1, k_bin2, e_neg, k_neg, e_cmp, k_cmp1, k_cmp2, e_chn, k_chn1, k_chn2, k_chn3, e_and, k_and, e_or, k_or, e_not, k_not, e_tru, k_tru, e_ife, k_ife, e_ix, k_ix1, k_ix2, e_slc, k_sl1, k_sl2, k_sl3, e_tup, e_lst, k_tup, k_lst, e_dnK, e_dnT, e_call, k_call, k_fin, e_bi, k_bi, e_mt, k_mt1, k_mt2, e_app, k_app1, k_app2s, k_app2n, e_isi, k_isi, e_rg1, k_rg1, e_rg2, k_rg2, k_rg2b, e_lc, k_lc, k_lcR, lbd_at, k_ls0, k_ls1, k_ls3s, k_ls3n, s_nil, s_cons, k_cons_s, k_cons_n, k_cons2, d_nil, d_cons, k_consD, k_consD2, i_seq, k_sq, i_rng1, k_r1, i_rng2, k_r2, k_r2b, i_rngD, k_rD, k_rDb, i_enum, k_en, i_zip, k_zp1, k_zp2, i_rev, k_rv, r_skip, r_seq, k_seqN, k_seqR, k_seqB, k_seqC, r_asg, k_asgS, k_asgN, r_asgT, k_asgT, r_asgL, k_asgL, r_par, k_par, r_sub, k_sub1s, k_sub1n, k_sub2, k_sub3, r_aug, k_aug, r_augS, k_augS1, k_augS2, k_augS2b, k_augS3, r_exp, k_exp, r_ret, k_ret, r_retN, r_if, k_if, r_whl, r_fr, k_fr, fbd_at, k_run, r_brk, r_cont, r_gc, k_gcR, k_gcN, k_gcC, k_gcB, r_kl, k_kl, r_kill, r_del, k_del1, k_del2, k_endR, k_endN, fin_s, fin_n, finO_some, fin_loc, zl, rev_map, app_int, set_int, lsO_lst, seqL_loc, seqL_new, seqL_rol, lstOf_loc, lstOf_new, seqOf_tup, seqOf_loc, seqOf_new, seqOf_rol, tupOf_tup, tupOf_loc, tupOf_new, dictOf_new, dictOf_loc, b_any, b_all, lenO_lst, lenO_dK, b_len_tup, b_len_loc, b_len_new, b_len_rol, b_int, b_intB, b_tuple, b_list, b_sum, srtO_lst, srtO_dK, b_sorted_loc, b_sorted_new, b_min2, b_max2, b_abs, v_pop, v_popAt, v_rev, v_bit, v_get1, v_get2, dkO_K, dkO_T, m_pop, popAO_lst, m_popAt, revO_lst, m_rev, m_get1, m_get2, m_bit, dlook_int, popO_int, part_non, part_k, part_v, slc_tup, slc_rol, slc_new, slc_loc, cut_map, und_int, und_bl, und_non, und_str, und_loc, und_tup, und_rol, und_lst, unds_app, und_dK, iop_and, iop_or, iop_xor, setIx_loc, setO_lst, setO_dK, appD_loc, appO_lst, idx_tup, idx_ktu, idx_loc, idx_new, idxO_lst, idxO_dK, pyEq_int, pyEq_bl, c_eq, c_ne, c_lt, c_le, c_gt, c_ge, c_isN, c_notN, isNon_non, isNon_int, isNon_tup, isNon_bl, isNon_loc, tru_int, tru_bl, tru_tup, c_mem, c_nmem, mem_bls, mem_loc, memO_int, mem_tup, ty_nil, ty_cons, ty_int, ty_bl, ty_tup, ty_non, ty_str, grd_loc, grdO_some, grd_tup, grd_new, grd_rol, gOk_one, eT_len, look_eT, put_eT, kInts_eT, Option.bind_some, Option.map_some, Option.isSome_some, get_zero, get_succ, List.map_cons, List.map_nil, List.reduceReplicate, Nat.reduceSub, Nat.reduceAdd, Nat.reduceLeDiff, Nat.reduceLT, Nat.reduceEqDiff, List.append_nil, List.nil_append, List.cons_append, intOf, blOf, bop_int, iop_add, iop_sub, iop_mod, iop_mulR, iop_mulL, iop_fdiv, Int.reduceLT, Int.reduceLE, Int.reduceNeg, fin_f, List.set_cons_zero, List.set_cons_succ, asg, asgs, kill, if_true, if_false, Bool.false_eq_true, app_get0, app_get, app_set0, app_set, app_app, app_take0, app_take, GCok_P, gcP_nil, gcP_cons, gcP_refl, gcP_app, gcP_app_l, gcP_app_r, sigBelow, S.unds, List.take_length, unds_int, false_implies, implies_true, Bool.and_true, Bool.true_and, Bool.and_self, Bool.false_or, Bool.or_false, Bool.true_or, Bool.or_true, Bool.not_true, Bool.not_false, decide_true, decide_false, decide_eq_true_eq, reduceCtorEq, ne_eq, not_true_eq_false, W_bIte, W_if, bindIte, W_some, List.length_cons, List.length_nil, List.length_append, List.length_map, List.length_replicate, List.length_range, List.getElem?_cons_zero, List.getElem?_cons_succ, List.set_nil, List.take_succ_cons, List.take_zero, true_and, and_true, or_true, true_or, eq_self, asInts_map, LINE, Nat.zero_le, Nat.not_lt, Nat.le_add_right, Nat.le_refl, Nat.lt_irrefl, Nat.lt_add_right_iff_pos, Nat.add_lt_add_iff_left, Nat.add_le_add_iff_left, not_false_eq_true, Int.natCast_eq_zero, Nat.add_one_ne_zero, *])
local macro_rules | `(tactic| walk_at "wb") => `(tactic| simp only [W_bind, W_map])

theorem lbit_turn {p : Nat} (hF : Fok (.p p)) {k : Nat} (hk : 2 ≤ k) {d : List Int} (hd : Dok (.p p) d) {w : Nat} (hw : 0 < w ∧ w ≤ 64) (a0 a1 a5 : S) (dn : Stm) (q : Int × Int) (μ : Sto) :
    run (callK tb gl k) gl b_law_bit_cells_l1 [some a0, some a1, some (.int p), some (.int w), some (.int (nb p)), some a5, some (iS d), some (.loc (μ.length + w)), some (.int q.1), some (.int q.2), none, none, none] (μ ++ (cellsS w (nb p + 1) (cfF p w d) dn ++ [.lst (locs μ.length w)]))
      = some (.nx, [some a0, some a1, some (.int p), some (.int w), some (.int (nb p)), some a5, some (iS d), some (.loc (μ.length + w)), some (.int q.1), some (.int q.2), some (.loc (μ.length + (cfF p w d q.1).toNat)), none, none], μ ++ (cellsS w (nb p + 1) (cfF p w d) (dn ++ [q]) ++ [.lst (locs μ.length w)])) := by
  have hp := hF.2
  have hnb := nb_le (p := p) (by omega)
  have v0 : 0 ≤ cfF p w d q.1 := Int.emod_nonneg _ (by omega)
  have v1 : cfF p w d q.1 < w := Int.emod_lt_of_pos _ (by omega)
  obtain ⟨j, hj⟩ : ∃ j : Nat, cfF p w d q.1 = (j : Int) := ⟨(cfF p w d q.1).toNat, by omega⟩
  have hjw : j < w := by omega
  have hw' : (0 : Int) < w := by omega
  have ec := lvalue_ok hF hk hd q.1
  have hj2 : valF (.p p) d q.1 % (w : Int) = (j : Int) := hj
  have a1' := locs_at (n := μ.length) (m := w) (i := j) hjw
  have P0 := @cellsP_zero (nb p + 1) (cfF p w d) j dn q w [.lst (locs μ.length w)]
  have PB := @cellsP_all (nb p + 1) (cfF p w d) j dn q w [.lst (locs μ.length w)] hj hjw
  have Pl := @cellsP_last (nb p + 1) (cfF p w d) j dn q w
  have Pg := fun i => @cellsP_get (nb p + 1) (cfF p w d) j dn q w i [.lst (locs μ.length w)] hjw
  have Ps := fun i i' => @cellsP_set (nb p + 1) (cfF p w d) j dn q w i i' [.lst (locs μ.length w)] hjw
  have Pc := fun i => @cellP_len (nb p + 1) (cfF p w d) j dn q i
  have ca := fun i h => @cellP_at (nb p + 1) (cfF p w d) j dn q i h
  have cs := fun i => @cellP_set (nb p + 1) (cfF p w d) j dn q i hj
  rw [← P0, ← PB]
  have c0 : L2.atI ((cellP (nb p + 1) (cfF p w d) j dn q 0).map S.int) 0 = some (.int (L (cP (cfF p w d) j 0) dn)) := ca 0 (by omega)
  have s0 : (cellP (nb p + 1) (cfF p w d) j dn q 0).set 0 (L (cP (cfF p w d) j 0) dn + q.2) = cellP (nb p + 1) (cfF p w d) j dn q 1 := by
    have := cs 0
    simp only [cW, if_true, Int.mul_one] at this
    exact this
  have x0 : L2.ixN (nb p + 1) 0 = some 0 := by unfold L2.ixN; rw [if_pos (by omega), if_pos (by omega)]; rfl
  have hb : b62 (nb p : Int) = true := by simp only [b62, Bool.and_eq_true, decide_eq_true_eq]; omega
  have lp := for_rng (gs := []) (body := fbd (callK tb gl k) gl (.nm 11) (.kl [11] b_law_bit_cells_l2)) (fun _ => [some a0, some a1, some (.int p), some (.int w), some (.int (nb p)), some a5, some (iS d), some (.loc (μ.length + w)), some (.int q.1), some (.int q.2), some (.loc (μ.length + j)), none, none]) (fun i => μ ++ cellsP w (nb p + 1) (cfF p w d) dn q j (i + 1) [.lst (locs μ.length w)]) (nb p) (fun _ => rfl) (fun i hi => by
    have ci : L2.atI ((cellP (nb p + 1) (cfF p w d) j dn q (i + 1)).map S.int) ((i : Int) + 1) = some (.int (L (cP (cfF p w d) j (i + 1)) dn)) := ca (i + 1) (by omega)
    have xi : L2.ixN (nb p + 1) ((i : Int) + 1) = some (i + 1) := by unfold L2.ixN; rw [if_pos (by omega), if_pos (by omega)]; congr 1
    have hr1 : iop .shr q.1 i = some (q.1 / 2 ^ i) := iop_shr (by omega)
    have hb1 : PySem.Builtin.bitAnd (q.1 / 2 ^ i) 1 = q.1 / 2 ^ i % 2 := PyProof.Rows.bitAnd_m1 _
    have hm : iop .mul q.2 (q.1 / 2 ^ i % 2) = some (q.2 * (q.1 / 2 ^ i % 2)) := iop_mulR (by omega)
    have hcw : cW (i + 1) q.1 = q.1 / 2 ^ i % 2 := by simp [cW]
    have si := cs (i + 1)
    rw [hcw] at si
    clear P0 PB Pl ca cs c0 s0 x0 hcw ec v0 v1 hj hk hj2
    simp only [fbd_at]
    walk_at "dvh"
    simp only [b_law_bit_cells_l2]
    walk_at "dvh")
  rw [Nat.zero_add] at lp
  have jt : (((j : Nat) : Int)).toNat = j := Int.toNat_natCast _
  have e7 : (((nb p : Nat) : Int)).toNat = nb p := Int.toNat_natCast _
  clear P0 PB ca cs v0 v1
  simp only [b_law_bit_cells_l1, s_law_bit_cells_l1_0, s_law_bit_cells_l1_1, s_law_bit_cells_l1_2]
  walk_at "dvh"
theorem lbit_cells_ok {p : Nat} (hF : Fok (.p p)) {k : Nat} (hk : 3 ≤ k) {t : List (List Int)} (ht : Tok (.p p) t) {w : Nat} (hw : 0 < w ∧ w ≤ 64) {s : Stm} (μ : Sto) : callK tb gl k Ix.law_bit_cells [sSt s, sTab t, .int p, .int w] μ = some (.s (sCells (bitR p w t s)), μ) := by
  obtain ⟨k, rfl, hj⟩ := at1 hk
  have hp := hF.2
  have hnb := nb_le (p := p) (by omega)
  have hbl : bitLen ((p : Int) - 1) = (nb p : Int) := rfl
  have hbw : b62 (w : Int) = true := by simp only [b62, Bool.and_eq_true, decide_eq_true_eq]; omega
  have ew : ((w : Int).toNat) = w := Int.toNat_natCast _
  have enb : ((nb p : Int) + 1).toNat = nb p + 1 := by omega
  have hU := @und_cells
  have hU1 := @und_rows
  have hU2 := @und_st
  have lt := for_row (gs := []) (body := fbd (callK tb gl k) gl (.nm 6) (.gc [6, 7, 8, 9, 10, 11] b_law_bit_cells_l0)) (f := iS) (all := t) (fun _ _ => [some (sSt s), some (sTab t), some (.int p), some (.int w), some (.int (nb p)), some (.loc μ.length), none, none, none, none, none, none, none]) (fun pre _ => μ ++ [.lst ((bitR p w pre s).map sRows)]) (fun _ _ => rfl) (fun pre d r hall => by
    have hd := ht.2 d (by rw [← hall]; simp)
    have C0 := lc_rng (gs := []) (body := lbd (callK tb gl k) gl (.bin .mul (.lst (.cons (.k (.int 0)) .nil)) (.bin .add (.var 4) (.k (.int 1)))) [12] (.nm 12) (.k (.bl true)) [some (sSt s), some (sTab t), some (.int p), some (.int w), some (.int (nb p)), some (.loc μ.length), some (iS d), none, none, none, none, none, none]) (fun i => S.loc (μ.length + 1 + i)) (fun i => μ ++ (.lst ((bitR p w pre s).map sRows) :: List.replicate i (iO (List.replicate (nb p + 1) 0)))) w (by simp only [LINE]; omega) (fun _ => rfl) (fun i hi => by
      have e := fun μ => @bop_rep μ (.int 0) ((nb p : Int) + 1) (by omega)
      rw [enb] at e
      have e3 : List.replicate (nb p + 1) (S.int 0) = (List.replicate (nb p + 1) 0).map S.int := by simp
      have e4 : List.replicate (i + 1) (iO (List.replicate (nb p + 1) 0)) = List.replicate i (iO (List.replicate (nb p + 1) 0)) ++ [iO (List.replicate (nb p + 1) 0)] := List.replicate_succ'
      have e5 : μ.length + (i + 1) = μ.length + 1 + i := by omega
      rw [e4]
      rw [e3] at e
      clear e3 e4
      simp only [lbd_at]
      walk_at "dvh")
    have z0 : List.replicate w (iO (List.replicate (nb p + 1) 0)) = cellsS w (nb p + 1) (cfF p w d) [] := cellsS_nil.symm
    have el : (List.range w).map (fun i => S.loc (μ.length + 1 + i)) = locs (μ.length + 1) w := rfl
    rw [z0, el] at C0
    have lq := for_row (gs := []) (body := fbd (callK tb gl k) gl (.tp [(.nm 8), (.nm 9)]) (.kl [8, 9, 10, 11] b_law_bit_cells_l1)) (f := sPr) (all := s) (fun _ _ => [some (sSt s), some (sTab t), some (.int p), some (.int w), some (.int (nb p)), some (.loc μ.length), some (iS d), some (.loc (μ.length + (1 + w))), none, none, none, none, none]) (fun dn _ => μ ++ (.lst ((bitR p w pre s).map sRows) :: (cellsS w (nb p + 1) (cfF p w d) dn ++ [.lst (locs (μ.length + 1) w)]))) (fun _ _ => rfl) (fun dn q r hall => by
      have e := lbit_turn hF hj hd hw (sSt s) (sTab t) (.loc μ.length) dn q (μ ++ [.lst ((bitR p w pre s).map sRows)])
      simp only [app_app, List.cons_append, List.nil_append, List.length_append, List.length_cons, List.length_nil, Nat.zero_add, Nat.add_assoc] at e ⊢
      simp only [fbd_at]
      walk_at "dvh")
    have hrl : (cellsR w (nb p + 1) (cfF p w d) s).length = w := by simp [cellsR]
    have hlast : (μ ++ (Ob.lst ((bitR p w pre s).map sRows) :: (cellsS w (nb p + 1) (cfF p w d) s ++ [.lst (locs (μ.length + 1) w)])))[μ.length + (1 + w)]? = some (.lst (locs (μ.length + 1) w)) := by
      rw [app_get, Nat.add_comm 1 w, List.getElem?_cons_succ, List.getElem?_append_right (by simp [cellsS_len])]
      simp [cellsS_len]
    have Cf := lc_froz (c := callK tb gl k) (i := 10) (n := μ.length + 1) (g := [some (sSt s), some (sTab t), some (.int p), some (.int w), some (.int (nb p)), some (.loc μ.length), some (iS d), some (.loc (μ.length + (1 + w))), none, none, none, none, none]) (gs := [(μ.length + (1 + w), .lst (locs (μ.length + 1) w))]) (μ := μ ++ (.lst ((bitR p w pre s).map sRows) :: (cellsS w (nb p + 1) (cfF p w d) s ++ [.lst (locs (μ.length + 1) w)]))) (cellsR w (nb p + 1) (cfF p w d) s) (by rw [hrl]; omega) (fun j hj => by
      rw [hrl] at hj
      rw [Nat.add_assoc, app_get, Nat.add_comm 1 j, List.getElem?_cons_succ, List.getElem?_append_left (by rw [cellsS_len]; exact hj), cellsS_get hj]
      simp [cellsR]) (by rw [gOk_one, hlast]; exact decide_eq_true rfl) (.inr rfl) (.inr rfl)
    rw [hrl] at Cf
    have hl : (bitR p w pre s).length < 16777216 := by
      have := ht.1; rw [← hall, List.length_append] at this; simp only [bitR, List.length_map]; omega
    have n1 : (bitR p w (pre ++ [d]) s).map sRows = (bitR p w pre s).map sRows ++ [sRows (cellsR w (nb p + 1) (cfF p w d) s)] := by simp [bitR]
    rw [n1]
    have hz : List.replicate 0 (iO (List.replicate (nb p + 1) 0)) = [] := rfl
    rw [hz] at C0
    have hcl : (cellsS w (nb p + 1) (cfF p w d) []).length = w := cellsS_len
    have hcl2 : (cellsS w (nb p + 1) (cfF p w d) s).length = w := cellsS_len
    have ha2 : ∀ (o : Ob), (cellsS w (nb p + 1) (cfF p w d) s ++ [o])[w]? = some o := fun o => by rw [List.getElem?_append_right (by simp [cellsS_len])]; simp [cellsS_len]
    rw [Nat.add_comm 1 w] at lq Cf
    clear n1 hz z0 el hall hrl enb hlast
    simp only [fbd_at]
    walk_at "dvh"
    simp only [b_law_bit_cells_l0, s_law_bit_cells_l0_0, s_law_bit_cells_l0_1, s_law_bit_cells_l0_2]
    walk_at "dvh")
  have z : (bitR p w [] s).map sRows = [] := rfl
  rw [z] at lt
  clear z enb hnb
  rw [call_at' (b := b_law_bit_cells) rfl rfl]
  simp only [b_law_bit_cells, s_law_bit_cells_0, s_law_bit_cells_1, s_law_bit_cells_2, s_law_bit_cells_3]
  walk_at "dvh"
end Pg
end
section
set_option Elab.async false
set_option linter.all false
set_option maxRecDepth 100000
set_option maxHeartbeats 4000000
namespace Pg
open Dv
/-! ### what the counts are worth -/
theorem lk0_put {t : List (Int × Int)} {k j v : Int} : lk0 (put t k v) j = if j = k then v else lk0 t j := by
  unfold lk0
  rw [look_put]
  split <;> rfl
theorem put_new {t : List (Int × Int)} {k v : Int} (h : k ∉ t.map (·.1)) : put t k v = t ++ [(k, v)] := by
  unfold put
  rw [if_neg]
  intro e
  simp only [List.any_eq_true, decide_eq_true_eq] at e
  obtain ⟨p, hp, e⟩ := e
  exact h (List.mem_map.mpr ⟨p, hp, e⟩)
theorem lk0_out {t : List (Int × Int)} {k : Int} (h : k ∉ t.map (·.1)) : lk0 t k = 0 := by
  unfold lk0
  cases hh : look t k with
  | none => rfl
  | some v => exact absurd (look_mem.mp (by rw [hh]; rfl)) h
theorem L_upd {φ : Int → Int} {k c : Int} : ∀ {t : List (Int × Int)}, (t.map (·.1)).Nodup → k ∈ t.map (·.1) → L φ (t.map fun kv => if kv.1 = k then (kv.1, lk0 t k + c) else kv) = L φ t + c * φ k
  | [], _, h => by simp at h
  | p :: r, hn, h => by
    simp only [List.map_cons, List.nodup_cons] at hn
    by_cases hp : p.1 = k
    · have hr : (r.map fun kv => if kv.1 = k then (kv.1, lk0 (p :: r) k + c) else kv) = r := by
        rw [List.map_congr_left (g := id)]
        · simp
        · intro q hq
          have : ¬ q.1 = k := fun e => hn.1 (by rw [hp, ← e]; exact List.mem_map_of_mem hq)
          simp [this]
      have hl : lk0 (p :: r) k = p.2 := by simp [lk0, look, hp]
      simp only [List.map_cons, L_cons, hr, if_pos hp]
      rw [hl, hp, Int.add_mul]
      omega
    · have hk : k ∈ r.map (·.1) := by
        simp only [List.map_cons, List.mem_cons] at h
        rcases h with h | h
        · exact absurd h.symm hp
        · exact h
      have hl : lk0 (p :: r) k = lk0 r k := by simp [lk0, look, hp]
      have ih := L_upd (φ := φ) (c := c) hn.2 hk
      simp only [List.map_cons, L_cons, if_neg hp, hl, ih]
      omega
theorem L_put {φ : Int → Int} {t : List (Int × Int)} {k c : Int} (hn : (t.map (·.1)).Nodup) : L φ (put t k (lk0 t k + c)) = L φ t + c * φ k := by
  by_cases h : k ∈ t.map (·.1)
  · have e : (t.any fun kv => decide (kv.1 = k)) = true := by
      simp only [List.any_eq_true, decide_eq_true_eq]
      obtain ⟨p, hp, e⟩ := List.mem_map.mp h
      exact ⟨p, hp, e⟩
    unfold put
    rw [if_pos e]
    exact L_upd hn h
  · rw [put_new h, lk0_out h, L_app, L_one, Int.zero_add]
theorem L_cDf {φ : Int → Int} : ∀ (s : Stm) (t : List (Int × Int)), (t.map (·.1)).Nodup → L φ (s.foldl (fun t p => put t p.1 (lk0 t p.1 + p.2)) t) = L φ t + L φ s
  | [], t, _ => by simp [L_nil]
  | p :: r, t, h => by
    have hn := cD_nodup [p] t h
    simp only [List.foldl_cons, List.foldl_nil] at hn
    rw [List.foldl_cons, L_cDf r _ hn, L_put h, L_cons]
    omega
theorem L_cD {φ : Int → Int} {s : Stm} : L φ (cD s) = L φ s := by
  have := L_cDf (φ := φ) s [] List.nodup_nil
  rw [L_nil, Int.zero_add] at this
  exact this
theorem L_perm {φ : Int → Int} {a b : Stm} (h : a.Perm b) : L φ a = L φ b := by
  induction h with
  | nil => rfl
  | cons x _ ih => rw [L_cons, L_cons, ih]
  | swap x y l => rw [L_cons, L_cons, L_cons, L_cons]; omega
  | trans _ _ h1 h2 => rw [h1, h2]
theorem L_filter {φ : Int → Int} {h : Int → Int} : ∀ (l : List Int), L φ ((l.filter fun k => h k != 0).map fun k => (k, h k)) = L φ (l.map fun k => (k, h k))
  | [] => rfl
  | k :: r => by
    have ih := L_filter (φ := φ) (h := h) r
    by_cases e : h k = 0
    · have : (h k != 0) = false := by simp [e]
      simp only [List.filter_cons, this, List.map_cons, L_cons, e]
      simp [ih]
    · have : (h k != 0) = true := by simp [e]
      simp only [List.filter_cons, this, if_true, List.map_cons, L_cons, ih]
theorem self_map : ∀ {t : List (Int × Int)}, (t.map (·.1)).Nodup → (t.map (·.1)).map (fun k => (k, lk0 t k)) = t
  | [], _ => rfl
  | p :: r, h => by
    simp only [List.map_cons, List.nodup_cons] at h
    have ih := self_map h.2
    simp only [List.map_cons]
    have hl : lk0 (p :: r) p.1 = p.2 := by simp [lk0, look]
    rw [hl]
    congr 1
    refine Eq.trans (List.map_congr_left fun x hx => ?_) ih
    have : ¬ p.1 = x := fun e => h.1 (by rw [e]; exact hx)
    simp [lk0, look, this]
theorem cD_nd (s : Stm) : ((cD s).map (·.1)).Nodup := cD_nodup s [] List.nodup_nil
theorem L_cF {φ : Int → Int} {s : Stm} : L φ (cF s) = L φ s := by
  unfold cF
  rw [L_filter (h := fun k => lk0 (cD s) k)]
  rw [L_perm ((mergeI_perm ((cD s).map (·.1))).map _), self_map (cD_nd s), L_cD]
/-! ### the counts of a stream in another order -/
theorem cD_lk : ∀ (s : Stm) (t : List (Int × Int)) (k : Int), lk0 (s.foldl (fun t p => put t p.1 (lk0 t p.1 + p.2)) t) k = lk0 t k + L (fun x => if x = k then 1 else 0) s
  | [], t, k => by simp [L_nil]
  | p :: r, t, k => by
    rw [List.foldl_cons, cD_lk r, lk0_put, L_cons]
    by_cases h : k = p.1
    · subst h; simp; omega
    · have : ¬ p.1 = k := fun e => h e.symm
      simp [h, this]
theorem cD_in : ∀ (s : Stm) (t : List (Int × Int)) (k : Int), k ∈ (s.foldl (fun t p => put t p.1 (lk0 t p.1 + p.2)) t).map (·.1) ↔ k ∈ t.map (·.1) ∨ k ∈ s.map (·.1)
  | [], t, k => by simp
  | p :: r, t, k => by
    rw [List.foldl_cons, cD_in r, put_keys]
    split
    · rename_i h
      simp only [List.map_cons, List.mem_cons]
      constructor
      · rintro (h | h)
        · exact .inl h
        · exact .inr (.inr h)
      · rintro (h' | h' | h')
        · exact .inl h'
        · exact .inl (by rw [h']; exact h)
        · exact .inr h'
    · simp only [List.map_cons, List.mem_cons, List.mem_append, List.mem_singleton, List.not_mem_nil, or_false, or_assoc]
theorem cF_perm {a b : Stm} (h : a.Perm b) : cF a = cF b := by
  have h1 : ∀ k, lk0 (cD a) k = lk0 (cD b) k := fun k => by
    have e1 := cD_lk a [] k
    have e2 := cD_lk b [] k
    unfold cD
    rw [e1, e2, L_perm h]
  have h2 : mergeI ((cD a).map (·.1)) = mergeI ((cD b).map (·.1)) := by
    refine sorted_uniq ?_ (mergeI_sorted _) (mergeI_sorted _)
    refine (mergeI_perm _).trans (List.Perm.trans ?_ (mergeI_perm _).symm)
    refine (List.perm_ext_iff_of_nodup (cD_nd a) (cD_nd b)).mpr fun k => ?_
    have e1 := cD_in a [] k
    have e2 := cD_in b [] k
    have e3 := (h.map (·.1)).mem_iff (a := k)
    unfold cD
    rw [e1, e2, e3]
  unfold cF
  rw [h2]
  have : (fun k => lk0 (cD a) k) = fun k => lk0 (cD b) k := funext h1
  simp only [h1]
/-! ### rows of sums add up -/
theorem iRow_cF {w : Nat} {f g : Int → Int} {s : Stm} : iRow w f g (cF s) = iRow w f g s := by simp only [iRow, L_cF]
theorem iRow_add {w : Nat} {f g : Int → Int} {a b : Stm} : addR (iRow w f g a) (iRow w f g b) = iRow w f g (a ++ b) := by
  apply List.ext_getElem
  · simp [addR, iRow]
  · intro i h1 h2
    simp only [iRow, List.length_map, List.length_range] at h2
    simp [addR, iRow, L_app]
theorem tabR_cF {α : Type} {w : Nat} {f g : α → Int → Int} {t : List α} {s : Stm} : tabR w f g t (cF s) = tabR w f g t s := by simp only [tabR, iRow_cF]
theorem addRs_map {α : Type} {l : List α} {u v z : α → List Int} (h : ∀ x ∈ l, addR (u x) (v x) = z x) : addRs (l.map u) (l.map v) = l.map z := by
  induction l with
  | nil => rfl
  | cons x r ih =>
    have e := ih fun y hy => h y (by simp [hy])
    simp only [addRs] at e ⊢
    simp only [List.map_cons, List.zip_cons_cons, h x (by simp), e]
theorem tabR_add {α : Type} {w : Nat} {f g : α → Int → Int} {t : List α} {a b : Stm} : addRs (tabR w f g t a) (tabR w f g t b) = tabR w f g t (a ++ b) := addRs_map fun _ _ => iRow_add
end Pg
end
section
set_option Elab.async false
set_option linter.all false
set_option maxRecDepth 100000
set_option maxHeartbeats 4000000
namespace Pg
open Dv
local macro_rules | `(tactic| walk_at "dv") => `(tactic| simp -implicitDefEqProofs only [e_var, e_k, e_gl, e_bin, k_bin1, k_bin2, e_neg, k_neg, e_cmp, k_cmp1, k_cmp2, e_chn, k_chn1, k_chn2, k_chn3, e_and, k_and, e_or, k_or, e_not, k_not, e_tru, k_tru, e_ife, k_ife, e_ix, k_ix1, k_ix2, e_slc, k_sl1, k_sl2, k_sl3, e_tup, e_lst, k_tup, k_lst, e_dnK, e_dnT, e_call, k_call, k_fin, e_bi, k_bi, e_mt, k_mt1, k_mt2, e_app, k_app1, k_app2s, k_app2n, e_isi, k_isi, e_rg1, k_rg1, e_rg2, k_rg2, k_rg2b, e_lc, k_lc, k_lcR, lbd_at, k_ls0, k_ls1, k_ls3s, k_ls3n, s_nil, s_cons, k_cons_s, k_cons_n, k_cons2, d_nil, d_cons, k_consD, k_consD2, i_seq, k_sq, i_rng1, k_r1, i_rng2, k_r2, k_r2b, i_rngD, k_rD, k_rDb, i_enum, k_en, i_zip, k_zp1, k_zp2, i_rev, k_rv, r_skip, r_seq, k_seqN, k_seqR, k_seqB, k_seqC, r_asg, k_asgS, k_asgN, r_asgT, k_asgT, r_asgL, k_asgL, r_par, k_par, r_sub, k_sub1s, k_sub1n, k_sub2, k_sub3, r_aug, k_aug, r_augS, k_augS1, k_augS2, k_augS2b, k_augS3, r_exp, k_exp, r_ret, k_ret, r_retN, r_if, k_if, r_whl, r_fr, k_fr, fbd_at, k_run, r_brk, r_cont, r_gc, k_gcR, k_gcN, k_gcC, k_gcB, r_kl, k_kl, r_kill, r_del, k_del1, k_del2, k_endR, k_endN, fin_s, fin_n, finO_some, fin_loc, zl, rev_map, app_int, set_int, lsO_lst, seqL_loc, seqL_new, seqL_rol, lstOf_loc, lstOf_new, seqOf_tup, seqOf_loc, seqOf_new, seqOf_rol, tupOf_tup, tupOf_loc, tupOf_new, dictOf_new, dictOf_loc, b_any, b_all, lenO_lst, lenO_dK, b_len_tup, b_len_loc, b_len_new, b_len_rol, b_int, b_intB, b_tuple, b_list, b_sum, srtO_lst, srtO_dK, b_sorted_loc, b_sorted_new, b_min2, b_max2, b_abs, v_pop, v_popAt, v_rev, v_bit, v_get1, v_get2, dkO_K, dkO_T, m_pop, popAO_lst, m_popAt, revO_lst, m_rev, m_get1, m_get2, m_bit, dlook_int, popO_int, part_non, part_k, part_v, slc_tup, slc_rol, slc_new, slc_loc, cut_map, und_int, und_bl, und_non, und_str, und_loc, und_tup, und_rol, und_lst, unds_app, und_dK, iop_and, iop_or, iop_xor, setIx_loc, setO_lst, setO_dK, appD_loc, appO_lst, idx_tup, idx_ktu, idx_loc, idx_new, idxO_lst, idxO_dK, pyEq_int, pyEq_bl, c_eq, c_ne, c_lt, c_le, c_gt, c_ge, c_isN, c_notN, isNon_non, isNon_int, isNon_tup, isNon_bl, isNon_loc, tru_int, tru_bl, tru_tup, c_mem, c_nmem, mem_bls, mem_loc, memO_int, mem_tup, ty_nil, ty_cons, ty_int, ty_bl, ty_tup, ty_non, ty_str, grd_loc, grdO_some, grd_tup, grd_new, grd_rol, gOk_one, eT_len, look_eT, put_eT, kInts_eT, Option.bind_some, Option.map_some, Option.isSome_some, get_zero, get_succ, List.map_cons, List.map_nil, List.reduceReplicate, Nat.reduceSub, Nat.reduceAdd, Nat.reduceLeDiff, Nat.reduceLT, Nat.reduceEqDiff, List.append_nil, List.nil_append, List.cons_append, intOf, blOf, bop_int, iop_add, iop_sub, iop_mod, iop_mulR, iop_mulL, iop_fdiv, Int.reduceLT, Int.reduceLE, Int.reduceNeg, fin_f, List.set_cons_zero, List.set_cons_succ, asg, asgs, kill, if_true, if_false, Bool.false_eq_true, app_get0, app_get, app_set0, app_set, app_app, app_take0, app_take, GCok_P, gcP_nil, gcP_cons, gcP_refl, gcP_app, gcP_app_l, gcP_app_r, sigBelow, S.unds, List.take_length, unds_int, false_implies, implies_true, Bool.and_true, Bool.true_and, Bool.and_self, Bool.false_or, Bool.or_false, Bool.true_or, Bool.or_true, Bool.not_true, Bool.not_false, decide_true, decide_false, decide_eq_true_eq, reduceCtorEq, ne_eq, not_true_eq_false, W_bIte, W_if, bindIte, W_some, List.length_cons, List.length_nil, List.length_append, List.length_map, List.length_replicate, List.length_range, List.getElem?_cons_zero, List.getElem?_cons_succ, List.set_nil, List.take_succ_cons, List.take_zero, true_and, and_true, or_true, true_or, eq_self, asInts_map, LINE, Nat.zero_le, Nat.not_lt, Nat.le_add_right, Nat.le_refl, Nat.lt_irrefl, Nat.lt_add_right_iff_pos, Nat.add_lt_add_iff_left, Nat.add_le_add_iff_left, not_false_eq_true, Int.natCast_eq_zero, Nat.add_one_ne_zero])
local macro_rules | `(tactic| walk_at "dvh") => `(tactic| simp -implicitDefEqProofs only [e_var, e_k, e_gl, e_bin, k_bin1, k_bin2, e_neg, k_neg, e_cmp, k_cmp1, k_cmp2, e_chn, k_chn1, k_chn2, k_chn3, e_and, k_and, e_or, k_or, e_not, k_not, e_tru, k_tru, e_ife, k_ife, e_ix, k_ix1, k_ix2, e_slc, k_sl1, k_sl2, k_sl3, e_tup, e_lst, k_tup, k_lst, e_dnK, e_dnT, e_call, k_call, k_fin, e_bi, k_bi, e_mt, k_mt1, k_mt2, e_app, k_app1, k_app2s, k_app2n, e_isi, k_isi, e_rg1, k_rg1, e_rg2, k_rg2, k_rg2b, e_lc, k_lc, k_lcR, lbd_at, k_ls0, k_ls1, k_ls3s, k_ls3n, s_nil, s_cons, k_cons_s, k_cons_n, k_cons2, d_nil, d_cons, k_consD, k_consD2, i_seq, k_sq, i_rng1, k_r1, i_rng2, k_r2, k_r2b, i_rngD, k_rD, k_rDb, i_enum, k_en, i_zip, k_zp1, k_zp2, i_rev, k_rv, r_skip, r_seq, k_seqN, k_seqR, k_seqB, k_seqC, r_asg, k_asgS, k_asgN, r_asgT, k_asgT, r_asgL, k_asgL, r_par, k_par, r_sub, k_sub1s, k_sub1n, k_sub2, k_sub3, r_aug, k_aug, r_augS, k_augS1, k_augS2, k_augS2b, k_augS3, r_exp, k_exp, r_ret, k_ret, r_retN, r_if, k_if, r_whl, r_fr, k_fr, fbd_at, k_run, r_brk, r_cont, r_gc, k_gcR, k_gcN, k_gcC, k_gcB, r_kl, k_kl, r_kill, r_del, k_del1, k_del2, k_endR, k_endN, fin_s, fin_n, finO_some, fin_loc, zl, rev_map, app_int, set_int, lsO_lst, seqL_loc, seqL_new, seqL_rol, lstOf_loc, lstOf_new, seqOf_tup, seqOf_loc, seqOf_new, seqOf_rol, tupOf_tup, tupOf_loc, tupOf_new, dictOf_new, dictOf_loc, b_any, b_all, lenO_lst, lenO_dK, b_len_tup, b_len_loc, b_len_new, b_len_rol, b_int, b_intB, b_tuple, b_list, b_sum, srtO_lst, srtO_dK, b_sorted_loc, b_sorted_new, b_min2, b_max2, b_abs, v_pop, v_popAt, v_rev, v_bit, v_get1, v_get2, dkO_K, dkO_T, m_pop, popAO_lst, m_popAt, revO_lst, m_rev, m_get1, m_get2, m_bit, dlook_int, popO_int, part_non, part_k, part_v, slc_tup, slc_rol, slc_new, slc_loc, cut_map, und_int, und_bl, und_non, und_str, und_loc, und_tup, und_rol, und_lst, unds_app, und_dK, iop_and, iop_or, iop_xor, setIx_loc, setO_lst, setO_dK, appD_loc, appO_lst, idx_tup, idx_ktu, idx_loc, idx_new, idxO_lst, idxO_dK, pyEq_int, pyEq_bl, c_eq, c_ne, c_lt, c_le, c_gt, c_ge, c_isN, c_notN, isNon_non, isNon_int, isNon_tup, isNon_bl, isNon_loc, tru_int, tru_bl, tru_tup, c_mem, c_nmem, mem_bls, mem_loc, memO_int, mem_tup, ty_nil, ty_cons, ty_int, ty_bl, ty_tup, ty_non, ty_str, grd_loc, grdO_some, grd_tup, grd_new, grd_rol, gOk_one, eT_len, look_eT, put_eT, kInts_eT, Option.bind_some, Option.map_some, Option.isSome_some, get_zero, get_succ, List.map_cons, List.map_nil, List.reduceReplicate, Nat.reduceSub, Nat.reduceAdd, Nat.reduceLeDiff, Nat.reduceLT, Nat.reduceEqDiff, List.append_nil, List.nil_append, List.cons_append, intOf, blOf, bop_int, iop_add, iop_sub, iop_mod, iop_mulR, iop_mulL, iop_fdiv, Int.reduceLT, Int.reduceLE, Int.reduceNeg, fin_f, List.set_cons_zero, List.set_cons_succ, asg, asgs, kill, if_true, if_false, Bool.false_eq_true, app_get0, app_get, app_set0, app_set, app_app, app_take0, app_take, GCok_P, gcP_nil, gcP_cons, gcP_refl, gcP_app, gcP_app_l, gcP_app_r, sigBelow, S.unds, List.take_length, unds_int, false_implies, implies_true, Bool.and_true, Bool.true_and, Bool.and_self, Bool.false_or, Bool.or_false, Bool.true_or, Bool.or_true, Bool.not_true, Bool.not_false, decide_true, decide_false, decide_eq_true_eq, reduceCtorEq, ne_eq, not_true_eq_false, W_bIte, W_if, bindIte, W_some, List.length_cons, List.length_nil, List.length_append, List.length_map, List.length_replicate, List.length_range, List.getElem?_cons_zero, List.getElem?_cons_succ, List.set_nil, List.take_succ_cons, List.take_zero, true_and, and_true, or_true, true_or, eq_self, asInts_map, LINE, Nat.zero_le, Nat.not_lt, Nat.le_add_right, Nat.le_refl, Nat.lt_irrefl, Nat.lt_add_right_iff_pos, Nat.add_lt_add_iff_left, Nat.add_le_add_iff_left, not_false_eq_true, Int.natCast_eq_zero, Nat.add_one_ne_zero, *])
local macro_rules | `(tactic| walk_at "wb") => `(tactic| simp only [W_bind, W_map])

/-! ### what is drawn -/
def fsz : Fd → Int
  | .p p => p
  | .g m => ((2 ^ m : Nat) : Int)
theorem fsize_ok {F : Fd} (hF : Fok F) {k : Nat} (hk : 1 ≤ k) (μ : Sto) : callK tb gl k Ix.law_field_size [sF F] μ = some (.s (.int (fsz F)), μ) := by
  obtain ⟨k, rfl, hj⟩ := at1 hk
  rw [call_at' (b := b_law_field_size) rfl rfl]
  simp only [b_law_field_size]
  cases F with
  | p p =>
    simp only [sF, fsz]
    walk_at "dvh"
  | g m =>
    have e : L2.atI [S.int 2, .int (m : Int)] 1 = some (.int m) := rfl
    have hm := hF.2
    have esh : iop .shl 1 (m : Int) = some ((2 ^ m : Nat) : Int) := by
      rw [iop_shl (by omega)]
      congr 1
      simp
    simp only [sF, fsz]
    walk_at "dvh"
theorem draw_ok {F : Fd} (hF : Fok F) (hz : 0 < fsz F ∧ fsz F ≤ 32) {k : Nat} (hk : 3 ≤ k) {n : Nat} (hn : n ≤ 4) (ds : List Int) (ρ : Sto) : ∃ d ds', Dok F d ∧ callK tb gl k Ix.law_draw [.loc 0, sF F, .int n] (dr ds :: ρ) = some (.s (iS d), dr ds' :: ρ) := by
  obtain ⟨k, rfl, hj⟩ := at1 hk
  have hb : b62 (n : Int) = true := by simp only [b62, Bool.and_eq_true, decide_eq_true_eq]; omega
  have en : ((n : Int).toNat) = n := Int.toNat_natCast _
  have ef := fun μ => fsize_ok hF (k := k) (by omega) μ
  obtain ⟨d, ds', e, hI, hl⟩ := lc_st (gs := []) (body := lbd (callK tb gl k) gl (.call Ix.law_take false (.cons (.var 0) (.cons (.call Ix.law_field_size false (.cons (.var 1) .nil)) .nil))) [3] (.nm 3) (.k (.bl true)) [some (.loc 0), some (sF F), some (.int n), none]) nI S.int (fun ds => dr ds :: ρ) (fun r acc _ => (∀ c ∈ acc, 0 ≤ c ∧ c < 2 ^ 5) ∧ acc.length + r.length ≤ 4) (fun _ _ _ _ => rfl) (fun i r acc ds hI => by
      obtain ⟨v, ds', v0, v1, e⟩ := take_ok (k := k) (by omega) hz.1 ds ρ
      refine ⟨v, ds', ?_, fun c hc => ?_, by have := hI.2; simp only [List.length_append, List.length_cons, List.length_nil] at this ⊢; omega⟩
      · simp only [lbd_at]
        walk_at "dvh"
      · rcases List.mem_append.mp hc with hc | hc
        · exact hI.1 c hc
        · simp only [List.mem_singleton] at hc; subst hc; exact ⟨v0, by omega⟩) (List.range n) [] ds ⟨by simp, by simpa using hn⟩ (by simp only [List.length_nil, List.length_range, LINE]; omega)
  have hr := rngI_nat n
  rw [List.map_nil] at e
  refine ⟨d, ds', ⟨by simpa using hl, hI⟩, ?_⟩
  rw [call_at' (b := b_law_draw) rfl rfl]
  simp only [b_law_draw]
  walk_at "dvh"
theorem dtable_ok {p : Int} (hF : Fok (.p p)) (hp : p ≤ 32) {k : Nat} (hk : 4 ≤ k) {m : Int} (hm : 0 < m ∧ m ≤ 60) (ds : List Int) (ρ : Sto) : ∃ t ds', Tok (.p p) t ∧ callK tb gl k Ix.law_drawn_table [.loc 0, .int p, .int m] (dr ds :: ρ) = some (.s (sTab t), dr ds' :: ρ) := by
  obtain ⟨k, rfl, hj⟩ := at1 hk
  obtain ⟨v, ds1, v0, v1, e1⟩ := take_ok (k := k) (by omega) hm.1 ds ρ
  obtain ⟨n, hn⟩ : ∃ n : Nat, 1 + v = (n : Int) := ⟨(1 + v).toNat, by omega⟩
  have hb : b62 (n : Int) = true := by simp only [b62, Bool.and_eq_true, decide_eq_true_eq]; omega
  have en : ((n : Int).toNat) = n := Int.toNat_natCast _
  have hU := @und_rows
  have h2 := hF.1
  obtain ⟨t, ds', e, hI, hl⟩ := lc_st (gs := []) (body := lbd (callK tb gl k) gl (.call Ix.law_draw false (.cons (.var 0) (.cons (.var 1) (.cons (.k (.int 2)) .nil)))) [3] (.nm 3) (.k (.bl true)) [some (.loc 0), some (.int p), some (.int m), none]) nI iS (fun ds => dr ds :: ρ) (fun r acc _ => (∀ d ∈ acc, Dok (.p p) d) ∧ acc.length + r.length ≤ 64) (fun _ _ _ _ => rfl) (fun i r acc ds hI => by
      obtain ⟨d, ds', hd, e⟩ := draw_ok hF (show 0 < p ∧ p ≤ 32 from ⟨by omega, hp⟩) hj (n := 2) (by omega) ds ρ
      refine ⟨d, ds', ?_, fun c hc => ?_, by have := hI.2; simp only [List.length_append, List.length_cons, List.length_nil] at this ⊢; omega⟩
      · have e' : callK tb gl k Ix.law_draw [.loc 0, .int p, .int 2] (dr ds :: ρ) = some (.s (iS d), dr ds' :: ρ) := e
        simp only [lbd_at]
        clear e
        walk_at "dvh"
      · rcases List.mem_append.mp hc with hc | hc
        · exact hI.1 c hc
        · simp only [List.mem_singleton] at hc; subst hc; exact hd) (List.range n) [] ds1 ⟨by simp, by simp only [List.length_nil, List.length_range]; omega⟩ (by simp only [List.length_nil, List.length_range, LINE]; omega)
  have hr := rngI_nat n
  rw [List.map_nil] at e
  refine ⟨t, ds', ⟨by simpa using hl, hI⟩, ?_⟩
  rw [call_at' (b := b_law_drawn_table) rfl rfl]
  simp only [b_law_drawn_table]
  walk_at "dvh"
end Pg
end
section
set_option Elab.async false
set_option linter.all false
set_option maxRecDepth 100000
set_option maxHeartbeats 4000000
namespace Pg
open Dv
local macro_rules | `(tactic| walk_at "dv") => `(tactic| simp -implicitDefEqProofs only [e_var, e_k, e_gl, e_bin, k_bin1, k_bin2, e_neg, k_neg, e_cmp, k_cmp1, k_cmp2, e_chn, k_chn1, k_chn2, k_chn3, e_and, k_and, e_or, k_or, e_not, k_not, e_tru, k_tru, e_ife, k_ife, e_ix, k_ix1, k_ix2, e_slc, k_sl1, k_sl2, k_sl3, e_tup, e_lst, k_tup, k_lst, e_dnK, e_dnT, e_call, k_call, k_fin, e_bi, k_bi, e_mt, k_mt1, k_mt2, e_app, k_app1, k_app2s, k_app2n, e_isi, k_isi, e_rg1, k_rg1, e_rg2, k_rg2, k_rg2b, e_lc, k_lc, k_lcR, lbd_at, k_ls0, k_ls1, k_ls3s, k_ls3n, s_nil, s_cons, k_cons_s, k_cons_n, k_cons2, d_nil, d_cons, k_consD, k_consD2, i_seq, k_sq, i_rng1, k_r1, i_rng2, k_r2, k_r2b, i_rngD, k_rD, k_rDb, i_enum, k_en, i_zip, k_zp1, k_zp2, i_rev, k_rv, r_skip, r_seq, k_seqN, k_seqR, k_seqB, k_seqC, r_asg, k_asgS, k_asgN, r_asgT, k_asgT, r_asgL, k_asgL, r_par, k_par, r_sub, k_sub1s, k_sub1n, k_sub2, k_sub3, r_aug, k_aug, r_augS, k_augS1, k_augS2, k_augS2b, k_augS3, r_exp, k_exp, r_ret, k_ret, r_retN, r_if, k_if, r_whl, r_fr, k_fr, fbd_at, k_run, r_brk, r_cont, r_gc, k_gcR, k_gcN, k_gcC, k_gcB, r_kl, k_kl, r_kill, r_del, k_del1, k_del2, k_endR, k_endN, fin_s, fin_n, finO_some, fin_loc, zl, rev_map, app_int, set_int, lsO_lst, seqL_loc, seqL_new, seqL_rol, lstOf_loc, lstOf_new, seqOf_tup, seqOf_loc, seqOf_new, seqOf_rol, tupOf_tup, tupOf_loc, tupOf_new, dictOf_new, dictOf_loc, b_any, b_all, lenO_lst, lenO_dK, b_len_tup, b_len_loc, b_len_new, b_len_rol, b_int, b_intB, b_tuple, b_list, b_sum, srtO_lst, srtO_dK, b_sorted_loc, b_sorted_new, b_min2, b_max2, b_abs, v_pop, v_popAt, v_rev, v_bit, v_get1, v_get2, dkO_K, dkO_T, m_pop, popAO_lst, m_popAt, revO_lst, m_rev, m_get1, m_get2, m_bit, dlook_int, popO_int, part_non, part_k, part_v, slc_tup, slc_rol, slc_new, slc_loc, cut_map, und_int, und_bl, und_non, und_str, und_loc, und_tup, und_rol, und_lst, unds_app, und_dK, iop_and, iop_or, iop_xor, setIx_loc, setO_lst, setO_dK, appD_loc, appO_lst, idx_tup, idx_ktu, idx_loc, idx_new, idxO_lst, idxO_dK, pyEq_int, pyEq_bl, c_eq, c_ne, c_lt, c_le, c_gt, c_ge, c_isN, c_notN, isNon_non, isNon_int, isNon_tup, isNon_bl, isNon_loc, tru_int, tru_bl, tru_tup, c_mem, c_nmem, mem_bls, mem_loc, memO_int, mem_tup, ty_nil, ty_cons, ty_int, ty_bl, ty_tup, ty_non, ty_str, grd_loc, grdO_some, grd_tup, grd_new, grd_rol, gOk_one, eT_len, look_eT, put_eT, kInts_eT, Option.bind_some, Option.map_some, Option.isSome_some, get_zero, get_succ, List.map_cons, List.map_nil, List.reduceReplicate, Nat.reduceSub, Nat.reduceAdd, Nat.reduceLeDiff, Nat.reduceLT, Nat.reduceEqDiff, List.append_nil, List.nil_append, List.cons_append, intOf, blOf, bop_int, iop_add, iop_sub, iop_mod, iop_mulR, iop_mulL, iop_fdiv, Int.reduceLT, Int.reduceLE, Int.reduceNeg, fin_f, List.set_cons_zero, List.set_cons_succ, asg, asgs, kill, if_true, if_false, Bool.false_eq_true, app_get0, app_get, app_set0, app_set, app_app, app_take0, app_take, GCok_P, gcP_nil, gcP_cons, gcP_refl, gcP_app, gcP_app_l, gcP_app_r, sigBelow, S.unds, List.take_length, unds_int, false_implies, implies_true, Bool.and_true, Bool.true_and, Bool.and_self, Bool.false_or, Bool.or_false, Bool.true_or, Bool.or_true, Bool.not_true, Bool.not_false, decide_true, decide_false, decide_eq_true_eq, reduceCtorEq, ne_eq, not_true_eq_false, W_bIte, W_if, bindIte, W_some, List.length_cons, List.length_nil, List.length_append, List.length_map, List.length_replicate, List.length_range, List.getElem?_cons_zero, List.getElem?_cons_succ, List.set_nil, List.take_succ_cons, List.take_zero, true_and, and_true, or_true, true_or, eq_self, asInts_map, LINE, Nat.zero_le, Nat.not_lt, Nat.le_add_right, Nat.le_refl, Nat.lt_irrefl, Nat.lt_add_right_iff_pos, Nat.add_lt_add_iff_left, Nat.add_le_add_iff_left, not_false_eq_true, Int.natCast_eq_zero, Nat.add_one_ne_zero])
local macro_rules | `(tactic| walk_at "dvh") => `(tactic| simp -implicitDefEqProofs only [e_var, e_k, e_gl, e_bin, k_bin1, k_bin2, e_neg, k_neg, e_cmp, k_cmp1, k_cmp2, e_chn, k_chn1, k_chn2, k_chn3, e_and, k_and, e_or, k_or, e_not, k_not, e_tru, k_tru, e_ife, k_ife, e_ix, k_ix1, k_ix2, e_slc, k_sl1, k_sl2, k_sl3, e_tup, e_lst, k_tup, k_lst, e_dnK, e_dnT, e_call, k_call, k_fin, e_bi, k_bi, e_mt, k_mt1, k_mt2, e_app, k_app1, k_app2s, k_app2n, e_isi, k_isi, e_rg1, k_rg1, e_rg2, k_rg2, k_rg2b, e_lc, k_lc, k_lcR, lbd_at, k_ls0, k_ls1, k_ls3s, k_ls3n, s_nil, s_cons, k_cons_s, k_cons_n, k_cons2, d_nil, d_cons, k_consD, k_consD2, i_seq, k_sq, i_rng1, k_r1, i_rng2, k_r2, k_r2b, i_rngD, k_rD, k_rDb, i_enum, k_en, i_zip, k_zp1, k_zp2, i_rev, k_rv, r_skip, r_seq, k_seqN, k_seqR, k_seqB, k_seqC, r_asg, k_asgS, k_asgN, r_asgT, k_asgT, r_asgL, k_asgL, r_par, k_par, r_sub, k_sub1s, k_sub1n, k_sub2, k_sub3, r_aug, k_aug, r_augS, k_augS1, k_augS2, k_augS2b, k_augS3, r_exp, k_exp, r_ret, k_ret, r_retN, r_if, k_if, r_whl, r_fr, k_fr, fbd_at, k_run, r_brk, r_cont, r_gc, k_gcR, k_gcN, k_gcC, k_gcB, r_kl, k_kl, r_kill, r_del, k_del1, k_del2, k_endR, k_endN, fin_s, fin_n, finO_some, fin_loc, zl, rev_map, app_int, set_int, lsO_lst, seqL_loc, seqL_new, seqL_rol, lstOf_loc, lstOf_new, seqOf_tup, seqOf_loc, seqOf_new, seqOf_rol, tupOf_tup, tupOf_loc, tupOf_new, dictOf_new, dictOf_loc, b_any, b_all, lenO_lst, lenO_dK, b_len_tup, b_len_loc, b_len_new, b_len_rol, b_int, b_intB, b_tuple, b_list, b_sum, srtO_lst, srtO_dK, b_sorted_loc, b_sorted_new, b_min2, b_max2, b_abs, v_pop, v_popAt, v_rev, v_bit, v_get1, v_get2, dkO_K, dkO_T, m_pop, popAO_lst, m_popAt, revO_lst, m_rev, m_get1, m_get2, m_bit, dlook_int, popO_int, part_non, part_k, part_v, slc_tup, slc_rol, slc_new, slc_loc, cut_map, und_int, und_bl, und_non, und_str, und_loc, und_tup, und_rol, und_lst, unds_app, und_dK, iop_and, iop_or, iop_xor, setIx_loc, setO_lst, setO_dK, appD_loc, appO_lst, idx_tup, idx_ktu, idx_loc, idx_new, idxO_lst, idxO_dK, pyEq_int, pyEq_bl, c_eq, c_ne, c_lt, c_le, c_gt, c_ge, c_isN, c_notN, isNon_non, isNon_int, isNon_tup, isNon_bl, isNon_loc, tru_int, tru_bl, tru_tup, c_mem, c_nmem, mem_bls, mem_loc, memO_int, mem_tup, ty_nil, ty_cons, ty_int, ty_bl, ty_tup, ty_non, ty_str, grd_loc, grdO_some, grd_tup, grd_new, grd_rol, gOk_one, eT_len, look_eT, put_eT, kInts_eT, Option.bind_some, Option.map_some, Option.isSome_some, get_zero, get_succ, List.map_cons, List.map_nil, List.reduceReplicate, Nat.reduceSub, Nat.reduceAdd, Nat.reduceLeDiff, Nat.reduceLT, Nat.reduceEqDiff, List.append_nil, List.nil_append, List.cons_append, intOf, blOf, bop_int, iop_add, iop_sub, iop_mod, iop_mulR, iop_mulL, iop_fdiv, Int.reduceLT, Int.reduceLE, Int.reduceNeg, fin_f, List.set_cons_zero, List.set_cons_succ, asg, asgs, kill, if_true, if_false, Bool.false_eq_true, app_get0, app_get, app_set0, app_set, app_app, app_take0, app_take, GCok_P, gcP_nil, gcP_cons, gcP_refl, gcP_app, gcP_app_l, gcP_app_r, sigBelow, S.unds, List.take_length, unds_int, false_implies, implies_true, Bool.and_true, Bool.true_and, Bool.and_self, Bool.false_or, Bool.or_false, Bool.true_or, Bool.or_true, Bool.not_true, Bool.not_false, decide_true, decide_false, decide_eq_true_eq, reduceCtorEq, ne_eq, not_true_eq_false, W_bIte, W_if, bindIte, W_some, List.length_cons, List.length_nil, List.length_append, List.length_map, List.length_replicate, List.length_range, List.getElem?_cons_zero, List.getElem?_cons_succ, List.set_nil, List.take_succ_cons, List.take_zero, true_and, and_true, or_true, true_or, eq_self, asInts_map, LINE, Nat.zero_le, Nat.not_lt, Nat.le_add_right, Nat.le_refl, Nat.lt_irrefl, Nat.lt_add_right_iff_pos, Nat.add_lt_add_iff_left, Nat.add_le_add_iff_left, not_false_eq_true, Int.natCast_eq_zero, Nat.add_one_ne_zero, *])
local macro_rules | `(tactic| walk_at "wb") => `(tactic| simp only [W_bind, W_map])

theorem und_sgs {n : Nat} {l : List Sg} : S.unds n (l.map sSg) = true := unds_map fun d => by
  show S.unds n [iS d.1, iS d.2] = true
  simp only [S.unds, und_tup, unds_int, Bool.and_self]
theorem stable_ok {m : Nat} (hF : Fok (.g m)) {k : Nat} (hk : 4 ≤ k) {c : Int} (hc : 0 < c ∧ c ≤ 60) (ds : List Int) (ρ : Sto) : ∃ t ds', Sok m t ∧ callK tb gl k Ix.law_signed_table [.loc 0, .int m, .int c] (dr ds :: ρ) = some (.s (sSgs t), dr ds' :: ρ) := by
  obtain ⟨k, rfl, hj⟩ := at1 hk
  obtain ⟨v, ds1, v0, v1, e1⟩ := take_ok (k := k) (by omega) hc.1 ds (ρ ++ [.lst []])
  obtain ⟨n, hn⟩ : ∃ n : Nat, 1 + v = (n : Int) := ⟨(1 + v).toNat, by omega⟩
  have hb : b62 (n : Int) = true := by simp only [b62, Bool.and_eq_true, decide_eq_true_eq]; omega
  have en : ((n : Int).toNat) = n := Int.toNat_natCast _
  have hU := @und_sgs
  have hfz : 0 < fsz (.g m) ∧ fsz (.g m) ≤ 32 := by
    have := hF.1; have := hF.2
    have hm : m = 1 ∨ m = 2 ∨ m = 3 ∨ m = 4 := by omega
    rcases hm with rfl | rfl | rfl | rfl <;> exact ⟨by decide, by decide⟩
  obtain ⟨⟨ds', t⟩, e, hI, hl⟩ := for_st (gs := []) (body := fbd (callK tb gl k) gl (.nm 4) (.kl [4] b_law_signed_table_l0)) (σ := List Int × List Sg) nI (fun _ => [some (.loc 0), some (.int m), some (.int c), some (.loc (ρ.length + 1)), none]) (fun s => dr s.1 :: (ρ ++ [.lst (s.2.map sSg)])) (fun r s => (∀ d ∈ s.2, Dok (.g m) d.1 ∧ Dok (.g m) d.2) ∧ s.2.length + r.length ≤ 64) (fun _ _ _ => rfl) (fun i r s hI => by
      obtain ⟨ds, t⟩ := s
      obtain ⟨d1, ds1, hd1, f1⟩ := draw_ok hF hfz hj (n := 2) (by omega) ds (ρ ++ [.lst (t.map sSg)])
      obtain ⟨d2, ds2, hd2, f2⟩ := draw_ok hF hfz hj (n := 4) (by omega) ds1 (ρ ++ [.lst (t.map sSg)])
      dsimp only at hI
      have hlt : t.length < 16777216 := by have := hI.2; omega
      refine ⟨(ds2, t ++ [(d1, d2)]), ?_, fun d hd => ?_, by have := hI.2; simp only [List.length_append, List.length_cons, List.length_nil] at this ⊢; omega⟩
      · have f1' : callK tb gl k Ix.law_draw [.loc 0, .tup [.int 2, .int m], .int 2] (dr ds :: (ρ ++ [.lst (t.map sSg)])) = some (.s (iS d1), dr ds1 :: (ρ ++ [.lst (t.map sSg)])) := f1
        have f2' : callK tb gl k Ix.law_draw [.loc 0, .tup [.int 2, .int m], .int 4] (dr ds1 :: (ρ ++ [.lst (t.map sSg)])) = some (.s (iS d2), dr ds2 :: (ρ ++ [.lst (t.map sSg)])) := f2
        have ha : (t ++ [(d1, d2)]).map sSg = t.map sSg ++ [.tup [iS d1, iS d2]] := by simp
        rw [ha]
        clear f1 f2 ha
        simp only [fbd_at]
        walk_at "dvh"
        simp only [b_law_signed_table_l0]
        walk_at "dvh"
      · rcases List.mem_append.mp hd with hd | hd
        · exact hI.1 d hd
        · simp only [List.mem_singleton] at hd; subst hd; exact ⟨hd1, hd2⟩) (List.range n) (ds1, []) ⟨by simp, by simp only [List.length_nil, List.length_range]; omega⟩
  have hr := rngI_nat n
  refine ⟨t, ds', ⟨by simpa using hl, hI⟩, ?_⟩
  rw [List.map_nil] at e
  rw [call_at' (b := b_law_signed_table) rfl rfl]
  simp only [b_law_signed_table, s_law_signed_table_0, s_law_signed_table_1, s_law_signed_table_2]
  walk_at "dvh"
abbrev sTabs (ts : List (List (List Int))) : S := .tup (ts.map sTab)
theorem und_tabs {n : Nat} {l : List (List (List Int))} : S.unds n (l.map sTab) = true := unds_map fun _ => und_rows
theorem rtables_ok {p : Int} (hF : Fok (.p p)) (hp : p ≤ 32) {k : Nat} (hk : 5 ≤ k) {m : Nat} (hm : m ≤ 60) (ds : List Int) (ρ : Sto) : ∃ ts ds', ts.length = m + 1 ∧ (∀ t ∈ ts, Tok (.p p) t) ∧ callK tb gl k Ix.law_ranged_tables [.loc 0, .int m, .int p] (dr ds :: ρ) = some (.s (sTabs ts), dr ds' :: ρ) := by
  obtain ⟨k, rfl, hj⟩ := at1 hk
  have hb : b62 ((m : Int) + 1) = true := by simp only [b62, Bool.and_eq_true, decide_eq_true_eq]; omega
  have en : (((m : Int) + 1).toNat) = m + 1 := by omega
  have hU := @und_tabs
  obtain ⟨t, ds', e, hI, hl⟩ := lc_st (gs := []) (body := lbd (callK tb gl k) gl (.call Ix.law_drawn_table false (.cons (.var 0) (.cons (.var 2) (.cons (.k (.int 3)) .nil)))) [3] (.nm 3) (.k (.bl true)) [some (.loc 0), some (.int m), some (.int p), none]) nI sTab (fun ds => dr ds :: ρ) (fun r acc _ => (∀ t ∈ acc, Tok (.p p) t) ∧ acc.length + r.length = m + 1) (fun _ _ _ _ => rfl) (fun i r acc ds hI => by
      obtain ⟨t, ds', ht, e⟩ := dtable_ok hF hp hj (m := 3) (by omega) ds ρ
      refine ⟨t, ds', ?_, fun c hc => ?_, by have := hI.2; simp only [List.length_append, List.length_cons, List.length_nil] at this ⊢; omega⟩
      · simp only [lbd_at]
        walk_at "dvh"
      · rcases List.mem_append.mp hc with hc | hc
        · exact hI.1 c hc
        · simp only [List.mem_singleton] at hc; subst hc; exact ht) (List.range (m + 1)) [] ds ⟨by simp, by simp⟩ (by simp only [List.length_nil, List.length_range, LINE]; omega)
  have hr := rngI_nat (m + 1)
  rw [List.map_nil] at e
  refine ⟨t, ds', by simpa using hl, hI, ?_⟩
  rw [call_at' (b := b_law_ranged_tables) rfl rfl]
  simp only [b_law_ranged_tables]
  walk_at "dvh"
end Pg
end
section
set_option Elab.async false
set_option linter.all false
set_option maxRecDepth 100000
set_option maxHeartbeats 4000000
namespace Pg
open Dv
local macro_rules | `(tactic| walk_at "dv") => `(tactic| simp -implicitDefEqProofs only [e_var, e_k, e_gl, e_bin, k_bin1, k_bin2, e_neg, k_neg, e_cmp, k_cmp1, k_cmp2, e_chn, k_chn1, k_chn2, k_chn3, e_and, k_and, e_or, k_or, e_not, k_not, e_tru, k_tru, e_ife, k_ife, e_ix, k_ix1, k_ix2, e_slc, k_sl1, k_sl2, k_sl3, e_tup, e_lst, k_tup, k_lst, e_dnK, e_dnT, e_call, k_call, k_fin, e_bi, k_bi, e_mt, k_mt1, k_mt2, e_app, k_app1, k_app2s, k_app2n, e_isi, k_isi, e_rg1, k_rg1, e_rg2, k_rg2, k_rg2b, e_lc, k_lc, k_lcR, lbd_at, k_ls0, k_ls1, k_ls3s, k_ls3n, s_nil, s_cons, k_cons_s, k_cons_n, k_cons2, d_nil, d_cons, k_consD, k_consD2, i_seq, k_sq, i_rng1, k_r1, i_rng2, k_r2, k_r2b, i_rngD, k_rD, k_rDb, i_enum, k_en, i_zip, k_zp1, k_zp2, i_rev, k_rv, r_skip, r_seq, k_seqN, k_seqR, k_seqB, k_seqC, r_asg, k_asgS, k_asgN, r_asgT, k_asgT, r_asgL, k_asgL, r_par, k_par, r_sub, k_sub1s, k_sub1n, k_sub2, k_sub3, r_aug, k_aug, r_augS, k_augS1, k_augS2, k_augS2b, k_augS3, r_exp, k_exp, r_ret, k_ret, r_retN, r_if, k_if, r_whl, r_fr, k_fr, fbd_at, k_run, r_brk, r_cont, r_gc, k_gcR, k_gcN, k_gcC, k_gcB, r_kl, k_kl, r_kill, r_del, k_del1, k_del2, k_endR, k_endN, fin_s, fin_n, finO_some, fin_loc, zl, rev_map, app_int, set_int, lsO_lst, seqL_loc, seqL_new, seqL_rol, lstOf_loc, lstOf_new, seqOf_tup, seqOf_loc, seqOf_new, seqOf_rol, tupOf_tup, tupOf_loc, tupOf_new, dictOf_new, dictOf_loc, b_any, b_all, lenO_lst, lenO_dK, b_len_tup, b_len_loc, b_len_new, b_len_rol, b_int, b_intB, b_tuple, b_list, b_sum, srtO_lst, srtO_dK, b_sorted_loc, b_sorted_new, b_min2, b_max2, b_abs, v_pop, v_popAt, v_rev, v_bit, v_get1, v_get2, dkO_K, dkO_T, m_pop, popAO_lst, m_popAt, revO_lst, m_rev, m_get1, m_get2, m_bit, dlook_int, popO_int, part_non, part_k, part_v, slc_tup, slc_rol, slc_new, slc_loc, cut_map, und_int, und_bl, und_non, und_str, und_loc, und_tup, und_rol, und_lst, unds_app, und_dK, iop_and, iop_or, iop_xor, setIx_loc, setO_lst, setO_dK, appD_loc, appO_lst, idx_tup, idx_ktu, idx_loc, idx_new, idxO_lst, idxO_dK, pyEq_int, pyEq_bl, c_eq, c_ne, c_lt, c_le, c_gt, c_ge, c_isN, c_notN, isNon_non, isNon_int, isNon_tup, isNon_bl, isNon_loc, tru_int, tru_bl, tru_tup, c_mem, c_nmem, mem_bls, mem_loc, memO_int, mem_tup, ty_nil, ty_cons, ty_int, ty_bl, ty_tup, ty_non, ty_str, grd_loc, grdO_some, grd_tup, grd_new, grd_rol, gOk_one, eT_len, look_eT, put_eT, kInts_eT, Option.bind_some, Option.map_some, Option.isSome_some, get_zero, get_succ, List.map_cons, List.map_nil, List.reduceReplicate, Nat.reduceSub, Nat.reduceAdd, Nat.reduceLeDiff, Nat.reduceLT, Nat.reduceEqDiff, List.append_nil, List.nil_append, List.cons_append, intOf, blOf, bop_int, iop_add, iop_sub, iop_mod, iop_mulR, iop_mulL, iop_fdiv, Int.reduceLT, Int.reduceLE, Int.reduceNeg, fin_f, List.set_cons_zero, List.set_cons_succ, asg, asgs, kill, if_true, if_false, Bool.false_eq_true, app_get0, app_get, app_set0, app_set, app_app, app_take0, app_take, GCok_P, gcP_nil, gcP_cons, gcP_refl, gcP_app, gcP_app_l, gcP_app_r, sigBelow, S.unds, List.take_length, unds_int, false_implies, implies_true, Bool.and_true, Bool.true_and, Bool.and_self, Bool.false_or, Bool.or_false, Bool.true_or, Bool.or_true, Bool.not_true, Bool.not_false, decide_true, decide_false, decide_eq_true_eq, reduceCtorEq, ne_eq, not_true_eq_false, W_bIte, W_if, bindIte, W_some, List.length_cons, List.length_nil, List.length_append, List.length_map, List.length_replicate, List.length_range, List.getElem?_cons_zero, List.getElem?_cons_succ, List.set_nil, List.take_succ_cons, List.take_zero, true_and, and_true, or_true, true_or, eq_self, asInts_map, LINE, Nat.zero_le, Nat.not_lt, Nat.le_add_right, Nat.le_refl, Nat.lt_irrefl, Nat.lt_add_right_iff_pos, Nat.add_lt_add_iff_left, Nat.add_le_add_iff_left, not_false_eq_true, Int.natCast_eq_zero, Nat.add_one_ne_zero])
local macro_rules | `(tactic| walk_at "dvh") => `(tactic| simp -implicitDefEqProofs only [e_var, e_k, e_gl, e_bin, k_bin1, k_bin2, e_neg, k_neg, e_cmp, k_cmp1, k_cmp2, e_chn, k_chn1, k_chn2, k_chn3, e_and, k_and, e_or, k_or, e_not, k_not, e_tru, k_tru, e_ife, k_ife, e_ix, k_ix1, k_ix2, e_slc, k_sl1, k_sl2, k_sl3, e_tup, e_lst, k_tup, k_lst, e_dnK, e_dnT, e_call, k_call, k_fin, e_bi, k_bi, e_mt, k_mt1, k_mt2, e_app, k_app1, k_app2s, k_app2n, e_isi, k_isi, e_rg1, k_rg1, e_rg2, k_rg2, k_rg2b, e_lc, k_lc, k_lcR, lbd_at, k_ls0, k_ls1, k_ls3s, k_ls3n, s_nil, s_cons, k_cons_s, k_cons_n, k_cons2, d_nil, d_cons, k_consD, k_consD2, i_seq, k_sq, i_rng1, k_r1, i_rng2, k_r2, k_r2b, i_rngD, k_rD, k_rDb, i_enum, k_en, i_zip, k_zp1, k_zp2, i_rev, k_rv, r_skip, r_seq, k_seqN, k_seqR, k_seqB, k_seqC, r_asg, k_asgS, k_asgN, r_asgT, k_asgT, r_asgL, k_asgL, r_par, k_par, r_sub, k_sub1s, k_sub1n, k_sub2, k_sub3, r_aug, k_aug, r_augS, k_augS1, k_augS2, k_augS2b, k_augS3, r_exp, k_exp, r_ret, k_ret, r_retN, r_if, k_if, r_whl, r_fr, k_fr, fbd_at, k_run, r_brk, r_cont, r_gc, k_gcR, k_gcN, k_gcC, k_gcB, r_kl, k_kl, r_kill, r_del, k_del1, k_del2, k_endR, k_endN, fin_s, fin_n, finO_some, fin_loc, zl, rev_map, app_int, set_int, lsO_lst, seqL_loc, seqL_new, seqL_rol, lstOf_loc, lstOf_new, seqOf_tup, seqOf_loc, seqOf_new, seqOf_rol, tupOf_tup, tupOf_loc, tupOf_new, dictOf_new, dictOf_loc, b_any, b_all, lenO_lst, lenO_dK, b_len_tup, b_len_loc, b_len_new, b_len_rol, b_int, b_intB, b_tuple, b_list, b_sum, srtO_lst, srtO_dK, b_sorted_loc, b_sorted_new, b_min2, b_max2, b_abs, v_pop, v_popAt, v_rev, v_bit, v_get1, v_get2, dkO_K, dkO_T, m_pop, popAO_lst, m_popAt, revO_lst, m_rev, m_get1, m_get2, m_bit, dlook_int, popO_int, part_non, part_k, part_v, slc_tup, slc_rol, slc_new, slc_loc, cut_map, und_int, und_bl, und_non, und_str, und_loc, und_tup, und_rol, und_lst, unds_app, und_dK, iop_and, iop_or, iop_xor, setIx_loc, setO_lst, setO_dK, appD_loc, appO_lst, idx_tup, idx_ktu, idx_loc, idx_new, idxO_lst, idxO_dK, pyEq_int, pyEq_bl, c_eq, c_ne, c_lt, c_le, c_gt, c_ge, c_isN, c_notN, isNon_non, isNon_int, isNon_tup, isNon_bl, isNon_loc, tru_int, tru_bl, tru_tup, c_mem, c_nmem, mem_bls, mem_loc, memO_int, mem_tup, ty_nil, ty_cons, ty_int, ty_bl, ty_tup, ty_non, ty_str, grd_loc, grdO_some, grd_tup, grd_new, grd_rol, gOk_one, eT_len, look_eT, put_eT, kInts_eT, Option.bind_some, Option.map_some, Option.isSome_some, get_zero, get_succ, List.map_cons, List.map_nil, List.reduceReplicate, Nat.reduceSub, Nat.reduceAdd, Nat.reduceLeDiff, Nat.reduceLT, Nat.reduceEqDiff, List.append_nil, List.nil_append, List.cons_append, intOf, blOf, bop_int, iop_add, iop_sub, iop_mod, iop_mulR, iop_mulL, iop_fdiv, Int.reduceLT, Int.reduceLE, Int.reduceNeg, fin_f, List.set_cons_zero, List.set_cons_succ, asg, asgs, kill, if_true, if_false, Bool.false_eq_true, app_get0, app_get, app_set0, app_set, app_app, app_take0, app_take, GCok_P, gcP_nil, gcP_cons, gcP_refl, gcP_app, gcP_app_l, gcP_app_r, sigBelow, S.unds, List.take_length, unds_int, false_implies, implies_true, Bool.and_true, Bool.true_and, Bool.and_self, Bool.false_or, Bool.or_false, Bool.true_or, Bool.or_true, Bool.not_true, Bool.not_false, decide_true, decide_false, decide_eq_true_eq, reduceCtorEq, ne_eq, not_true_eq_false, W_bIte, W_if, bindIte, W_some, List.length_cons, List.length_nil, List.length_append, List.length_map, List.length_replicate, List.length_range, List.getElem?_cons_zero, List.getElem?_cons_succ, List.set_nil, List.take_succ_cons, List.take_zero, true_and, and_true, or_true, true_or, eq_self, asInts_map, LINE, Nat.zero_le, Nat.not_lt, Nat.le_add_right, Nat.le_refl, Nat.lt_irrefl, Nat.lt_add_right_iff_pos, Nat.add_lt_add_iff_left, Nat.add_le_add_iff_left, not_false_eq_true, Int.natCast_eq_zero, Nat.add_one_ne_zero, *])
local macro_rules | `(tactic| walk_at "wb") => `(tactic| simp only [W_bind, W_map])

theorem some_ok {k : Nat} (hk : 3 ≤ k) {m : Int} (hm : 0 < m ∧ m ≤ 1000) {xs : List Int} (hx : xs ≠ []) {a : Nat} (ds : List Int) (ρ : Sto) (ha : ρ[a]? = some (iO xs)) : ∃ r ds', r ≠ [] ∧ r.length ≤ 1000 ∧ (∀ x ∈ r, x ∈ xs) ∧ callK tb gl k Ix.law_some_of [.loc 0, .loc (a + 1), .int m] (dr ds :: ρ) = some (.new (iO r), dr ds' :: ρ) := by
  obtain ⟨k, rfl, hj⟩ := at1 hk
  have hal : a < ρ.length := by
    rcases Nat.lt_or_ge a ρ.length with h | h
    · exact h
    · rw [List.getElem?_eq_none h] at ha; cases ha
  have ha2 : ∀ o, (ρ ++ [o])[a]? = some (iO xs) := fun o => by rw [List.getElem?_append_left hal]; exact ha
  obtain ⟨v, ds1, v0, v1, e1⟩ := take_ok (k := k) (by omega) hm.1 ds (ρ ++ [.lst []])
  obtain ⟨n, hn⟩ : ∃ n : Nat, 1 + v = (n : Int) := ⟨(1 + v).toNat, by omega⟩
  have hb : b62 (n : Int) = true := by simp only [b62, Bool.and_eq_true, decide_eq_true_eq]; omega
  have en : ((n : Int).toNat) = n := Int.toNat_natCast _
  have hn0 : 0 < n := by omega
  obtain ⟨⟨ds', r⟩, e, hI, hl, h0⟩ := for_st (gs := []) (body := fbd (callK tb gl k) gl (.nm 4) (.kl [4, 5] b_law_some_of_l0)) (σ := List Int × List Int) nI (fun _ => [some (.loc 0), some (.loc (a + 1)), some (.int m), some (.loc (ρ.length + 1)), none, none]) (fun s => dr s.1 :: (ρ ++ [iO s.2])) (fun r s => (∀ x ∈ s.2, x ∈ xs) ∧ s.2.length + r.length ≤ 1000 ∧ (r.length = n ∨ s.2 ≠ [])) (fun _ _ _ => rfl) (fun i r s hI => by
      obtain ⟨ds, f⟩ := s
      obtain ⟨x, ds1, hx1, f1⟩ := pick_loc S.int (fun _ _ => rfl) hx (n := a) hj ds (ρ ++ [iO f]) (ha2 _)
      dsimp only at hI
      have hlf : f.length < 16777216 := by have := hI.2.1; omega
      by_cases hin : f.any (· == x) = true
      · refine ⟨(ds1, f), ?_, hI.1, by have := hI.2.1; simp only [List.length_cons] at this; dsimp only; omega, .inr ?_⟩
        · simp only [fbd_at]
          walk_at "dvh"
          simp only [b_law_some_of_l0]
          walk_at "dvh"
        · dsimp only
          intro e
          rw [e] at hin
          cases hin
      · refine ⟨(ds1, f ++ [x]), ?_, fun y hy => ?_, by have := hI.2.1; simp only [List.length_append, List.length_cons, List.length_nil] at this ⊢; omega, .inr (by simp)⟩
        · have hin : f.any (· == x) = false := by cases hh : f.any (· == x) <;> simp_all
          simp only [fbd_at]
          walk_at "dvh"
          simp only [b_law_some_of_l0]
          walk_at "dvh"
        · rcases List.mem_append.mp hy with hy | hy
          · exact hI.1 y hy
          · simp only [List.mem_singleton] at hy; subst hy; exact hx1) (List.range n) (ds1, []) ⟨by simp, by simp only [List.length_nil, List.length_range]; omega, .inl (by simp)⟩
  dsimp only at hI hl h0
  have hr := rngI_nat n
  have h0' : r ≠ [] := by
    rcases h0 with h | h
    · simp only [List.length_nil] at h; omega
    · exact h
  refine ⟨mergeI r, ds', ?_, by rw [mergeI_len]; simpa using hl, fun x hx => hI x (mergeI_mem.mp hx), ?_⟩
  · intro e
    have := congrArg List.length e
    rw [mergeI_len] at this
    exact h0' (List.length_eq_zero_iff.mp this)
  · dsimp only at e
    rw [show iO [] = Ob.lst [] from rfl] at e
    rw [call_at' (b := b_law_some_of) rfl rfl]
    simp only [b_law_some_of, s_law_some_of_0, s_law_some_of_1, s_law_some_of_2]
    walk_at "dvh"
end Pg
end
section
set_option Elab.async false
set_option linter.all false
set_option maxRecDepth 100000
set_option maxHeartbeats 4000000
namespace Pg
open Dv
local macro_rules | `(tactic| walk_at "dv") => `(tactic| simp -implicitDefEqProofs only [e_var, e_k, e_gl, e_bin, k_bin1, k_bin2, e_neg, k_neg, e_cmp, k_cmp1, k_cmp2, e_chn, k_chn1, k_chn2, k_chn3, e_and, k_and, e_or, k_or, e_not, k_not, e_tru, k_tru, e_ife, k_ife, e_ix, k_ix1, k_ix2, e_slc, k_sl1, k_sl2, k_sl3, e_tup, e_lst, k_tup, k_lst, e_dnK, e_dnT, e_call, k_call, k_fin, e_bi, k_bi, e_mt, k_mt1, k_mt2, e_app, k_app1, k_app2s, k_app2n, e_isi, k_isi, e_rg1, k_rg1, e_rg2, k_rg2, k_rg2b, e_lc, k_lc, k_lcR, lbd_at, k_ls0, k_ls1, k_ls3s, k_ls3n, s_nil, s_cons, k_cons_s, k_cons_n, k_cons2, d_nil, d_cons, k_consD, k_consD2, i_seq, k_sq, i_rng1, k_r1, i_rng2, k_r2, k_r2b, i_rngD, k_rD, k_rDb, i_enum, k_en, i_zip, k_zp1, k_zp2, i_rev, k_rv, r_skip, r_seq, k_seqN, k_seqR, k_seqB, k_seqC, r_asg, k_asgS, k_asgN, r_asgT, k_asgT, r_asgL, k_asgL, r_par, k_par, r_sub, k_sub1s, k_sub1n, k_sub2, k_sub3, r_aug, k_aug, r_augS, k_augS1, k_augS2, k_augS2b, k_augS3, r_exp, k_exp, r_ret, k_ret, r_retN, r_if, k_if, r_whl, r_fr, k_fr, fbd_at, k_run, r_brk, r_cont, r_gc, k_gcR, k_gcN, k_gcC, k_gcB, r_kl, k_kl, r_kill, r_del, k_del1, k_del2, k_endR, k_endN, fin_s, fin_n, finO_some, fin_loc, zl, rev_map, app_int, set_int, lsO_lst, seqL_loc, seqL_new, seqL_rol, lstOf_loc, lstOf_new, seqOf_tup, seqOf_loc, seqOf_new, seqOf_rol, tupOf_tup, tupOf_loc, tupOf_new, dictOf_new, dictOf_loc, b_any, b_all, lenO_lst, lenO_dK, b_len_tup, b_len_loc, b_len_new, b_len_rol, b_int, b_intB, b_tuple, b_list, b_sum, srtO_lst, srtO_dK, b_sorted_loc, b_sorted_new, b_min2, b_max2, b_abs, v_pop, v_popAt, v_rev, v_bit, v_get1, v_get2, dkO_K, dkO_T, m_pop, popAO_lst, m_popAt, revO_lst, m_rev, m_get1, m_get2, m_bit, dlook_int, popO_int, part_non, part_k, part_v, slc_tup, slc_rol, slc_new, slc_loc, cut_map, und_int, und_bl, und_non, und_str, und_loc, und_tup, und_rol, und_lst, unds_app, und_dK, iop_and, iop_or, iop_xor, setIx_loc, setO_lst, setO_dK, appD_loc, appO_lst, idx_tup, idx_ktu, idx_loc, idx_new, idxO_lst, idxO_dK, pyEq_int, pyEq_bl, c_eq, c_ne, c_lt, c_le, c_gt, c_ge, c_isN, c_notN, isNon_non, isNon_int, isNon_tup, isNon_bl, isNon_loc, tru_int, tru_bl, tru_tup, c_mem, c_nmem, mem_bls, mem_loc, memO_int, mem_tup, ty_nil, ty_cons, ty_int, ty_bl, ty_tup, ty_non, ty_str, grd_loc, grdO_some, grd_tup, grd_new, grd_rol, gOk_one, eT_len, look_eT, put_eT, kInts_eT, Option.bind_some, Option.map_some, Option.isSome_some, get_zero, get_succ, List.map_cons, List.map_nil, List.reduceReplicate, Nat.reduceSub, Nat.reduceAdd, Nat.reduceLeDiff, Nat.reduceLT, Nat.reduceEqDiff, List.append_nil, List.nil_append, List.cons_append, intOf, blOf, bop_int, iop_add, iop_sub, iop_mod, iop_mulR, iop_mulL, iop_fdiv, Int.reduceLT, Int.reduceLE, Int.reduceNeg, fin_f, List.set_cons_zero, List.set_cons_succ, asg, asgs, kill, if_true, if_false, Bool.false_eq_true, app_get0, app_get, app_set0, app_set, app_app, app_take0, app_take, GCok_P, gcP_nil, gcP_cons, gcP_refl, gcP_app, gcP_app_l, gcP_app_r, sigBelow, S.unds, List.take_length, unds_int, false_implies, implies_true, Bool.and_true, Bool.true_and, Bool.and_self, Bool.false_or, Bool.or_false, Bool.true_or, Bool.or_true, Bool.not_true, Bool.not_false, decide_true, decide_false, decide_eq_true_eq, reduceCtorEq, ne_eq, not_true_eq_false, W_bIte, W_if, bindIte, W_some, List.length_cons, List.length_nil, List.length_append, List.length_map, List.length_replicate, List.length_range, List.getElem?_cons_zero, List.getElem?_cons_succ, List.set_nil, List.take_succ_cons, List.take_zero, true_and, and_true, or_true, true_or, eq_self, asInts_map, LINE, Nat.zero_le, Nat.not_lt, Nat.le_add_right, Nat.le_refl, Nat.lt_irrefl, Nat.lt_add_right_iff_pos, Nat.add_lt_add_iff_left, Nat.add_le_add_iff_left, not_false_eq_true, Int.natCast_eq_zero, Nat.add_one_ne_zero])
local macro_rules | `(tactic| walk_at "dvh") => `(tactic| simp -implicitDefEqProofs only [e_var, e_k, e_gl, e_bin, k_bin1, k_bin2, e_neg, k_neg, e_cmp, k_cmp1, k_cmp2, e_chn, k_chn1, k_chn2, k_chn3, e_and, k_and, e_or, k_or, e_not, k_not, e_tru, k_tru, e_ife, k_ife, e_ix, k_ix1, k_ix2, e_slc, k_sl1, k_sl2, k_sl3, e_tup, e_lst, k_tup, k_lst, e_dnK, e_dnT, e_call, k_call, k_fin, e_bi, k_bi, e_mt, k_mt1, k_mt2, e_app, k_app1, k_app2s, k_app2n, e_isi, k_isi, e_rg1, k_rg1, e_rg2, k_rg2, k_rg2b, e_lc, k_lc, k_lcR, lbd_at, k_ls0, k_ls1, k_ls3s, k_ls3n, s_nil, s_cons, k_cons_s, k_cons_n, k_cons2, d_nil, d_cons, k_consD, k_consD2, i_seq, k_sq, i_rng1, k_r1, i_rng2, k_r2, k_r2b, i_rngD, k_rD, k_rDb, i_enum, k_en, i_zip, k_zp1, k_zp2, i_rev, k_rv, r_skip, r_seq, k_seqN, k_seqR, k_seqB, k_seqC, r_asg, k_asgS, k_asgN, r_asgT, k_asgT, r_asgL, k_asgL, r_par, k_par, r_sub, k_sub1s, k_sub1n, k_sub2, k_sub3, r_aug, k_aug, r_augS, k_augS1, k_augS2, k_augS2b, k_augS3, r_exp, k_exp, r_ret, k_ret, r_retN, r_if, k_if, r_whl, r_fr, k_fr, fbd_at, k_run, r_brk, r_cont, r_gc, k_gcR, k_gcN, k_gcC, k_gcB, r_kl, k_kl, r_kill, r_del, k_del1, k_del2, k_endR, k_endN, fin_s, fin_n, finO_some, fin_loc, zl, rev_map, app_int, set_int, lsO_lst, seqL_loc, seqL_new, seqL_rol, lstOf_loc, lstOf_new, seqOf_tup, seqOf_loc, seqOf_new, seqOf_rol, tupOf_tup, tupOf_loc, tupOf_new, dictOf_new, dictOf_loc, b_any, b_all, lenO_lst, lenO_dK, b_len_tup, b_len_loc, b_len_new, b_len_rol, b_int, b_intB, b_tuple, b_list, b_sum, srtO_lst, srtO_dK, b_sorted_loc, b_sorted_new, b_min2, b_max2, b_abs, v_pop, v_popAt, v_rev, v_bit, v_get1, v_get2, dkO_K, dkO_T, m_pop, popAO_lst, m_popAt, revO_lst, m_rev, m_get1, m_get2, m_bit, dlook_int, popO_int, part_non, part_k, part_v, slc_tup, slc_rol, slc_new, slc_loc, cut_map, und_int, und_bl, und_non, und_str, und_loc, und_tup, und_rol, und_lst, unds_app, und_dK, iop_and, iop_or, iop_xor, setIx_loc, setO_lst, setO_dK, appD_loc, appO_lst, idx_tup, idx_ktu, idx_loc, idx_new, idxO_lst, idxO_dK, pyEq_int, pyEq_bl, c_eq, c_ne, c_lt, c_le, c_gt, c_ge, c_isN, c_notN, isNon_non, isNon_int, isNon_tup, isNon_bl, isNon_loc, tru_int, tru_bl, tru_tup, c_mem, c_nmem, mem_bls, mem_loc, memO_int, mem_tup, ty_nil, ty_cons, ty_int, ty_bl, ty_tup, ty_non, ty_str, grd_loc, grdO_some, grd_tup, grd_new, grd_rol, gOk_one, eT_len, look_eT, put_eT, kInts_eT, Option.bind_some, Option.map_some, Option.isSome_some, get_zero, get_succ, List.map_cons, List.map_nil, List.reduceReplicate, Nat.reduceSub, Nat.reduceAdd, Nat.reduceLeDiff, Nat.reduceLT, Nat.reduceEqDiff, List.append_nil, List.nil_append, List.cons_append, intOf, blOf, bop_int, iop_add, iop_sub, iop_mod, iop_mulR, iop_mulL, iop_fdiv, Int.reduceLT, Int.reduceLE, Int.reduceNeg, fin_f, List.set_cons_zero, List.set_cons_succ, asg, asgs, kill, if_true, if_false, Bool.false_eq_true, app_get0, app_get, app_set0, app_set, app_app, app_take0, app_take, GCok_P, gcP_nil, gcP_cons, gcP_refl, gcP_app, gcP_app_l, gcP_app_r, sigBelow, S.unds, List.take_length, unds_int, false_implies, implies_true, Bool.and_true, Bool.true_and, Bool.and_self, Bool.false_or, Bool.or_false, Bool.true_or, Bool.or_true, Bool.not_true, Bool.not_false, decide_true, decide_false, decide_eq_true_eq, reduceCtorEq, ne_eq, not_true_eq_false, W_bIte, W_if, bindIte, W_some, List.length_cons, List.length_nil, List.length_append, List.length_map, List.length_replicate, List.length_range, List.getElem?_cons_zero, List.getElem?_cons_succ, List.set_nil, List.take_succ_cons, List.take_zero, true_and, and_true, or_true, true_or, eq_self, asInts_map, LINE, Nat.zero_le, Nat.not_lt, Nat.le_add_right, Nat.le_refl, Nat.lt_irrefl, Nat.lt_add_right_iff_pos, Nat.add_lt_add_iff_left, Nat.add_le_add_iff_left, not_false_eq_true, Int.natCast_eq_zero, Nat.add_one_ne_zero, *])
local macro_rules | `(tactic| walk_at "wb") => `(tactic| simp only [W_bind, W_map])

theorem erase_map {α : Type} {f : α → S} : ∀ {l : List α} {n : Nat}, (l.map f).eraseIdx n = (l.eraseIdx n).map f
  | [], _ => by simp
  | a :: r, 0 => by simp
  | a :: r, n + 1 => by simp [erase_map]
theorem erase_perm {α : Type} : ∀ {l : List α} {n : Nat} (h : n < l.length), (l[n] :: l.eraseIdx n).Perm l
  | a :: r, 0, _ => by simp
  | a :: r, n + 1, h => by
    simp only [List.getElem_cons_succ, List.eraseIdx_cons_succ]
    exact (List.Perm.swap _ _ _).trans (List.Perm.cons a (erase_perm (by simpa using h)))
theorem shuffled_ok {α : Type} (f : α → S) (hu : ∀ a n, (f a).und n = true) {k : Nat} (hk : 2 ≤ k) {l : List α} (hl : l.length ≤ 100000) {row : S} (ds : List Int) (ρ : Sto) (hrow : seqOf (dr ds :: ρ) (.s row) = some (l.map f)) : ∃ (l' : List α) (ds' : List Int), l'.Perm l ∧ callK tb gl k Ix.law_shuffled [.loc 0, row] (dr ds :: ρ) = some (.new (.lst (l'.map f)), dr ds' :: ρ) := by
  obtain ⟨k, rfl, hj⟩ := at1 hk
  have hb : b62 (l.length : Int) = true := by simp only [b62, Bool.and_eq_true, decide_eq_true_eq]; omega
  have en : ((l.length : Int).toNat) = l.length := Int.toNat_natCast _
  have hU : ∀ n (l : List α), S.unds n (l.map f) = true := fun n l => unds_map fun a => hu a n
  obtain ⟨⟨ds', left, told⟩, e, hP, hlen⟩ := for_st (gs := []) (body := fbd (callK tb gl k) gl (.nm 4) (.kl [4] b_law_shuffled_l0)) (σ := List Int × List α × List α) nI (fun _ => [some (.loc 0), some row, some (.loc (ρ.length + 1)), some (.loc (ρ.length + 2)), none]) (fun s => dr s.1 :: (ρ ++ [.lst (s.2.1.map f), .lst (s.2.2.map f)])) (fun r s => (s.2.2 ++ s.2.1).Perm l ∧ s.2.1.length = r.length) (fun _ _ _ => rfl) (fun i r s hI => by
      obtain ⟨ds, left, told⟩ := s
      obtain ⟨hP, hlen⟩ := hI
      dsimp only at hP hlen
      simp only [List.length_cons] at hlen
      have hpl := hP.length_eq
      rw [List.length_append] at hpl
      obtain ⟨v, ds1, v0, v1, f1⟩ := take_ok hj (m := (left.length : Int)) (by omega) ds (ρ ++ [.lst (left.map f), .lst (told.map f)])
      have hv : v.toNat < left.length := by omega
      have g1 : (left.map f)[v.toNat]? = some (f left[v.toNat]) := by simp [hv]
      have g2 : (left.map f).eraseIdx v.toNat = (left.eraseIdx v.toNat).map f := erase_map
      have g3 : left.length ≤ 16777216 := by omega
      have g4 : told.length < 16777216 := by omega
      refine ⟨(ds1, left.eraseIdx v.toNat, told ++ [left[v.toNat]]), ?_, ?_, ?_⟩
      · have ha : (told ++ [left[v.toNat]]).map f = told.map f ++ [f left[v.toNat]] := by simp
        dsimp only
        rw [ha]
        clear ha hlen hpl hP hrow
        simp only [fbd_at]
        walk_at "dvh"
        simp only [b_law_shuffled_l0]
        walk_at "dvh"
      · dsimp only
        refine List.Perm.trans ?_ hP
        rw [List.append_assoc]
        refine List.Perm.append_left told ?_
        exact erase_perm hv
      · dsimp only
        rw [List.length_eraseIdx, if_pos hv]; omega) (List.range l.length) (ds, l, []) ⟨by simp, by simp⟩
  dsimp only at hP hlen e
  have hr := rngI_nat l.length
  have h0 : left = [] := by simpa using hlen
  subst h0
  rw [List.append_nil] at hP
  refine ⟨told, ds', hP, ?_⟩
  rw [List.map_nil] at e
  rw [call_at' (b := b_law_shuffled) rfl rfl]
  simp only [b_law_shuffled, s_law_shuffled_0, s_law_shuffled_1, s_law_shuffled_2, s_law_shuffled_3]
  walk_at "dvh"
end Pg
end
section
set_option Elab.async false
set_option linter.all false
set_option maxRecDepth 100000
set_option maxHeartbeats 4000000
namespace Pg
open Dv
local macro_rules | `(tactic| walk_at "dv") => `(tactic| simp -implicitDefEqProofs only [e_var, e_k, e_gl, e_bin, k_bin1, k_bin2, e_neg, k_neg, e_cmp, k_cmp1, k_cmp2, e_chn, k_chn1, k_chn2, k_chn3, e_and, k_and, e_or, k_or, e_not, k_not, e_tru, k_tru, e_ife, k_ife, e_ix, k_ix1, k_ix2, e_slc, k_sl1, k_sl2, k_sl3, e_tup, e_lst, k_tup, k_lst, e_dnK, e_dnT, e_call, k_call, k_fin, e_bi, k_bi, e_mt, k_mt1, k_mt2, e_app, k_app1, k_app2s, k_app2n, e_isi, k_isi, e_rg1, k_rg1, e_rg2, k_rg2, k_rg2b, e_lc, k_lc, k_lcR, lbd_at, k_ls0, k_ls1, k_ls3s, k_ls3n, s_nil, s_cons, k_cons_s, k_cons_n, k_cons2, d_nil, d_cons, k_consD, k_consD2, i_seq, k_sq, i_rng1, k_r1, i_rng2, k_r2, k_r2b, i_rngD, k_rD, k_rDb, i_enum, k_en, i_zip, k_zp1, k_zp2, i_rev, k_rv, r_skip, r_seq, k_seqN, k_seqR, k_seqB, k_seqC, r_asg, k_asgS, k_asgN, r_asgT, k_asgT, r_asgL, k_asgL, r_par, k_par, r_sub, k_sub1s, k_sub1n, k_sub2, k_sub3, r_aug, k_aug, r_augS, k_augS1, k_augS2, k_augS2b, k_augS3, r_exp, k_exp, r_ret, k_ret, r_retN, r_if, k_if, r_whl, r_fr, k_fr, fbd_at, k_run, r_brk, r_cont, r_gc, k_gcR, k_gcN, k_gcC, k_gcB, r_kl, k_kl, r_kill, r_del, k_del1, k_del2, k_endR, k_endN, fin_s, fin_n, finO_some, fin_loc, zl, rev_map, app_int, set_int, lsO_lst, seqL_loc, seqL_new, seqL_rol, lstOf_loc, lstOf_new, seqOf_tup, seqOf_loc, seqOf_new, seqOf_rol, tupOf_tup, tupOf_loc, tupOf_new, dictOf_new, dictOf_loc, b_any, b_all, lenO_lst, lenO_dK, b_len_tup, b_len_loc, b_len_new, b_len_rol, b_int, b_intB, b_tuple, b_list, b_sum, srtO_lst, srtO_dK, b_sorted_loc, b_sorted_new, b_min2, b_max2, b_abs, v_pop, v_popAt, v_rev, v_bit, v_get1, v_get2, dkO_K, dkO_T, m_pop, popAO_lst, m_popAt, revO_lst, m_rev, m_get1, m_get2, m_bit, dlook_int, popO_int, part_non, part_k, part_v, slc_tup, slc_rol, slc_new, slc_loc, cut_map, und_int, und_bl, und_non, und_str, und_loc, und_tup, und_rol, und_lst, unds_app, und_dK, iop_and, iop_or, iop_xor, setIx_loc, setO_lst, setO_dK, appD_loc, appO_lst, idx_tup, idx_ktu, idx_loc, idx_new, idxO_lst, idxO_dK, pyEq_int, pyEq_bl, c_eq, c_ne, c_lt, c_le, c_gt, c_ge, c_isN, c_notN, isNon_non, isNon_int, isNon_tup, isNon_bl, isNon_loc, tru_int, tru_bl, tru_tup, c_mem, c_nmem, mem_bls, mem_loc, memO_int, mem_tup, ty_nil, ty_cons, ty_int, ty_bl, ty_tup, ty_non, ty_str, grd_loc, grdO_some, grd_tup, grd_new, grd_rol, gOk_one, eT_len, look_eT, put_eT, kInts_eT, Option.bind_some, Option.map_some, Option.isSome_some, get_zero, get_succ, List.map_cons, List.map_nil, List.reduceReplicate, Nat.reduceSub, Nat.reduceAdd, Nat.reduceLeDiff, Nat.reduceLT, Nat.reduceEqDiff, List.append_nil, List.nil_append, List.cons_append, intOf, blOf, bop_int, iop_add, iop_sub, iop_mod, iop_mulR, iop_mulL, iop_fdiv, Int.reduceLT, Int.reduceLE, Int.reduceNeg, fin_f, List.set_cons_zero, List.set_cons_succ, asg, asgs, kill, if_true, if_false, Bool.false_eq_true, app_get0, app_get, app_set0, app_set, app_app, app_take0, app_take, GCok_P, gcP_nil, gcP_cons, gcP_refl, gcP_app, gcP_app_l, gcP_app_r, sigBelow, S.unds, List.take_length, unds_int, false_implies, implies_true, Bool.and_true, Bool.true_and, Bool.and_self, Bool.false_or, Bool.or_false, Bool.true_or, Bool.or_true, Bool.not_true, Bool.not_false, decide_true, decide_false, decide_eq_true_eq, reduceCtorEq, ne_eq, not_true_eq_false, W_bIte, W_if, bindIte, W_some, List.length_cons, List.length_nil, List.length_append, List.length_map, List.length_replicate, List.length_range, List.getElem?_cons_zero, List.getElem?_cons_succ, List.set_nil, List.take_succ_cons, List.take_zero, true_and, and_true, or_true, true_or, eq_self, asInts_map, LINE, Nat.zero_le, Nat.not_lt, Nat.le_add_right, Nat.le_refl, Nat.lt_irrefl, Nat.lt_add_right_iff_pos, Nat.add_lt_add_iff_left, Nat.add_le_add_iff_left, not_false_eq_true, Int.natCast_eq_zero, Nat.add_one_ne_zero])
local macro_rules | `(tactic| walk_at "dvh") => `(tactic| simp -implicitDefEqProofs only [e_var, e_k, e_gl, e_bin, k_bin1, k_bin2, e_neg, k_neg, e_cmp, k_cmp1, k_cmp2, e_chn, k_chn1, k_chn2, k_chn3, e_and, k_and, e_or, k_or, e_not, k_not, e_tru, k_tru, e_ife, k_ife, e_ix, k_ix1, k_ix2, e_slc, k_sl1, k_sl2, k_sl3, e_tup, e_lst, k_tup, k_lst, e_dnK, e_dnT, e_call, k_call, k_fin, e_bi, k_bi, e_mt, k_mt1, k_mt2, e_app, k_app1, k_app2s, k_app2n, e_isi, k_isi, e_rg1, k_rg1, e_rg2, k_rg2, k_rg2b, e_lc, k_lc, k_lcR, lbd_at, k_ls0, k_ls1, k_ls3s, k_ls3n, s_nil, s_cons, k_cons_s, k_cons_n, k_cons2, d_nil, d_cons, k_consD, k_consD2, i_seq, k_sq, i_rng1, k_r1, i_rng2, k_r2, k_r2b, i_rngD, k_rD, k_rDb, i_enum, k_en, i_zip, k_zp1, k_zp2, i_rev, k_rv, r_skip, r_seq, k_seqN, k_seqR, k_seqB, k_seqC, r_asg, k_asgS, k_asgN, r_asgT, k_asgT, r_asgL, k_asgL, r_par, k_par, r_sub, k_sub1s, k_sub1n, k_sub2, k_sub3, r_aug, k_aug, r_augS, k_augS1, k_augS2, k_augS2b, k_augS3, r_exp, k_exp, r_ret, k_ret, r_retN, r_if, k_if, r_whl, r_fr, k_fr, fbd_at, k_run, r_brk, r_cont, r_gc, k_gcR, k_gcN, k_gcC, k_gcB, r_kl, k_kl, r_kill, r_del, k_del1, k_del2, k_endR, k_endN, fin_s, fin_n, finO_some, fin_loc, zl, rev_map, app_int, set_int, lsO_lst, seqL_loc, seqL_new, seqL_rol, lstOf_loc, lstOf_new, seqOf_tup, seqOf_loc, seqOf_new, seqOf_rol, tupOf_tup, tupOf_loc, tupOf_new, dictOf_new, dictOf_loc, b_any, b_all, lenO_lst, lenO_dK, b_len_tup, b_len_loc, b_len_new, b_len_rol, b_int, b_intB, b_tuple, b_list, b_sum, srtO_lst, srtO_dK, b_sorted_loc, b_sorted_new, b_min2, b_max2, b_abs, v_pop, v_popAt, v_rev, v_bit, v_get1, v_get2, dkO_K, dkO_T, m_pop, popAO_lst, m_popAt, revO_lst, m_rev, m_get1, m_get2, m_bit, dlook_int, popO_int, part_non, part_k, part_v, slc_tup, slc_rol, slc_new, slc_loc, cut_map, und_int, und_bl, und_non, und_str, und_loc, und_tup, und_rol, und_lst, unds_app, und_dK, iop_and, iop_or, iop_xor, setIx_loc, setO_lst, setO_dK, appD_loc, appO_lst, idx_tup, idx_ktu, idx_loc, idx_new, idxO_lst, idxO_dK, pyEq_int, pyEq_bl, c_eq, c_ne, c_lt, c_le, c_gt, c_ge, c_isN, c_notN, isNon_non, isNon_int, isNon_tup, isNon_bl, isNon_loc, tru_int, tru_bl, tru_tup, c_mem, c_nmem, mem_bls, mem_loc, memO_int, mem_tup, ty_nil, ty_cons, ty_int, ty_bl, ty_tup, ty_non, ty_str, grd_loc, grdO_some, grd_tup, grd_new, grd_rol, gOk_one, eT_len, look_eT, put_eT, kInts_eT, Option.bind_some, Option.map_some, Option.isSome_some, get_zero, get_succ, List.map_cons, List.map_nil, List.reduceReplicate, Nat.reduceSub, Nat.reduceAdd, Nat.reduceLeDiff, Nat.reduceLT, Nat.reduceEqDiff, List.append_nil, List.nil_append, List.cons_append, intOf, blOf, bop_int, iop_add, iop_sub, iop_mod, iop_mulR, iop_mulL, iop_fdiv, Int.reduceLT, Int.reduceLE, Int.reduceNeg, fin_f, List.set_cons_zero, List.set_cons_succ, asg, asgs, kill, if_true, if_false, Bool.false_eq_true, app_get0, app_get, app_set0, app_set, app_app, app_take0, app_take, GCok_P, gcP_nil, gcP_cons, gcP_refl, gcP_app, gcP_app_l, gcP_app_r, sigBelow, S.unds, List.take_length, unds_int, false_implies, implies_true, Bool.and_true, Bool.true_and, Bool.and_self, Bool.false_or, Bool.or_false, Bool.true_or, Bool.or_true, Bool.not_true, Bool.not_false, decide_true, decide_false, decide_eq_true_eq, reduceCtorEq, ne_eq, not_true_eq_false, W_bIte, W_if, bindIte, W_some, List.length_cons, List.length_nil, List.length_append, List.length_map, List.length_replicate, List.length_range, List.getElem?_cons_zero, List.getElem?_cons_succ, List.set_nil, List.take_succ_cons, List.take_zero, true_and, and_true, or_true, true_or, eq_self, asInts_map, LINE, Nat.zero_le, Nat.not_lt, Nat.le_add_right, Nat.le_refl, Nat.lt_irrefl, Nat.lt_add_right_iff_pos, Nat.add_lt_add_iff_left, Nat.add_le_add_iff_left, not_false_eq_true, Int.natCast_eq_zero, Nat.add_one_ne_zero, *])
local macro_rules | `(tactic| walk_at "wb") => `(tactic| simp only [W_bind, W_map])

theorem count_ok {k : Nat} (hk : 3 ≤ k) (ds : List Int) (ρ : Sto) : ∃ (c : Int) (ds' : List Int), callK tb gl k Ix.law_count [.loc 0] (dr ds :: ρ) = some (.s (.int c), dr ds' :: ρ) := by
  obtain ⟨k, rfl, hj⟩ := at1 hk
  obtain ⟨v, ds1, v0, v1, e1⟩ := take_ok (k := k) (by omega) (m := 9) (by decide) ds ρ
  have hp1 : iop .pow 10 9 = some (10 ^ (Int.toNat 9)) := iop_pow (by decide)
  have hp2 : iop .pow 10 17 = some (10 ^ (Int.toNat 17)) := iop_pow (by decide)
  have hp3 : iop .pow 10 40 = some (10 ^ (Int.toNat 40)) := iop_pow (by decide)
  by_cases h : v = 0
  · obtain ⟨c, ds2, _, e2⟩ := pick_loc S.int (fun _ _ => rfl) (l := [10 ^ (Int.toNat 9) + 7, 10 ^ (Int.toNat 17) + 3, 10 ^ (Int.toNat 40) + 121]) (by simp) hj ds1 (ρ ++ [iO [10 ^ (Int.toNat 9) + 7, 10 ^ (Int.toNat 17) + 3, 10 ^ (Int.toNat 40) + 121]]) (n := ρ.length) (by simp)
    refine ⟨c, ds2, ?_⟩
    simp only [iO, List.map_cons, List.map_nil] at e2
    rw [call_at' (b := b_law_count) rfl rfl]
    simp only [b_law_count]
    walk_at "dvh"
  · obtain ⟨c, ds2, hc, e2⟩ := pick_loc S.int (fun _ _ => rfl) (l := [1, 3, 9]) (by simp) hj ds1 (ρ ++ [iO [1, 3, 9]]) (n := ρ.length) (by simp)
    have c0 : 0 < c := by simp at hc; omega
    obtain ⟨w, ds3, _, _, e3⟩ := take_ok (k := k) (by omega) c0 ds2 ρ
    refine ⟨1 + w, ds3, ?_⟩
    simp only [iO, List.map_cons, List.map_nil] at e2
    rw [call_at' (b := b_law_count) rfl rfl]
    simp only [b_law_count]
    walk_at "dvh"
end Pg
end
section
set_option Elab.async false
set_option linter.all false
set_option maxRecDepth 100000
set_option maxHeartbeats 4000000
namespace Pg
open Dv
local macro_rules | `(tactic| walk_at "dv") => `(tactic| simp -implicitDefEqProofs only [e_var, e_k, e_gl, e_bin, k_bin1, k_bin2, e_neg, k_neg, e_cmp, k_cmp1, k_cmp2, e_chn, k_chn1, k_chn2, k_chn3, e_and, k_and, e_or, k_or, e_not, k_not, e_tru, k_tru, e_ife, k_ife, e_ix, k_ix1, k_ix2, e_slc, k_sl1, k_sl2, k_sl3, e_tup, e_lst, k_tup, k_lst, e_dnK, e_dnT, e_call, k_call, k_fin, e_bi, k_bi, e_mt, k_mt1, k_mt2, e_app, k_app1, k_app2s, k_app2n, e_isi, k_isi, e_rg1, k_rg1, e_rg2, k_rg2, k_rg2b, e_lc, k_lc, k_lcR, lbd_at, k_ls0, k_ls1, k_ls3s, k_ls3n, s_nil, s_cons, k_cons_s, k_cons_n, k_cons2, d_nil, d_cons, k_consD, k_consD2, i_seq, k_sq, i_rng1, k_r1, i_rng2, k_r2, k_r2b, i_rngD, k_rD, k_rDb, i_enum, k_en, i_zip, k_zp1, k_zp2, i_rev, k_rv, r_skip, r_seq, k_seqN, k_seqR, k_seqB, k_seqC, r_asg, k_asgS, k_asgN, r_asgT, k_asgT, r_asgL, k_asgL, r_par, k_par, r_sub, k_sub1s, k_sub1n, k_sub2, k_sub3, r_aug, k_aug, r_augS, k_augS1, k_augS2, k_augS2b, k_augS3, r_exp, k_exp, r_ret, k_ret, r_retN, r_if, k_if, r_whl, r_fr, k_fr, fbd_at, k_run, r_brk, r_cont, r_gc, k_gcR, k_gcN, k_gcC, k_gcB, r_kl, k_kl, r_kill, r_del, k_del1, k_del2, k_endR, k_endN, fin_s, fin_n, finO_some, fin_loc, zl, rev_map, app_int, set_int, lsO_lst, seqL_loc, seqL_new, seqL_rol, lstOf_loc, lstOf_new, seqOf_tup, seqOf_loc, seqOf_new, seqOf_rol, tupOf_tup, tupOf_loc, tupOf_new, dictOf_new, dictOf_loc, b_any, b_all, lenO_lst, lenO_dK, b_len_tup, b_len_loc, b_len_new, b_len_rol, b_int, b_intB, b_tuple, b_list, b_sum, srtO_lst, srtO_dK, b_sorted_loc, b_sorted_new, b_min2, b_max2, b_abs, v_pop, v_popAt, v_rev, v_bit, v_get1, v_get2, dkO_K, dkO_T, m_pop, popAO_lst, m_popAt, revO_lst, m_rev, m_get1, m_get2, m_bit, dlook_int, popO_int, part_non, part_k, part_v, slc_tup, slc_rol, slc_new, slc_loc, cut_map, und_int, und_bl, und_non, und_str, und_loc, und_tup, und_rol, und_lst, unds_app, und_dK, iop_and, iop_or, iop_xor, setIx_loc, setO_lst, setO_dK, appD_loc, appO_lst, idx_tup, idx_ktu, idx_loc, idx_new, idxO_lst, idxO_dK, pyEq_int, pyEq_bl, c_eq, c_ne, c_lt, c_le, c_gt, c_ge, c_isN, c_notN, isNon_non, isNon_int, isNon_tup, isNon_bl, isNon_loc, tru_int, tru_bl, tru_tup, c_mem, c_nmem, mem_bls, mem_loc, memO_int, mem_tup, ty_nil, ty_cons, ty_int, ty_bl, ty_tup, ty_non, ty_str, grd_loc, grdO_some, grd_tup, grd_new, grd_rol, gOk_one, eT_len, look_eT, put_eT, kInts_eT, Option.bind_some, Option.map_some, Option.isSome_some, get_zero, get_succ, List.map_cons, List.map_nil, List.reduceReplicate, Nat.reduceSub, Nat.reduceAdd, Nat.reduceLeDiff, Nat.reduceLT, Nat.reduceEqDiff, List.append_nil, List.nil_append, List.cons_append, intOf, blOf, bop_int, iop_add, iop_sub, iop_mod, iop_mulR, iop_mulL, iop_fdiv, Int.reduceLT, Int.reduceLE, Int.reduceNeg, fin_f, List.set_cons_zero, List.set_cons_succ, asg, asgs, kill, if_true, if_false, Bool.false_eq_true, app_get0, app_get, app_set0, app_set, app_app, app_take0, app_take, GCok_P, gcP_nil, gcP_cons, gcP_refl, gcP_app, gcP_app_l, gcP_app_r, sigBelow, S.unds, List.take_length, unds_int, false_implies, implies_true, Bool.and_true, Bool.true_and, Bool.and_self, Bool.false_or, Bool.or_false, Bool.true_or, Bool.or_true, Bool.not_true, Bool.not_false, decide_true, decide_false, decide_eq_true_eq, reduceCtorEq, ne_eq, not_true_eq_false, W_bIte, W_if, bindIte, W_some, List.length_cons, List.length_nil, List.length_append, List.length_map, List.length_replicate, List.length_range, List.getElem?_cons_zero, List.getElem?_cons_succ, List.set_nil, List.take_succ_cons, List.take_zero, true_and, and_true, or_true, true_or, eq_self, asInts_map, LINE, Nat.zero_le, Nat.not_lt, Nat.le_add_right, Nat.le_refl, Nat.lt_irrefl, Nat.lt_add_right_iff_pos, Nat.add_lt_add_iff_left, Nat.add_le_add_iff_left, not_false_eq_true, Int.natCast_eq_zero, Nat.add_one_ne_zero])
local macro_rules | `(tactic| walk_at "dvh") => `(tactic| simp -implicitDefEqProofs only [e_var, e_k, e_gl, e_bin, k_bin1, k_bin2, e_neg, k_neg, e_cmp, k_cmp1, k_cmp2, e_chn, k_chn1, k_chn2, k_chn3, e_and, k_and, e_or, k_or, e_not, k_not, e_tru, k_tru, e_ife, k_ife, e_ix, k_ix1, k_ix2, e_slc, k_sl1, k_sl2, k_sl3, e_tup, e_lst, k_tup, k_lst, e_dnK, e_dnT, e_call, k_call, k_fin, e_bi, k_bi, e_mt, k_mt1, k_mt2, e_app, k_app1, k_app2s, k_app2n, e_isi, k_isi, e_rg1, k_rg1, e_rg2, k_rg2, k_rg2b, e_lc, k_lc, k_lcR, lbd_at, k_ls0, k_ls1, k_ls3s, k_ls3n, s_nil, s_cons, k_cons_s, k_cons_n, k_cons2, d_nil, d_cons, k_consD, k_consD2, i_seq, k_sq, i_rng1, k_r1, i_rng2, k_r2, k_r2b, i_rngD, k_rD, k_rDb, i_enum, k_en, i_zip, k_zp1, k_zp2, i_rev, k_rv, r_skip, r_seq, k_seqN, k_seqR, k_seqB, k_seqC, r_asg, k_asgS, k_asgN, r_asgT, k_asgT, r_asgL, k_asgL, r_par, k_par, r_sub, k_sub1s, k_sub1n, k_sub2, k_sub3, r_aug, k_aug, r_augS, k_augS1, k_augS2, k_augS2b, k_augS3, r_exp, k_exp, r_ret, k_ret, r_retN, r_if, k_if, r_whl, r_fr, k_fr, fbd_at, k_run, r_brk, r_cont, r_gc, k_gcR, k_gcN, k_gcC, k_gcB, r_kl, k_kl, r_kill, r_del, k_del1, k_del2, k_endR, k_endN, fin_s, fin_n, finO_some, fin_loc, zl, rev_map, app_int, set_int, lsO_lst, seqL_loc, seqL_new, seqL_rol, lstOf_loc, lstOf_new, seqOf_tup, seqOf_loc, seqOf_new, seqOf_rol, tupOf_tup, tupOf_loc, tupOf_new, dictOf_new, dictOf_loc, b_any, b_all, lenO_lst, lenO_dK, b_len_tup, b_len_loc, b_len_new, b_len_rol, b_int, b_intB, b_tuple, b_list, b_sum, srtO_lst, srtO_dK, b_sorted_loc, b_sorted_new, b_min2, b_max2, b_abs, v_pop, v_popAt, v_rev, v_bit, v_get1, v_get2, dkO_K, dkO_T, m_pop, popAO_lst, m_popAt, revO_lst, m_rev, m_get1, m_get2, m_bit, dlook_int, popO_int, part_non, part_k, part_v, slc_tup, slc_rol, slc_new, slc_loc, cut_map, und_int, und_bl, und_non, und_str, und_loc, und_tup, und_rol, und_lst, unds_app, und_dK, iop_and, iop_or, iop_xor, setIx_loc, setO_lst, setO_dK, appD_loc, appO_lst, idx_tup, idx_ktu, idx_loc, idx_new, idxO_lst, idxO_dK, pyEq_int, pyEq_bl, c_eq, c_ne, c_lt, c_le, c_gt, c_ge, c_isN, c_notN, isNon_non, isNon_int, isNon_tup, isNon_bl, isNon_loc, tru_int, tru_bl, tru_tup, c_mem, c_nmem, mem_bls, mem_loc, memO_int, mem_tup, ty_nil, ty_cons, ty_int, ty_bl, ty_tup, ty_non, ty_str, grd_loc, grdO_some, grd_tup, grd_new, grd_rol, gOk_one, eT_len, look_eT, put_eT, kInts_eT, Option.bind_some, Option.map_some, Option.isSome_some, get_zero, get_succ, List.map_cons, List.map_nil, List.reduceReplicate, Nat.reduceSub, Nat.reduceAdd, Nat.reduceLeDiff, Nat.reduceLT, Nat.reduceEqDiff, List.append_nil, List.nil_append, List.cons_append, intOf, blOf, bop_int, iop_add, iop_sub, iop_mod, iop_mulR, iop_mulL, iop_fdiv, Int.reduceLT, Int.reduceLE, Int.reduceNeg, fin_f, List.set_cons_zero, List.set_cons_succ, asg, asgs, kill, if_true, if_false, Bool.false_eq_true, app_get0, app_get, app_set0, app_set, app_app, app_take0, app_take, GCok_P, gcP_nil, gcP_cons, gcP_refl, gcP_app, gcP_app_l, gcP_app_r, sigBelow, S.unds, List.take_length, unds_int, false_implies, implies_true, Bool.and_true, Bool.true_and, Bool.and_self, Bool.false_or, Bool.or_false, Bool.true_or, Bool.or_true, Bool.not_true, Bool.not_false, decide_true, decide_false, decide_eq_true_eq, reduceCtorEq, ne_eq, not_true_eq_false, W_bIte, W_if, bindIte, W_some, List.length_cons, List.length_nil, List.length_append, List.length_map, List.length_replicate, List.length_range, List.getElem?_cons_zero, List.getElem?_cons_succ, List.set_nil, List.take_succ_cons, List.take_zero, true_and, and_true, or_true, true_or, eq_self, asInts_map, LINE, Nat.zero_le, Nat.not_lt, Nat.le_add_right, Nat.le_refl, Nat.lt_irrefl, Nat.lt_add_right_iff_pos, Nat.add_lt_add_iff_left, Nat.add_le_add_iff_left, not_false_eq_true, Int.natCast_eq_zero, Nat.add_one_ne_zero, *])
local macro_rules | `(tactic| walk_at "wb") => `(tactic| simp only [W_bind, W_map])

theorem keys_ok {k : Nat} (hk : 4 ≤ k) {n : Nat} (hn : 0 < n ∧ n ≤ 100000) (ds : List Int) (ρ : Sto) : ∃ (ks ds' : List Int), ks ≠ [] ∧ ks.length ≤ 1000 ∧ (∀ x ∈ ks, 0 ≤ x ∧ x < n) ∧ callK tb gl k Ix.law_keys [.loc 0, .int n] (dr ds :: ρ) = some (.new (iO ks), dr ds' :: ρ) := by
  obtain ⟨k, rfl, hj⟩ := at1 hk
  have er : rngI 0 1 ((n : Int) - 0).toNat = ((List.range n).map fun i : Nat => (i : Int)).map S.int := by
    rw [show ((n : Int) - 0).toNat = n from by omega, rngI_nat]; simp
  have hrg : rgD false 0 (n : Int) = some (.new (iO ((List.range n).map fun i : Nat => (i : Int)))) := by
    unfold rgD
    rw [if_pos (by omega), er]; rfl
  obtain ⟨r, ds1, r0, rl, rm, e1⟩ := some_ok hj (m := 7) (by decide) (xs := (List.range n).map fun i : Nat => (i : Int)) (by simp; omega) (a := ρ.length) ds (ρ ++ [iO ((List.range n).map fun i : Nat => (i : Int))]) (by simp)
  obtain ⟨ks, ds2, hp, e2⟩ := shuffled_ok S.int (fun _ _ => rfl) (k := k) (by omega) (l := r) (by omega) (row := .loc (ρ.length + 1)) ds1 (ρ ++ [iO r]) (by rw [seqOf_loc, List.getElem?_cons_succ, app_get0, lsO_lst])
  refine ⟨ks, ds2, ?_, by rw [hp.length_eq]; exact rl, fun x hx => ?_, ?_⟩
  · intro e
    subst e
    exact r0 (List.nil_perm.mp hp)
  · have := rm x (hp.mem_iff.mp hx)
    obtain ⟨i, hi, rfl⟩ := List.mem_map.mp this
    have := List.mem_range.mp hi
    omega
  · clear er
    rw [call_at' (b := b_law_keys) rfl rfl]
    simp only [b_law_keys]
    walk_at "dvh"
end Pg
end
section
set_option Elab.async false
set_option linter.all false
set_option maxRecDepth 100000
set_option maxHeartbeats 4000000
namespace Pg
open Dv
local macro_rules | `(tactic| walk_at "dv") => `(tactic| simp -implicitDefEqProofs only [e_var, e_k, e_gl, e_bin, k_bin1, k_bin2, e_neg, k_neg, e_cmp, k_cmp1, k_cmp2, e_chn, k_chn1, k_chn2, k_chn3, e_and, k_and, e_or, k_or, e_not, k_not, e_tru, k_tru, e_ife, k_ife, e_ix, k_ix1, k_ix2, e_slc, k_sl1, k_sl2, k_sl3, e_tup, e_lst, k_tup, k_lst, e_dnK, e_dnT, e_call, k_call, k_fin, e_bi, k_bi, e_mt, k_mt1, k_mt2, e_app, k_app1, k_app2s, k_app2n, e_isi, k_isi, e_rg1, k_rg1, e_rg2, k_rg2, k_rg2b, e_lc, k_lc, k_lcR, lbd_at, k_ls0, k_ls1, k_ls3s, k_ls3n, s_nil, s_cons, k_cons_s, k_cons_n, k_cons2, d_nil, d_cons, k_consD, k_consD2, i_seq, k_sq, i_rng1, k_r1, i_rng2, k_r2, k_r2b, i_rngD, k_rD, k_rDb, i_enum, k_en, i_zip, k_zp1, k_zp2, i_rev, k_rv, r_skip, r_seq, k_seqN, k_seqR, k_seqB, k_seqC, r_asg, k_asgS, k_asgN, r_asgT, k_asgT, r_asgL, k_asgL, r_par, k_par, r_sub, k_sub1s, k_sub1n, k_sub2, k_sub3, r_aug, k_aug, r_augS, k_augS1, k_augS2, k_augS2b, k_augS3, r_exp, k_exp, r_ret, k_ret, r_retN, r_if, k_if, r_whl, r_fr, k_fr, fbd_at, k_run, r_brk, r_cont, r_gc, k_gcR, k_gcN, k_gcC, k_gcB, r_kl, k_kl, r_kill, r_del, k_del1, k_del2, k_endR, k_endN, fin_s, fin_n, finO_some, fin_loc, zl, rev_map, app_int, set_int, lsO_lst, seqL_loc, seqL_new, seqL_rol, lstOf_loc, lstOf_new, seqOf_tup, seqOf_loc, seqOf_new, seqOf_rol, tupOf_tup, tupOf_loc, tupOf_new, dictOf_new, dictOf_loc, b_any, b_all, lenO_lst, lenO_dK, b_len_tup, b_len_loc, b_len_new, b_len_rol, b_int, b_intB, b_tuple, b_list, b_sum, srtO_lst, srtO_dK, b_sorted_loc, b_sorted_new, b_min2, b_max2, b_abs, v_pop, v_popAt, v_rev, v_bit, v_get1, v_get2, dkO_K, dkO_T, m_pop, popAO_lst, m_popAt, revO_lst, m_rev, m_get1, m_get2, m_bit, dlook_int, popO_int, part_non, part_k, part_v, slc_tup, slc_rol, slc_new, slc_loc, cut_map, und_int, und_bl, und_non, und_str, und_loc, und_tup, und_rol, und_lst, unds_app, und_dK, iop_and, iop_or, iop_xor, setIx_loc, setO_lst, setO_dK, appD_loc, appO_lst, idx_tup, idx_ktu, idx_loc, idx_new, idxO_lst, idxO_dK, pyEq_int, pyEq_bl, c_eq, c_ne, c_lt, c_le, c_gt, c_ge, c_isN, c_notN, isNon_non, isNon_int, isNon_tup, isNon_bl, isNon_loc, tru_int, tru_bl, tru_tup, c_mem, c_nmem, mem_bls, mem_loc, memO_int, mem_tup, ty_nil, ty_cons, ty_int, ty_bl, ty_tup, ty_non, ty_str, grd_loc, grdO_some, grd_tup, grd_new, grd_rol, gOk_one, eT_len, look_eT, put_eT, kInts_eT, Option.bind_some, Option.map_some, Option.isSome_some, get_zero, get_succ, List.map_cons, List.map_nil, List.reduceReplicate, Nat.reduceSub, Nat.reduceAdd, Nat.reduceLeDiff, Nat.reduceLT, Nat.reduceEqDiff, List.append_nil, List.nil_append, List.cons_append, intOf, blOf, bop_int, iop_add, iop_sub, iop_mod, iop_mulR, iop_mulL, iop_fdiv, Int.reduceLT, Int.reduceLE, Int.reduceNeg, fin_f, List.set_cons_zero, List.set_cons_succ, asg, asgs, kill, if_true, if_false, Bool.false_eq_true, app_get0, app_get, app_set0, app_set, app_app, app_take0, app_take, GCok_P, gcP_nil, gcP_cons, gcP_refl, gcP_app, gcP_app_l, gcP_app_r, sigBelow, S.unds, List.take_length, unds_int, false_implies, implies_true, Bool.and_true, Bool.true_and, Bool.and_self, Bool.false_or, Bool.or_false, Bool.true_or, Bool.or_true, Bool.not_true, Bool.not_false, decide_true, decide_false, decide_eq_true_eq, reduceCtorEq, ne_eq, not_true_eq_false, W_bIte, W_if, bindIte, W_some, List.length_cons, List.length_nil, List.length_append, List.length_map, List.length_replicate, List.length_range, List.getElem?_cons_zero, List.getElem?_cons_succ, List.set_nil, List.take_succ_cons, List.take_zero, true_and, and_true, or_true, true_or, eq_self, asInts_map, LINE, Nat.zero_le, Nat.not_lt, Nat.le_add_right, Nat.le_refl, Nat.lt_irrefl, Nat.lt_add_right_iff_pos, Nat.add_lt_add_iff_left, Nat.add_le_add_iff_left, not_false_eq_true, Int.natCast_eq_zero, Nat.add_one_ne_zero])
local macro_rules | `(tactic| walk_at "dvh") => `(tactic| simp -implicitDefEqProofs only [e_var, e_k, e_gl, e_bin, k_bin1, k_bin2, e_neg, k_neg, e_cmp, k_cmp1, k_cmp2, e_chn, k_chn1, k_chn2, k_chn3, e_and, k_and, e_or, k_or, e_not, k_not, e_tru, k_tru, e_ife, k_ife, e_ix, k_ix1, k_ix2, e_slc, k_sl1, k_sl2, k_sl3, e_tup, e_lst, k_tup, k_lst, e_dnK, e_dnT, e_call, k_call, k_fin, e_bi, k_bi, e_mt, k_mt1, k_mt2, e_app, k_app1, k_app2s, k_app2n, e_isi, k_isi, e_rg1, k_rg1, e_rg2, k_rg2, k_rg2b, e_lc, k_lc, k_lcR, lbd_at, k_ls0, k_ls1, k_ls3s, k_ls3n, s_nil, s_cons, k_cons_s, k_cons_n, k_cons2, d_nil, d_cons, k_consD, k_consD2, i_seq, k_sq, i_rng1, k_r1, i_rng2, k_r2, k_r2b, i_rngD, k_rD, k_rDb, i_enum, k_en, i_zip, k_zp1, k_zp2, i_rev, k_rv, r_skip, r_seq, k_seqN, k_seqR, k_seqB, k_seqC, r_asg, k_asgS, k_asgN, r_asgT, k_asgT, r_asgL, k_asgL, r_par, k_par, r_sub, k_sub1s, k_sub1n, k_sub2, k_sub3, r_aug, k_aug, r_augS, k_augS1, k_augS2, k_augS2b, k_augS3, r_exp, k_exp, r_ret, k_ret, r_retN, r_if, k_if, r_whl, r_fr, k_fr, fbd_at, k_run, r_brk, r_cont, r_gc, k_gcR, k_gcN, k_gcC, k_gcB, r_kl, k_kl, r_kill, r_del, k_del1, k_del2, k_endR, k_endN, fin_s, fin_n, finO_some, fin_loc, zl, rev_map, app_int, set_int, lsO_lst, seqL_loc, seqL_new, seqL_rol, lstOf_loc, lstOf_new, seqOf_tup, seqOf_loc, seqOf_new, seqOf_rol, tupOf_tup, tupOf_loc, tupOf_new, dictOf_new, dictOf_loc, b_any, b_all, lenO_lst, lenO_dK, b_len_tup, b_len_loc, b_len_new, b_len_rol, b_int, b_intB, b_tuple, b_list, b_sum, srtO_lst, srtO_dK, b_sorted_loc, b_sorted_new, b_min2, b_max2, b_abs, v_pop, v_popAt, v_rev, v_bit, v_get1, v_get2, dkO_K, dkO_T, m_pop, popAO_lst, m_popAt, revO_lst, m_rev, m_get1, m_get2, m_bit, dlook_int, popO_int, part_non, part_k, part_v, slc_tup, slc_rol, slc_new, slc_loc, cut_map, und_int, und_bl, und_non, und_str, und_loc, und_tup, und_rol, und_lst, unds_app, und_dK, iop_and, iop_or, iop_xor, setIx_loc, setO_lst, setO_dK, appD_loc, appO_lst, idx_tup, idx_ktu, idx_loc, idx_new, idxO_lst, idxO_dK, pyEq_int, pyEq_bl, c_eq, c_ne, c_lt, c_le, c_gt, c_ge, c_isN, c_notN, isNon_non, isNon_int, isNon_tup, isNon_bl, isNon_loc, tru_int, tru_bl, tru_tup, c_mem, c_nmem, mem_bls, mem_loc, memO_int, mem_tup, ty_nil, ty_cons, ty_int, ty_bl, ty_tup, ty_non, ty_str, grd_loc, grdO_some, grd_tup, grd_new, grd_rol, gOk_one, eT_len, look_eT, put_eT, kInts_eT, Option.bind_some, Option.map_some, Option.isSome_some, get_zero, get_succ, List.map_cons, List.map_nil, List.reduceReplicate, Nat.reduceSub, Nat.reduceAdd, Nat.reduceLeDiff, Nat.reduceLT, Nat.reduceEqDiff, List.append_nil, List.nil_append, List.cons_append, intOf, blOf, bop_int, iop_add, iop_sub, iop_mod, iop_mulR, iop_mulL, iop_fdiv, Int.reduceLT, Int.reduceLE, Int.reduceNeg, fin_f, List.set_cons_zero, List.set_cons_succ, asg, asgs, kill, if_true, if_false, Bool.false_eq_true, app_get0, app_get, app_set0, app_set, app_app, app_take0, app_take, GCok_P, gcP_nil, gcP_cons, gcP_refl, gcP_app, gcP_app_l, gcP_app_r, sigBelow, S.unds, List.take_length, unds_int, false_implies, implies_true, Bool.and_true, Bool.true_and, Bool.and_self, Bool.false_or, Bool.or_false, Bool.true_or, Bool.or_true, Bool.not_true, Bool.not_false, decide_true, decide_false, decide_eq_true_eq, reduceCtorEq, ne_eq, not_true_eq_false, W_bIte, W_if, bindIte, W_some, List.length_cons, List.length_nil, List.length_append, List.length_map, List.length_replicate, List.length_range, List.getElem?_cons_zero, List.getElem?_cons_succ, List.set_nil, List.take_succ_cons, List.take_zero, true_and, and_true, or_true, true_or, eq_self, asInts_map, LINE, Nat.zero_le, Nat.not_lt, Nat.le_add_right, Nat.le_refl, Nat.lt_irrefl, Nat.lt_add_right_iff_pos, Nat.add_lt_add_iff_left, Nat.add_le_add_iff_left, not_false_eq_true, Int.natCast_eq_zero, Nat.add_one_ne_zero, *])
local macro_rules | `(tactic| walk_at "wb") => `(tactic| simp only [W_bind, W_map])

theorem any_ok {k : Nat} (hk : 4 ≤ k) {m : Int} (hm : 0 ≤ m ∧ m ≤ 60) {xs : List Int} (hx : xs ≠ []) {a : Nat} (ds : List Int) (ρ : Sto) (ha : ρ[a]? = some (iO xs)) : ∃ (s : Stm) (ds' : List Int), s.length ≤ 60 ∧ (∀ p ∈ s, p.1 ∈ xs) ∧ callK tb gl k Ix.law_any_stream [.loc 0, .loc (a + 1), .int m] (dr ds :: ρ) = some (.s (sSt s), dr ds' :: ρ) := by
  obtain ⟨k, rfl, hj⟩ := at1 hk
  have hal : a < ρ.length := by
    rcases Nat.lt_or_ge a ρ.length with h | h
    · exact h
    · rw [List.getElem?_eq_none h] at ha; cases ha
  have ha2 : ∀ o, (ρ ++ [o])[a]? = some (iO xs) := fun o => by rw [List.getElem?_append_left hal]; exact ha
  obtain ⟨v, ds1, v0, v1, e1⟩ := take_ok (k := k) (m := m + 1) (by omega) (by omega) ds (ρ ++ [.lst []])
  obtain ⟨n, rfl⟩ : ∃ n : Nat, v = (n : Int) := ⟨v.toNat, by omega⟩
  have hb : b62 (n : Int) = true := by simp only [b62, Bool.and_eq_true, decide_eq_true_eq]; omega
  have en : ((n : Int).toNat) = n := Int.toNat_natCast _
  have hU := @und_st
  obtain ⟨⟨ds', s⟩, e, hI, hl⟩ := for_st (gs := []) (body := fbd (callK tb gl k) gl (.nm 4) (.kl [4] b_law_any_stream_l0)) (σ := List Int × Stm) nI (fun _ => [some (.loc 0), some (.loc (a + 1)), some (.int m), some (.loc (ρ.length + 1)), none]) (fun s => dr s.1 :: (ρ ++ [.lst (s.2.map sPr)])) (fun r s => (∀ p ∈ s.2, p.1 ∈ xs) ∧ s.2.length + r.length ≤ 60) (fun _ _ _ => rfl) (fun i r s hI => by
      obtain ⟨ds, s⟩ := s
      dsimp only at hI
      obtain ⟨x, ds1, hx1, f1⟩ := pick_loc S.int (fun _ _ => rfl) hx (k := k) (n := a) (by omega) ds (ρ ++ [.lst (s.map sPr)]) (ha2 _)
      obtain ⟨c, ds2, f2⟩ := count_ok hj ds1 (ρ ++ [.lst (s.map sPr)])
      obtain ⟨y, ds3, hy, f3⟩ := pick_loc S.int (fun _ _ => rfl) (l := [1, 1, -1]) (by simp) (k := k) (n := ρ.length + 1) (by omega) ds2 (ρ ++ [.lst (s.map sPr), iO [1, 1, -1]]) (by simp)
      have hy2 : -18446744073709551616 < y ∧ y < 18446744073709551616 := by simp at hy; omega
      have hmul : iop .mul c y = some (c * y) := iop_mulR hy2
      have hls : s.length < 16777216 := by have := hI.2; omega
      simp only [iO, List.map_cons, List.map_nil] at f3
      refine ⟨(ds3, s ++ [(x, c * y)]), ?_, fun p hp => ?_, by have := hI.2; simp only [List.length_append, List.length_cons, List.length_nil] at this ⊢; omega⟩
      · have hap : (s ++ [(x, c * y)]).map sPr = s.map sPr ++ [.tup [.int x, .int (c * y)]] := by simp
        dsimp only
        rw [hap]
        clear hap hy2
        simp only [fbd_at]
        walk_at "dvh"
        simp only [b_law_any_stream_l0]
        walk_at "dvh"
      · rcases List.mem_append.mp hp with hp | hp
        · exact hI.1 p hp
        · simp only [List.mem_singleton] at hp; subst hp; exact hx1) (List.range n) (ds1, []) ⟨by simp, by simp only [List.length_nil, List.length_range]; omega⟩
  dsimp only at hI hl e
  have hr := rngI_nat n
  refine ⟨s, ds', by simpa using hl, hI, ?_⟩
  rw [List.map_nil] at e
  rw [call_at' (b := b_law_any_stream) rfl rfl]
  simp only [b_law_any_stream, s_law_any_stream_0, s_law_any_stream_1, s_law_any_stream_2]
  walk_at "dvh"
end Pg
end
section
set_option Elab.async false
set_option linter.all false
set_option maxRecDepth 100000
set_option maxHeartbeats 4000000
namespace Pg
open Dv
local macro_rules | `(tactic| walk_at "dv") => `(tactic| simp -implicitDefEqProofs only [e_var, e_k, e_gl, e_bin, k_bin1, k_bin2, e_neg, k_neg, e_cmp, k_cmp1, k_cmp2, e_chn, k_chn1, k_chn2, k_chn3, e_and, k_and, e_or, k_or, e_not, k_not, e_tru, k_tru, e_ife, k_ife, e_ix, k_ix1, k_ix2, e_slc, k_sl1, k_sl2, k_sl3, e_tup, e_lst, k_tup, k_lst, e_dnK, e_dnT, e_call, k_call, k_fin, e_bi, k_bi, e_mt, k_mt1, k_mt2, e_app, k_app1, k_app2s, k_app2n, e_isi, k_isi, e_rg1, k_rg1, e_rg2, k_rg2, k_rg2b, e_lc, k_lc, k_lcR, lbd_at, k_ls0, k_ls1, k_ls3s, k_ls3n, s_nil, s_cons, k_cons_s, k_cons_n, k_cons2, d_nil, d_cons, k_consD, k_consD2, i_seq, k_sq, i_rng1, k_r1, i_rng2, k_r2, k_r2b, i_rngD, k_rD, k_rDb, i_enum, k_en, i_zip, k_zp1, k_zp2, i_rev, k_rv, r_skip, r_seq, k_seqN, k_seqR, k_seqB, k_seqC, r_asg, k_asgS, k_asgN, r_asgT, k_asgT, r_asgL, k_asgL, r_par, k_par, r_sub, k_sub1s, k_sub1n, k_sub2, k_sub3, r_aug, k_aug, r_augS, k_augS1, k_augS2, k_augS2b, k_augS3, r_exp, k_exp, r_ret, k_ret, r_retN, r_if, k_if, r_whl, r_fr, k_fr, fbd_at, k_run, r_brk, r_cont, r_gc, k_gcR, k_gcN, k_gcC, k_gcB, r_kl, k_kl, r_kill, r_del, k_del1, k_del2, k_endR, k_endN, fin_s, fin_n, finO_some, fin_loc, zl, rev_map, app_int, set_int, lsO_lst, seqL_loc, seqL_new, seqL_rol, lstOf_loc, lstOf_new, seqOf_tup, seqOf_loc, seqOf_new, seqOf_rol, tupOf_tup, tupOf_loc, tupOf_new, dictOf_new, dictOf_loc, b_any, b_all, lenO_lst, lenO_dK, b_len_tup, b_len_loc, b_len_new, b_len_rol, b_int, b_intB, b_tuple, b_list, b_sum, srtO_lst, srtO_dK, b_sorted_loc, b_sorted_new, b_min2, b_max2, b_abs, v_pop, v_popAt, v_rev, v_bit, v_get1, v_get2, dkO_K, dkO_T, m_pop, popAO_lst, m_popAt, revO_lst, m_rev, m_get1, m_get2, m_bit, dlook_int, popO_int, part_non, part_k, part_v, slc_tup, slc_rol, slc_new, slc_loc, cut_map, und_int, und_bl, und_non, und_str, und_loc, und_tup, und_rol, und_lst, unds_app, und_dK, iop_and, iop_or, iop_xor, setIx_loc, setO_lst, setO_dK, appD_loc, appO_lst, idx_tup, idx_ktu, idx_loc, idx_new, idxO_lst, idxO_dK, pyEq_int, pyEq_bl, c_eq, c_ne, c_lt, c_le, c_gt, c_ge, c_isN, c_notN, isNon_non, isNon_int, isNon_tup, isNon_bl, isNon_loc, tru_int, tru_bl, tru_tup, c_mem, c_nmem, mem_bls, mem_loc, memO_int, mem_tup, ty_nil, ty_cons, ty_int, ty_bl, ty_tup, ty_non, ty_str, grd_loc, grdO_some, grd_tup, grd_new, grd_rol, gOk_one, eT_len, look_eT, put_eT, kInts_eT, Option.bind_some, Option.map_some, Option.isSome_some, get_zero, get_succ, List.map_cons, List.map_nil, List.reduceReplicate, Nat.reduceSub, Nat.reduceAdd, Nat.reduceLeDiff, Nat.reduceLT, Nat.reduceEqDiff, List.append_nil, List.nil_append, List.cons_append, intOf, blOf, bop_int, iop_add, iop_sub, iop_mod, iop_mulR, iop_mulL, iop_fdiv, Int.reduceLT, Int.reduceLE, Int.reduceNeg, fin_f, List.set_cons_zero, List.set_cons_succ, asg, asgs, kill, if_true, if_false, Bool.false_eq_true, app_get0, app_get, app_set0, app_set, app_app, app_take0, app_take, GCok_P, gcP_nil, gcP_cons, gcP_refl, gcP_app, gcP_app_l, gcP_app_r, sigBelow, S.unds, List.take_length, unds_int, false_implies, implies_true, Bool.and_true, Bool.true_and, Bool.and_self, Bool.false_or, Bool.or_false, Bool.true_or, Bool.or_true, Bool.not_true, Bool.not_false, decide_true, decide_false, decide_eq_true_eq, reduceCtorEq, ne_eq, not_true_eq_false, W_bIte, W_if, bindIte, W_some, List.length_cons, List.length_nil, List.length_append, List.length_map, List.length_replicate, List.length_range, List.getElem?_cons_zero, List.getElem?_cons_succ, List.set_nil, List.take_succ_cons, List.take_zero, true_and, and_true, or_true, true_or, eq_self, asInts_map, LINE, Nat.zero_le, Nat.not_lt, Nat.le_add_right, Nat.le_refl, Nat.lt_irrefl, Nat.lt_add_right_iff_pos, Nat.add_lt_add_iff_left, Nat.add_le_add_iff_left, not_false_eq_true, Int.natCast_eq_zero, Nat.add_one_ne_zero])
local macro_rules | `(tactic| walk_at "dvh") => `(tactic| simp -implicitDefEqProofs only [e_var, e_k, e_gl, e_bin, k_bin1, k_bin2, e_neg, k_neg, e_cmp, k_cmp1, k_cmp2, e_chn, k_chn1, k_chn2, k_chn3, e_and, k_and, e_or, k_or, e_not, k_not, e_tru, k_tru, e_ife, k_ife, e_ix, k_ix1, k_ix2, e_slc, k_sl1, k_sl2, k_sl3, e_tup, e_lst, k_tup, k_lst, e_dnK, e_dnT, e_call, k_call, k_fin, e_bi, k_bi, e_mt, k_mt1, k_mt2, e_app, k_app1, k_app2s, k_app2n, e_isi, k_isi, e_rg1, k_rg1, e_rg2, k_rg2, k_rg2b, e_lc, k_lc, k_lcR, lbd_at, k_ls0, k_ls1, k_ls3s, k_ls3n, s_nil, s_cons, k_cons_s, k_cons_n, k_cons2, d_nil, d_cons, k_consD, k_consD2, i_seq, k_sq, i_rng1, k_r1, i_rng2, k_r2, k_r2b, i_rngD, k_rD, k_rDb, i_enum, k_en, i_zip, k_zp1, k_zp2, i_rev, k_rv, r_skip, r_seq, k_seqN, k_seqR, k_seqB, k_seqC, r_asg, k_asgS, k_asgN, r_asgT, k_asgT, r_asgL, k_asgL, r_par, k_par, r_sub, k_sub1s, k_sub1n, k_sub2, k_sub3, r_aug, k_aug, r_augS, k_augS1, k_augS2, k_augS2b, k_augS3, r_exp, k_exp, r_ret, k_ret, r_retN, r_if, k_if, r_whl, r_fr, k_fr, fbd_at, k_run, r_brk, r_cont, r_gc, k_gcR, k_gcN, k_gcC, k_gcB, r_kl, k_kl, r_kill, r_del, k_del1, k_del2, k_endR, k_endN, fin_s, fin_n, finO_some, fin_loc, zl, rev_map, app_int, set_int, lsO_lst, seqL_loc, seqL_new, seqL_rol, lstOf_loc, lstOf_new, seqOf_tup, seqOf_loc, seqOf_new, seqOf_rol, tupOf_tup, tupOf_loc, tupOf_new, dictOf_new, dictOf_loc, b_any, b_all, lenO_lst, lenO_dK, b_len_tup, b_len_loc, b_len_new, b_len_rol, b_int, b_intB, b_tuple, b_list, b_sum, srtO_lst, srtO_dK, b_sorted_loc, b_sorted_new, b_min2, b_max2, b_abs, v_pop, v_popAt, v_rev, v_bit, v_get1, v_get2, dkO_K, dkO_T, m_pop, popAO_lst, m_popAt, revO_lst, m_rev, m_get1, m_get2, m_bit, dlook_int, popO_int, part_non, part_k, part_v, slc_tup, slc_rol, slc_new, slc_loc, cut_map, und_int, und_bl, und_non, und_str, und_loc, und_tup, und_rol, und_lst, unds_app, und_dK, iop_and, iop_or, iop_xor, setIx_loc, setO_lst, setO_dK, appD_loc, appO_lst, idx_tup, idx_ktu, idx_loc, idx_new, idxO_lst, idxO_dK, pyEq_int, pyEq_bl, c_eq, c_ne, c_lt, c_le, c_gt, c_ge, c_isN, c_notN, isNon_non, isNon_int, isNon_tup, isNon_bl, isNon_loc, tru_int, tru_bl, tru_tup, c_mem, c_nmem, mem_bls, mem_loc, memO_int, mem_tup, ty_nil, ty_cons, ty_int, ty_bl, ty_tup, ty_non, ty_str, grd_loc, grdO_some, grd_tup, grd_new, grd_rol, gOk_one, eT_len, look_eT, put_eT, kInts_eT, Option.bind_some, Option.map_some, Option.isSome_some, get_zero, get_succ, List.map_cons, List.map_nil, List.reduceReplicate, Nat.reduceSub, Nat.reduceAdd, Nat.reduceLeDiff, Nat.reduceLT, Nat.reduceEqDiff, List.append_nil, List.nil_append, List.cons_append, intOf, blOf, bop_int, iop_add, iop_sub, iop_mod, iop_mulR, iop_mulL, iop_fdiv, Int.reduceLT, Int.reduceLE, Int.reduceNeg, fin_f, List.set_cons_zero, List.set_cons_succ, asg, asgs, kill, if_true, if_false, Bool.false_eq_true, app_get0, app_get, app_set0, app_set, app_app, app_take0, app_take, GCok_P, gcP_nil, gcP_cons, gcP_refl, gcP_app, gcP_app_l, gcP_app_r, sigBelow, S.unds, List.take_length, unds_int, false_implies, implies_true, Bool.and_true, Bool.true_and, Bool.and_self, Bool.false_or, Bool.or_false, Bool.true_or, Bool.or_true, Bool.not_true, Bool.not_false, decide_true, decide_false, decide_eq_true_eq, reduceCtorEq, ne_eq, not_true_eq_false, W_bIte, W_if, bindIte, W_some, List.length_cons, List.length_nil, List.length_append, List.length_map, List.length_replicate, List.length_range, List.getElem?_cons_zero, List.getElem?_cons_succ, List.set_nil, List.take_succ_cons, List.take_zero, true_and, and_true, or_true, true_or, eq_self, asInts_map, LINE, Nat.zero_le, Nat.not_lt, Nat.le_add_right, Nat.le_refl, Nat.lt_irrefl, Nat.lt_add_right_iff_pos, Nat.add_lt_add_iff_left, Nat.add_le_add_iff_left, not_false_eq_true, Int.natCast_eq_zero, Nat.add_one_ne_zero, *])
local macro_rules | `(tactic| walk_at "wb") => `(tactic| simp only [W_bind, W_map])

theorem bop_addL {μ : Sto} {n : Nat} {xs ys : List S} (h : μ[n]? = some (.lst xs)) (hl : xs.length + ys.length ≤ 16777216) : bop .add (.s (.loc n)) (.new (.lst ys)) μ = some (.new (.lst (xs ++ ys))) := by
  have h1 : lstOf μ (.s (.loc n)) = some xs := by rw [lstOf_loc, h]; rfl
  show (if Bop.add = .add then (lstOf μ (.s (.loc n))).bind fun xs => (lstOf μ (.new (.lst ys))).bind fun ys => if xs.length + ys.length ≤ LINE then some (D.new (.lst (xs ++ ys))) else none else none) = _
  rw [if_pos rfl, h1]
  simp only [Option.bind_some, lstOf_new]
  rw [if_pos hl]
theorem lkeys_ok {k : Nat} (hk : 5 ≤ k) {m : Nat} (hm : m ≤ 10) (ds : List Int) (ρ : Sto) : ∃ (ks ds' : List Int), ks ≠ [] ∧ (∀ x ∈ ks, 0 ≤ x ∧ x < ((2 ^ m : Nat) : Int)) ∧ callK tb gl k Ix.law_level_keys [.loc 0, .int m] (dr ds :: ρ) = some (.new (iO ks), dr ds' :: ρ) := by
  obtain ⟨k, rfl, hj⟩ := at1 hk
  have hpw : (2 : Nat) ^ m ≤ 1024 := Nat.pow_le_pow_right (by decide) hm (n := 2)
  have hp0 : 0 < (2 : Nat) ^ m := Nat.pow_pos (by decide)
  have esh : iop .shl 1 (m : Int) = some ((2 ^ m : Nat) : Int) := by
    rw [iop_shl (by omega)]
    congr 1
    simp
  obtain ⟨ks, ds1, k0, kl, kb, e1⟩ := keys_ok hj (n := 2 ^ m) ⟨hp0, by omega⟩ ds ρ
  obtain ⟨v, ds2, v0, v1, e2⟩ := take_ok (k := k) (m := 2) (by omega) (by decide) ds1 (ρ ++ [iO ks])
  have fil : ∀ (us : List Int) (X : Sto) (n : Nat) (ds : List Int), us.length ≤ 2000 → (∀ x ∈ us, 0 ≤ x) → ((dr ds :: X)[n]? = some (iO us)) → lcGo [(n, iO us)] (lbd (callK tb gl k) gl (.var 3) [3] (.nm 3) (.cmp .lt (.var 3) (.bin .shl (.k (.int 1)) (.var 1))) [some (.loc 0), some (.int m), some (.loc n), none]) (us.map S.int) [] (dr ds :: X) = some (((us.filter fun x => decide (x < ((2 ^ m : Nat) : Int))).map S.int), dr ds :: X) := fun us X n ds hl h0 hx => by
    have C := lc_filter (gs := [(n, iO us)]) (body := lbd (callK tb gl k) gl (.var 3) [3] (.nm 3) (.cmp .lt (.var 3) (.bin .shl (.k (.int 1)) (.var 1))) [some (.loc 0), some (.int m), some (.loc n), none]) (μ := dr ds :: X) S.int (fun x => decide (x < ((2 ^ m : Nat) : Int))) S.int (by rw [gOk_one, hx]; exact decide_eq_true rfl) us (fun x _ => by
      simp only [lbd_at]
      clear hx
      walk_at "dvh"
      by_cases c : x < ((2 ^ m : Nat) : Int) <;> simp only [c, decide_true, decide_false, if_true, if_false, Bool.false_eq_true]) [] (by simp only [List.length_nil, LINE]; omega)
    exact C
  have pos : ∀ us : List Int, (∃ x ∈ us, x < ((2 ^ m : Nat) : Int)) → (us.filter fun x => decide (x < ((2 ^ m : Nat) : Int))) ≠ [] := fun us ⟨x, hx, h⟩ e => by
    have : x ∈ us.filter fun x => decide (x < ((2 ^ m : Nat) : Int)) := List.mem_filter.mpr ⟨hx, decide_eq_true h⟩
    rw [e] at this; cases this
  obtain ⟨x0, r0, hx0⟩ : ∃ x r, ks = x :: r := by
    cases ks with
    | nil => exact absurd rfl k0
    | cons x r => exact ⟨x, r, rfl⟩
  have hin : x0 ∈ ks := by rw [hx0]; simp
  have hx0b := kb x0 hin
  by_cases h : v = 0
  · have hxor : 0 ≤ PySem.Builtin.bitXor x0 1 := Bits.bitXor_nonneg hx0b.1 (by decide)
    have hat : L2.atI (ks.map S.int) 0 = some (.int x0) := by rw [hx0]; exact atI_map (f := S.int) (l := x0 :: r0) x0 (Int.le_refl 0) rfl
    have hadd := fun (X : Sto) (hX : X[ρ.length + 1]? = some (iO ks)) => bop_addL (μ := X) (n := ρ.length + 1) (ys := [.int (PySem.Builtin.bitXor x0 1), .int (((2 ^ m : Nat) : Int) - 1)]) hX (by simp only [List.length_map, List.length_cons, List.length_nil]; omega)
    have hA := hadd (dr ds2 :: (ρ ++ [iO ks])) (by rw [List.getElem?_cons_succ, app_get0])
    have hcat : ks.map S.int ++ [.int (PySem.Builtin.bitXor x0 1), .int (((2 ^ m : Nat) : Int) - 1)] = (ks ++ [PySem.Builtin.bitXor x0 1, ((2 ^ m : Nat) : Int) - 1]).map S.int := by simp
    rw [hcat] at hA
    have F := fil (ks ++ [PySem.Builtin.bitXor x0 1, ((2 ^ m : Nat) : Int) - 1]) (ρ ++ [iO ks, iO (ks ++ [PySem.Builtin.bitXor x0 1, ((2 ^ m : Nat) : Int) - 1])]) (ρ.length + 2) ds2 (by simp only [List.length_append, List.length_cons, List.length_nil]; omega) (fun x hx => by
      rcases List.mem_append.mp hx with hx | hx
      · exact (kb x hx).1
      · simp only [List.mem_cons, List.not_mem_nil, or_false] at hx
        rcases hx with rfl | rfl
        · exact hxor
        · omega) (by simp)
    refine ⟨_, ds2, pos (ks ++ [PySem.Builtin.bitXor x0 1, ((2 ^ m : Nat) : Int) - 1]) ⟨x0, List.mem_append_left _ hin, hx0b.2⟩, fun x hx => ?_, ?_⟩
    · obtain ⟨h1, h2⟩ := List.mem_filter.mp hx
      refine ⟨?_, of_decide_eq_true h2⟩
      rcases List.mem_append.mp h1 with h1 | h1
      · exact (kb x h1).1
      · simp only [List.mem_cons, List.not_mem_nil, or_false] at h1
        rcases h1 with rfl | rfl
        · exact hxor
        · omega
    · clear fil pos hcat hadd hx0
      rw [call_at' (b := b_law_level_keys) rfl rfl]
      simp only [b_law_level_keys, s_law_level_keys_0, s_law_level_keys_1, s_law_level_keys_2]
      walk_at "dvh"
  · have F := fil ks (ρ ++ [iO ks]) (ρ.length + 1) ds2 (by omega) (fun x hx => (kb x hx).1) (by simp)
    refine ⟨_, ds2, pos ks ⟨x0, hin, hx0b.2⟩, fun x hx => ⟨(kb x (List.mem_filter.mp hx).1).1, of_decide_eq_true (List.mem_filter.mp hx).2⟩, ?_⟩
    clear fil pos hx0
    rw [call_at' (b := b_law_level_keys) rfl rfl]
    simp only [b_law_level_keys, s_law_level_keys_0, s_law_level_keys_1, s_law_level_keys_2]
    walk_at "dvh"
end Pg
end
section
set_option Elab.async false
set_option linter.all false
set_option maxRecDepth 100000
set_option maxHeartbeats 4000000
namespace Pg
open Dv
local macro_rules | `(tactic| walk_at "dv") => `(tactic| simp -implicitDefEqProofs only [e_var, e_k, e_gl, e_bin, k_bin1, k_bin2, e_neg, k_neg, e_cmp, k_cmp1, k_cmp2, e_chn, k_chn1, k_chn2, k_chn3, e_and, k_and, e_or, k_or, e_not, k_not, e_tru, k_tru, e_ife, k_ife, e_ix, k_ix1, k_ix2, e_slc, k_sl1, k_sl2, k_sl3, e_tup, e_lst, k_tup, k_lst, e_dnK, e_dnT, e_call, k_call, k_fin, e_bi, k_bi, e_mt, k_mt1, k_mt2, e_app, k_app1, k_app2s, k_app2n, e_isi, k_isi, e_rg1, k_rg1, e_rg2, k_rg2, k_rg2b, e_lc, k_lc, k_lcR, lbd_at, k_ls0, k_ls1, k_ls3s, k_ls3n, s_nil, s_cons, k_cons_s, k_cons_n, k_cons2, d_nil, d_cons, k_consD, k_consD2, i_seq, k_sq, i_rng1, k_r1, i_rng2, k_r2, k_r2b, i_rngD, k_rD, k_rDb, i_enum, k_en, i_zip, k_zp1, k_zp2, i_rev, k_rv, r_skip, r_seq, k_seqN, k_seqR, k_seqB, k_seqC, r_asg, k_asgS, k_asgN, r_asgT, k_asgT, r_asgL, k_asgL, r_par, k_par, r_sub, k_sub1s, k_sub1n, k_sub2, k_sub3, r_aug, k_aug, r_augS, k_augS1, k_augS2, k_augS2b, k_augS3, r_exp, k_exp, r_ret, k_ret, r_retN, r_if, k_if, r_whl, r_fr, k_fr, fbd_at, k_run, r_brk, r_cont, r_gc, k_gcR, k_gcN, k_gcC, k_gcB, r_kl, k_kl, r_kill, r_del, k_del1, k_del2, k_endR, k_endN, fin_s, fin_n, finO_some, fin_loc, zl, rev_map, app_int, set_int, lsO_lst, seqL_loc, seqL_new, seqL_rol, lstOf_loc, lstOf_new, seqOf_tup, seqOf_loc, seqOf_new, seqOf_rol, tupOf_tup, tupOf_loc, tupOf_new, dictOf_new, dictOf_loc, b_any, b_all, lenO_lst, lenO_dK, b_len_tup, b_len_loc, b_len_new, b_len_rol, b_int, b_intB, b_tuple, b_list, b_sum, srtO_lst, srtO_dK, b_sorted_loc, b_sorted_new, b_min2, b_max2, b_abs, v_pop, v_popAt, v_rev, v_bit, v_get1, v_get2, dkO_K, dkO_T, m_pop, popAO_lst, m_popAt, revO_lst, m_rev, m_get1, m_get2, m_bit, dlook_int, popO_int, part_non, part_k, part_v, slc_tup, slc_rol, slc_new, slc_loc, cut_map, und_int, und_bl, und_non, und_str, und_loc, und_tup, und_rol, und_lst, unds_app, und_dK, iop_and, iop_or, iop_xor, setIx_loc, setO_lst, setO_dK, appD_loc, appO_lst, idx_tup, idx_ktu, idx_loc, idx_new, idxO_lst, idxO_dK, pyEq_int, pyEq_bl, c_eq, c_ne, c_lt, c_le, c_gt, c_ge, c_isN, c_notN, isNon_non, isNon_int, isNon_tup, isNon_bl, isNon_loc, tru_int, tru_bl, tru_tup, c_mem, c_nmem, mem_bls, mem_loc, memO_int, mem_tup, ty_nil, ty_cons, ty_int, ty_bl, ty_tup, ty_non, ty_str, grd_loc, grdO_some, grd_tup, grd_new, grd_rol, gOk_one, eT_len, look_eT, put_eT, kInts_eT, Option.bind_some, Option.map_some, Option.isSome_some, get_zero, get_succ, List.map_cons, List.map_nil, List.reduceReplicate, Nat.reduceSub, Nat.reduceAdd, Nat.reduceLeDiff, Nat.reduceLT, Nat.reduceEqDiff, List.append_nil, List.nil_append, List.cons_append, intOf, blOf, bop_int, iop_add, iop_sub, iop_mod, iop_mulR, iop_mulL, iop_fdiv, Int.reduceLT, Int.reduceLE, Int.reduceNeg, fin_f, List.set_cons_zero, List.set_cons_succ, asg, asgs, kill, if_true, if_false, Bool.false_eq_true, app_get0, app_get, app_set0, app_set, app_app, app_take0, app_take, GCok_P, gcP_nil, gcP_cons, gcP_refl, gcP_app, gcP_app_l, gcP_app_r, sigBelow, S.unds, List.take_length, unds_int, false_implies, implies_true, Bool.and_true, Bool.true_and, Bool.and_self, Bool.false_or, Bool.or_false, Bool.true_or, Bool.or_true, Bool.not_true, Bool.not_false, decide_true, decide_false, decide_eq_true_eq, reduceCtorEq, ne_eq, not_true_eq_false, W_bIte, W_if, bindIte, W_some, List.length_cons, List.length_nil, List.length_append, List.length_map, List.length_replicate, List.length_range, List.getElem?_cons_zero, List.getElem?_cons_succ, List.set_nil, List.take_succ_cons, List.take_zero, true_and, and_true, or_true, true_or, eq_self, asInts_map, LINE, Nat.zero_le, Nat.not_lt, Nat.le_add_right, Nat.le_refl, Nat.lt_irrefl, Nat.lt_add_right_iff_pos, Nat.add_lt_add_iff_left, Nat.add_le_add_iff_left, not_false_eq_true, Int.natCast_eq_zero, Nat.add_one_ne_zero])
local macro_rules | `(tactic| walk_at "dvh") => `(tactic| simp -implicitDefEqProofs only [e_var, e_k, e_gl, e_bin, k_bin1, k_bin2, e_neg, k_neg, e_cmp, k_cmp1, k_cmp2, e_chn, k_chn1, k_chn2, k_chn3, e_and, k_and, e_or, k_or, e_not, k_not, e_tru, k_tru, e_ife, k_ife, e_ix, k_ix1, k_ix2, e_slc, k_sl1, k_sl2, k_sl3, e_tup, e_lst, k_tup, k_lst, e_dnK, e_dnT, e_call, k_call, k_fin, e_bi, k_bi, e_mt, k_mt1, k_mt2, e_app, k_app1, k_app2s, k_app2n, e_isi, k_isi, e_rg1, k_rg1, e_rg2, k_rg2, k_rg2b, e_lc, k_lc, k_lcR, lbd_at, k_ls0, k_ls1, k_ls3s, k_ls3n, s_nil, s_cons, k_cons_s, k_cons_n, k_cons2, d_nil, d_cons, k_consD, k_consD2, i_seq, k_sq, i_rng1, k_r1, i_rng2, k_r2, k_r2b, i_rngD, k_rD, k_rDb, i_enum, k_en, i_zip, k_zp1, k_zp2, i_rev, k_rv, r_skip, r_seq, k_seqN, k_seqR, k_seqB, k_seqC, r_asg, k_asgS, k_asgN, r_asgT, k_asgT, r_asgL, k_asgL, r_par, k_par, r_sub, k_sub1s, k_sub1n, k_sub2, k_sub3, r_aug, k_aug, r_augS, k_augS1, k_augS2, k_augS2b, k_augS3, r_exp, k_exp, r_ret, k_ret, r_retN, r_if, k_if, r_whl, r_fr, k_fr, fbd_at, k_run, r_brk, r_cont, r_gc, k_gcR, k_gcN, k_gcC, k_gcB, r_kl, k_kl, r_kill, r_del, k_del1, k_del2, k_endR, k_endN, fin_s, fin_n, finO_some, fin_loc, zl, rev_map, app_int, set_int, lsO_lst, seqL_loc, seqL_new, seqL_rol, lstOf_loc, lstOf_new, seqOf_tup, seqOf_loc, seqOf_new, seqOf_rol, tupOf_tup, tupOf_loc, tupOf_new, dictOf_new, dictOf_loc, b_any, b_all, lenO_lst, lenO_dK, b_len_tup, b_len_loc, b_len_new, b_len_rol, b_int, b_intB, b_tuple, b_list, b_sum, srtO_lst, srtO_dK, b_sorted_loc, b_sorted_new, b_min2, b_max2, b_abs, v_pop, v_popAt, v_rev, v_bit, v_get1, v_get2, dkO_K, dkO_T, m_pop, popAO_lst, m_popAt, revO_lst, m_rev, m_get1, m_get2, m_bit, dlook_int, popO_int, part_non, part_k, part_v, slc_tup, slc_rol, slc_new, slc_loc, cut_map, und_int, und_bl, und_non, und_str, und_loc, und_tup, und_rol, und_lst, unds_app, und_dK, iop_and, iop_or, iop_xor, setIx_loc, setO_lst, setO_dK, appD_loc, appO_lst, idx_tup, idx_ktu, idx_loc, idx_new, idxO_lst, idxO_dK, pyEq_int, pyEq_bl, c_eq, c_ne, c_lt, c_le, c_gt, c_ge, c_isN, c_notN, isNon_non, isNon_int, isNon_tup, isNon_bl, isNon_loc, tru_int, tru_bl, tru_tup, c_mem, c_nmem, mem_bls, mem_loc, memO_int, mem_tup, ty_nil, ty_cons, ty_int, ty_bl, ty_tup, ty_non, ty_str, grd_loc, grdO_some, grd_tup, grd_new, grd_rol, gOk_one, eT_len, look_eT, put_eT, kInts_eT, Option.bind_some, Option.map_some, Option.isSome_some, get_zero, get_succ, List.map_cons, List.map_nil, List.reduceReplicate, Nat.reduceSub, Nat.reduceAdd, Nat.reduceLeDiff, Nat.reduceLT, Nat.reduceEqDiff, List.append_nil, List.nil_append, List.cons_append, intOf, blOf, bop_int, iop_add, iop_sub, iop_mod, iop_mulR, iop_mulL, iop_fdiv, Int.reduceLT, Int.reduceLE, Int.reduceNeg, fin_f, List.set_cons_zero, List.set_cons_succ, asg, asgs, kill, if_true, if_false, Bool.false_eq_true, app_get0, app_get, app_set0, app_set, app_app, app_take0, app_take, GCok_P, gcP_nil, gcP_cons, gcP_refl, gcP_app, gcP_app_l, gcP_app_r, sigBelow, S.unds, List.take_length, unds_int, false_implies, implies_true, Bool.and_true, Bool.true_and, Bool.and_self, Bool.false_or, Bool.or_false, Bool.true_or, Bool.or_true, Bool.not_true, Bool.not_false, decide_true, decide_false, decide_eq_true_eq, reduceCtorEq, ne_eq, not_true_eq_false, W_bIte, W_if, bindIte, W_some, List.length_cons, List.length_nil, List.length_append, List.length_map, List.length_replicate, List.length_range, List.getElem?_cons_zero, List.getElem?_cons_succ, List.set_nil, List.take_succ_cons, List.take_zero, true_and, and_true, or_true, true_or, eq_self, asInts_map, LINE, Nat.zero_le, Nat.not_lt, Nat.le_add_right, Nat.le_refl, Nat.lt_irrefl, Nat.lt_add_right_iff_pos, Nat.add_lt_add_iff_left, Nat.add_le_add_iff_left, not_false_eq_true, Int.natCast_eq_zero, Nat.add_one_ne_zero, *])
local macro_rules | `(tactic| walk_at "wb") => `(tactic| simp only [W_bind, W_map])

theorem kept_ok {k : Nat} (hk : 4 ≤ k) {m : Int} (hm : 0 ≤ m ∧ m ≤ 60) {xs : List Int} (hx : xs ≠ []) {a : Nat} (ds : List Int) (ρ : Sto) (ha : ρ[a]? = some (iO xs)) : ∃ (s : Stm) (ds' : List Int), s.length ≤ 60 ∧ (∀ p ∈ s, p.1 ∈ xs) ∧ callK tb gl k Ix.law_kept [.loc 0, .loc (a + 1), .int m] (dr ds :: ρ) = some (.s (sSt s), dr ds' :: ρ) := by
  obtain ⟨k, rfl, hj⟩ := at1 hk
  have hal : a < ρ.length := by
    rcases Nat.lt_or_ge a ρ.length with h | h
    · exact h
    · rw [List.getElem?_eq_none h] at ha; cases ha
  have ha2 : ∀ o, (ρ ++ o)[a]? = some (iO xs) := fun o => by rw [List.getElem?_append_left hal]; exact ha
  obtain ⟨v, ds1, v0, v1, e1⟩ := take_ok (k := k) (m := m + 1) (by omega) (by omega) ds (ρ ++ [.dK [], .lst []])
  obtain ⟨n, rfl⟩ : ∃ n : Nat, v = (n : Int) := ⟨v.toNat, by omega⟩
  have hb : b62 (n : Int) = true := by simp only [b62, Bool.and_eq_true, decide_eq_true_eq]; omega
  have en : ((n : Int).toNat) = n := Int.toNat_natCast _
  have hU := @und_st
  have gd := getD_int
  obtain ⟨⟨ds', t, s⟩, e, hI, hl⟩ := for_st (gs := []) (body := fbd (callK tb gl k) gl (.nm 5) (.kl [5, 6, 7, 8] b_law_kept_l0)) (σ := List Int × List (Int × Int) × Stm) nI (fun _ => [some (.loc 0), some (.loc (a + 1)), some (.int m), some (.loc (ρ.length + 1)), some (.loc (ρ.length + 2)), none, none, none, none]) (fun s => dr s.1 :: (ρ ++ [.dK (eT S.int s.2.1), .lst (s.2.2.map sPr)])) (fun r s => (∀ p ∈ s.2.2, p.1 ∈ xs) ∧ s.2.2.length + r.length ≤ 60 ∧ s.2.1.length + r.length ≤ 60) (fun _ _ _ => rfl) (fun i r s hI => by
      obtain ⟨ds, t, s⟩ := s
      dsimp only at hI
      obtain ⟨h1, h2, h3⟩ := hI
      simp only [List.length_cons] at h2 h3
      obtain ⟨x, ds1, hx1, f1⟩ := pick_loc S.int (fun _ _ => rfl) hx (k := k) (n := a) (by omega) ds (ρ ++ [.dK (eT S.int t), .lst (s.map sPr)]) (ha2 _)
      obtain ⟨c, ds2, f2⟩ := count_ok hj ds1 (ρ ++ [.dK (eT S.int t), .lst (s.map sPr)])
      have hls : s.length < 16777216 := by omega
      have hlt : t.length < 16777216 := by omega
      have st : ∃ c' ds', run (callK tb gl k) gl s_law_kept_l0_3 [some (.loc 0), some (.loc (a + 1)), some (.int m), some (.loc (ρ.length + 1)), some (.loc (ρ.length + 2)), some (nI i), some (.int x), some (.int (lk0 t x)), some (.int c)] (dr ds2 :: (ρ ++ [.dK (eT S.int t), .lst (s.map sPr)])) = some (.nx, [some (.loc 0), some (.loc (a + 1)), some (.int m), some (.loc (ρ.length + 1)), some (.loc (ρ.length + 2)), some (nI i), some (.int x), some (.int (lk0 t x)), some (.int c')], dr ds' :: (ρ ++ [.dK (eT S.int t), .lst (s.map sPr)])) := by
        clear gd f1 f2
        by_cases q1 : 0 < lk0 t x
        · obtain ⟨v, ds3, v0, v1, e3⟩ := take_ok (k := k) (m := 2) (by omega) (by decide) ds2 (ρ ++ [.dK (eT S.int t), .lst (s.map sPr)])
          by_cases q2 : v = 0
          · obtain ⟨y, ds4, hy, f4⟩ := pick_loc S.int (fun _ _ => rfl) (l := [lk0 t x, 1, if c < lk0 t x then c else lk0 t x]) (by simp) (k := k) (n := ρ.length + 2) (by omega) ds3 (ρ ++ [.dK (eT S.int t), .lst (s.map sPr), iO [lk0 t x, 1, if c < lk0 t x then c else lk0 t x]]) (by simp)
            simp only [iO, List.map_cons, List.map_nil] at f4
            refine ⟨0 - y, ds4, ?_⟩
            clear hy
            simp only [s_law_kept_l0_3]
            walk_at "dvh"
          · refine ⟨c, ds3, ?_⟩
            simp only [s_law_kept_l0_3]
            walk_at "dvh"
        · refine ⟨c, ds2, ?_⟩
          simp only [s_law_kept_l0_3]
          walk_at "dvh"
      obtain ⟨c', ds3, e3⟩ := st
      refine ⟨(ds3, put t x (lk0 t x + c'), s ++ [(x, c')]), ?_, fun p hp => ?_, by simp only [List.length_append, List.length_cons, List.length_nil]; omega, by have := @put_len Int t x (lk0 t x + c'); dsimp only; omega⟩
      · have hap : (s ++ [(x, c')]).map sPr = s.map sPr ++ [.tup [.int x, .int c']] := by simp
        dsimp only
        rw [hap]
        clear hap
        simp only [fbd_at]
        walk_at "dvh"
        simp only [b_law_kept_l0, s_law_kept_l0_0, s_law_kept_l0_1, s_law_kept_l0_2, s_law_kept_l0_4, s_law_kept_l0_5]
        walk_at "dvh"
      · rcases List.mem_append.mp hp with hp | hp
        · exact h1 p hp
        · simp only [List.mem_singleton] at hp; subst hp; exact hx1) (List.range n) (ds1, [], []) ⟨by simp, by simp only [List.length_nil, List.length_range]; omega, by simp only [List.length_nil, List.length_range]; omega⟩
  dsimp only at hI hl e
  have hr := rngI_nat n
  refine ⟨s, ds', by simpa using hl.1, hI, ?_⟩
  rw [List.map_nil, eT_nil] at e
  rw [call_at' (b := b_law_kept) rfl rfl]
  simp only [b_law_kept, s_law_kept_0, s_law_kept_1, s_law_kept_2, s_law_kept_3]
  walk_at "dvh"
end Pg
end
section
set_option Elab.async false
set_option linter.all false
set_option maxRecDepth 100000
set_option maxHeartbeats 4000000
namespace Pg
open Dv
local macro_rules | `(tactic| walk_at "dv") => `(tactic| simp -implicitDefEqProofs only [e_var, e_k, e_gl, e_bin, k_bin1, k_bin2, e_neg, k_neg, e_cmp, k_cmp1, k_cmp2, e_chn, k_chn1, k_chn2, k_chn3, e_and, k_and, e_or, k_or, e_not, k_not, e_tru, k_tru, e_ife, k_ife, e_ix, k_ix1, k_ix2, e_slc, k_sl1, k_sl2, k_sl3, e_tup, e_lst, k_tup, k_lst, e_dnK, e_dnT, e_call, k_call, k_fin, e_bi, k_bi, e_mt, k_mt1, k_mt2, e_app, k_app1, k_app2s, k_app2n, e_isi, k_isi, e_rg1, k_rg1, e_rg2, k_rg2, k_rg2b, e_lc, k_lc, k_lcR, lbd_at, k_ls0, k_ls1, k_ls3s, k_ls3n, s_nil, s_cons, k_cons_s, k_cons_n, k_cons2, d_nil, d_cons, k_consD, k_consD2, i_seq, k_sq, i_rng1, k_r1, i_rng2, k_r2, k_r2b, i_rngD, k_rD, k_rDb, i_enum, k_en, i_zip, k_zp1, k_zp2, i_rev, k_rv, r_skip, r_seq, k_seqN, k_seqR, k_seqB, k_seqC, r_asg, k_asgS, k_asgN, r_asgT, k_asgT, r_asgL, k_asgL, r_par, k_par, r_sub, k_sub1s, k_sub1n, k_sub2, k_sub3, r_aug, k_aug, r_augS, k_augS1, k_augS2, k_augS2b, k_augS3, r_exp, k_exp, r_ret, k_ret, r_retN, r_if, k_if, r_whl, r_fr, k_fr, fbd_at, k_run, r_brk, r_cont, r_gc, k_gcR, k_gcN, k_gcC, k_gcB, r_kl, k_kl, r_kill, r_del, k_del1, k_del2, k_endR, k_endN, fin_s, fin_n, finO_some, fin_loc, zl, rev_map, app_int, set_int, lsO_lst, seqL_loc, seqL_new, seqL_rol, lstOf_loc, lstOf_new, seqOf_tup, seqOf_loc, seqOf_new, seqOf_rol, tupOf_tup, tupOf_loc, tupOf_new, dictOf_new, dictOf_loc, b_any, b_all, lenO_lst, lenO_dK, b_len_tup, b_len_loc, b_len_new, b_len_rol, b_int, b_intB, b_tuple, b_list, b_sum, srtO_lst, srtO_dK, b_sorted_loc, b_sorted_new, b_min2, b_max2, b_abs, v_pop, v_popAt, v_rev, v_bit, v_get1, v_get2, dkO_K, dkO_T, m_pop, popAO_lst, m_popAt, revO_lst, m_rev, m_get1, m_get2, m_bit, dlook_int, popO_int, part_non, part_k, part_v, slc_tup, slc_rol, slc_new, slc_loc, cut_map, und_int, und_bl, und_non, und_str, und_loc, und_tup, und_rol, und_lst, unds_app, und_dK, iop_and, iop_or, iop_xor, setIx_loc, setO_lst, setO_dK, appD_loc, appO_lst, idx_tup, idx_ktu, idx_loc, idx_new, idxO_lst, idxO_dK, pyEq_int, pyEq_bl, c_eq, c_ne, c_lt, c_le, c_gt, c_ge, c_isN, c_notN, isNon_non, isNon_int, isNon_tup, isNon_bl, isNon_loc, tru_int, tru_bl, tru_tup, c_mem, c_nmem, mem_bls, mem_loc, memO_int, mem_tup, ty_nil, ty_cons, ty_int, ty_bl, ty_tup, ty_non, ty_str, grd_loc, grdO_some, grd_tup, grd_new, grd_rol, gOk_one, eT_len, look_eT, put_eT, kInts_eT, Option.bind_some, Option.map_some, Option.isSome_some, get_zero, get_succ, List.map_cons, List.map_nil, List.reduceReplicate, Nat.reduceSub, Nat.reduceAdd, Nat.reduceLeDiff, Nat.reduceLT, Nat.reduceEqDiff, List.append_nil, List.nil_append, List.cons_append, intOf, blOf, bop_int, iop_add, iop_sub, iop_mod, iop_mulR, iop_mulL, iop_fdiv, Int.reduceLT, Int.reduceLE, Int.reduceNeg, fin_f, List.set_cons_zero, List.set_cons_succ, asg, asgs, kill, if_true, if_false, Bool.false_eq_true, app_get0, app_get, app_set0, app_set, app_app, app_take0, app_take, GCok_P, gcP_nil, gcP_cons, gcP_refl, gcP_app, gcP_app_l, gcP_app_r, sigBelow, S.unds, List.take_length, unds_int, false_implies, implies_true, Bool.and_true, Bool.true_and, Bool.and_self, Bool.false_or, Bool.or_false, Bool.true_or, Bool.or_true, Bool.not_true, Bool.not_false, decide_true, decide_false, decide_eq_true_eq, reduceCtorEq, ne_eq, not_true_eq_false, W_bIte, W_if, bindIte, W_some, List.length_cons, List.length_nil, List.length_append, List.length_map, List.length_replicate, List.length_range, List.getElem?_cons_zero, List.getElem?_cons_succ, List.set_nil, List.take_succ_cons, List.take_zero, true_and, and_true, or_true, true_or, eq_self, asInts_map, LINE, Nat.zero_le, Nat.not_lt, Nat.le_add_right, Nat.le_refl, Nat.lt_irrefl, Nat.lt_add_right_iff_pos, Nat.add_lt_add_iff_left, Nat.add_le_add_iff_left, not_false_eq_true, Int.natCast_eq_zero, Nat.add_one_ne_zero])
local macro_rules | `(tactic| walk_at "dvh") => `(tactic| simp -implicitDefEqProofs only [e_var, e_k, e_gl, e_bin, k_bin1, k_bin2, e_neg, k_neg, e_cmp, k_cmp1, k_cmp2, e_chn, k_chn1, k_chn2, k_chn3, e_and, k_and, e_or, k_or, e_not, k_not, e_tru, k_tru, e_ife, k_ife, e_ix, k_ix1, k_ix2, e_slc, k_sl1, k_sl2, k_sl3, e_tup, e_lst, k_tup, k_lst, e_dnK, e_dnT, e_call, k_call, k_fin, e_bi, k_bi, e_mt, k_mt1, k_mt2, e_app, k_app1, k_app2s, k_app2n, e_isi, k_isi, e_rg1, k_rg1, e_rg2, k_rg2, k_rg2b, e_lc, k_lc, k_lcR, lbd_at, k_ls0, k_ls1, k_ls3s, k_ls3n, s_nil, s_cons, k_cons_s, k_cons_n, k_cons2, d_nil, d_cons, k_consD, k_consD2, i_seq, k_sq, i_rng1, k_r1, i_rng2, k_r2, k_r2b, i_rngD, k_rD, k_rDb, i_enum, k_en, i_zip, k_zp1, k_zp2, i_rev, k_rv, r_skip, r_seq, k_seqN, k_seqR, k_seqB, k_seqC, r_asg, k_asgS, k_asgN, r_asgT, k_asgT, r_asgL, k_asgL, r_par, k_par, r_sub, k_sub1s, k_sub1n, k_sub2, k_sub3, r_aug, k_aug, r_augS, k_augS1, k_augS2, k_augS2b, k_augS3, r_exp, k_exp, r_ret, k_ret, r_retN, r_if, k_if, r_whl, r_fr, k_fr, fbd_at, k_run, r_brk, r_cont, r_gc, k_gcR, k_gcN, k_gcC, k_gcB, r_kl, k_kl, r_kill, r_del, k_del1, k_del2, k_endR, k_endN, fin_s, fin_n, finO_some, fin_loc, zl, rev_map, app_int, set_int, lsO_lst, seqL_loc, seqL_new, seqL_rol, lstOf_loc, lstOf_new, seqOf_tup, seqOf_loc, seqOf_new, seqOf_rol, tupOf_tup, tupOf_loc, tupOf_new, dictOf_new, dictOf_loc, b_any, b_all, lenO_lst, lenO_dK, b_len_tup, b_len_loc, b_len_new, b_len_rol, b_int, b_intB, b_tuple, b_list, b_sum, srtO_lst, srtO_dK, b_sorted_loc, b_sorted_new, b_min2, b_max2, b_abs, v_pop, v_popAt, v_rev, v_bit, v_get1, v_get2, dkO_K, dkO_T, m_pop, popAO_lst, m_popAt, revO_lst, m_rev, m_get1, m_get2, m_bit, dlook_int, popO_int, part_non, part_k, part_v, slc_tup, slc_rol, slc_new, slc_loc, cut_map, und_int, und_bl, und_non, und_str, und_loc, und_tup, und_rol, und_lst, unds_app, und_dK, iop_and, iop_or, iop_xor, setIx_loc, setO_lst, setO_dK, appD_loc, appO_lst, idx_tup, idx_ktu, idx_loc, idx_new, idxO_lst, idxO_dK, pyEq_int, pyEq_bl, c_eq, c_ne, c_lt, c_le, c_gt, c_ge, c_isN, c_notN, isNon_non, isNon_int, isNon_tup, isNon_bl, isNon_loc, tru_int, tru_bl, tru_tup, c_mem, c_nmem, mem_bls, mem_loc, memO_int, mem_tup, ty_nil, ty_cons, ty_int, ty_bl, ty_tup, ty_non, ty_str, grd_loc, grdO_some, grd_tup, grd_new, grd_rol, gOk_one, eT_len, look_eT, put_eT, kInts_eT, Option.bind_some, Option.map_some, Option.isSome_some, get_zero, get_succ, List.map_cons, List.map_nil, List.reduceReplicate, Nat.reduceSub, Nat.reduceAdd, Nat.reduceLeDiff, Nat.reduceLT, Nat.reduceEqDiff, List.append_nil, List.nil_append, List.cons_append, intOf, blOf, bop_int, iop_add, iop_sub, iop_mod, iop_mulR, iop_mulL, iop_fdiv, Int.reduceLT, Int.reduceLE, Int.reduceNeg, fin_f, List.set_cons_zero, List.set_cons_succ, asg, asgs, kill, if_true, if_false, Bool.false_eq_true, app_get0, app_get, app_set0, app_set, app_app, app_take0, app_take, GCok_P, gcP_nil, gcP_cons, gcP_refl, gcP_app, gcP_app_l, gcP_app_r, sigBelow, S.unds, List.take_length, unds_int, false_implies, implies_true, Bool.and_true, Bool.true_and, Bool.and_self, Bool.false_or, Bool.or_false, Bool.true_or, Bool.or_true, Bool.not_true, Bool.not_false, decide_true, decide_false, decide_eq_true_eq, reduceCtorEq, ne_eq, not_true_eq_false, W_bIte, W_if, bindIte, W_some, List.length_cons, List.length_nil, List.length_append, List.length_map, List.length_replicate, List.length_range, List.getElem?_cons_zero, List.getElem?_cons_succ, List.set_nil, List.take_succ_cons, List.take_zero, true_and, and_true, or_true, true_or, eq_self, asInts_map, LINE, Nat.zero_le, Nat.not_lt, Nat.le_add_right, Nat.le_refl, Nat.lt_irrefl, Nat.lt_add_right_iff_pos, Nat.add_lt_add_iff_left, Nat.add_le_add_iff_left, not_false_eq_true, Int.natCast_eq_zero, Nat.add_one_ne_zero, *])
local macro_rules | `(tactic| walk_at "wb") => `(tactic| simp only [W_bind, W_map])

def addCs (A B : List (List (List Int))) : List (List (List Int)) := (A.zip B).map fun p => addRs p.1 p.2
theorem jcells_ok {k : Nat} (hk : 1 ≤ k) {A B : List (List (List Int))} (hA : A.length ≤ 1000 ∧ ∀ a ∈ A, Small a) (μ : Sto) : callK tb gl k Ix.joined_cells [sCells A, sCells B] μ = some (.s (sCells (addCs A B)), μ) := by
  obtain ⟨k, rfl, hj⟩ := at1 hk
  have hU := @und_cells
  have Lp := for_row (gs := []) (body := fbd (callK tb gl k) gl (.tp [(.nm 3), (.nm 4)]) (.kl [3, 4] b_joined_cells_l0)) (f := fun p : List (List Int) × List (List Int) => .tup [sRows p.1, sRows p.2]) (all := A.zip B) (fun _ _ => [some (sCells A), some (sCells B), some (.loc μ.length), none, none, none, none, none, none]) (fun pre _ => μ ++ [.lst ((pre.map fun p => addRs p.1 p.2).map sRows)]) (fun _ _ => rfl) (fun pre p r hall => by
    have hp : p ∈ A.zip B := by rw [← hall]; simp
    have hs := hA.2 p.1 (List.of_mem_zip hp).1
    have hlen : pre.length < 16777216 := by
      have := hA.1
      have h2 := congrArg List.length hall
      simp only [List.length_append, List.length_cons, List.length_zip] at h2
      omega
    have C := fun X : Sto => lc_map (gs := []) (body := lbd (callK tb gl k) gl (.bi .tuple (.cons (.lc (.bin .add (.var 7) (.var 8)) [7, 8] (.tp [(.nm 7), (.nm 8)]) (.zip (.var 5) (.var 6)) (.k (.bl true))) .nil)) [5, 6] (.tp [(.nm 5), (.nm 6)]) (.k (.bl true)) [some (sCells A), some (sCells B), some (.loc μ.length), some (sRows p.1), some (sRows p.2), none, none, none, none]) (μ := X) (fun p : List Int × List Int => .tup [iS p.1, iS p.2]) (fun p => iS (addR p.1 p.2)) rfl (p.1.zip p.2) (fun q hq => by
      have hq1 := hs.2 q.1 (List.of_mem_zip hq).1
      have C := lc_map (gs := []) (body := lbd (callK tb gl k) gl (.bin .add (.var 7) (.var 8)) [7, 8] (.tp [(.nm 7), (.nm 8)]) (.k (.bl true)) [some (sCells A), some (sCells B), some (.loc μ.length), some (sRows p.1), some (sRows p.2), some (iS q.1), some (iS q.2), none, none]) (μ := X) (fun q : Int × Int => .tup [.int q.1, .int q.2]) (fun q => .int (q.1 + q.2)) rfl (q.1.zip q.2) (fun q hq => by
        simp only [lbd_at]
        walk_at "dvh") [] (by simp only [List.length_nil, List.length_zip, LINE]; omega)
      have hz := @zipS_map _ _ S.int S.int q.1 q.2
      have hr : (addR q.1 q.2).map S.int = (q.1.zip q.2).map fun q => .int (q.1 + q.2) := by simp [addR, Function.comp_def]
      rw [← hr] at C
      clear hr hall
      simp only [lbd_at]
      walk_at "dvh") [] (by have := hs.1; simp only [List.length_nil, List.length_zip, LINE]; omega)
    have hz := @zipS_map _ _ iS iS p.1 p.2
    have hr : (addRs p.1 p.2).map iS = (p.1.zip p.2).map fun p => iS (addR p.1 p.2) := by simp [addRs, Function.comp_def]
    rw [← hr] at C
    have n1 : ((pre ++ [p]).map fun p => addRs p.1 p.2).map sRows = (pre.map fun p => addRs p.1 p.2).map sRows ++ [sRows (addRs p.1 p.2)] := by simp
    rw [n1]
    clear hr n1 hall hs hp
    simp only [fbd_at]
    walk_at "dvh"
    simp only [b_joined_cells_l0]
    walk_at "dvh")
  have hz := @zipS_map _ _ sRows sRows A B
  rw [call_at' (b := b_joined_cells) rfl rfl]
  simp only [b_joined_cells, s_joined_cells_0, s_joined_cells_1, s_joined_cells_2]
  have e : (A.zip B).map (fun p => addRs p.1 p.2) = addCs A B := rfl
  rw [e] at Lp
  simp only [List.map_nil] at Lp
  clear e
  walk_at "dvh"
theorem order_ok {k : Nat} (hk : 3 ≤ k) {s : Stm} (hs : s.length < 64) (ds : List Int) (ρ : Sto) : ∃ (s' : Stm) (ds' : List Int), s'.Perm s ∧ callK tb gl k Ix.law_order_of [.loc 0, sSt s] (dr ds :: ρ) = some (.s (sSt s'), dr ds' :: ρ) := by
  obtain ⟨k, rfl, hj⟩ := at1 hk
  obtain ⟨s', ds', hp, e⟩ := shuffled_ok sPr (fun _ _ => rfl) hj (l := s) (by omega) (row := sSt s) ds ρ rfl
  have hU := @und_st
  refine ⟨s', ds', hp, ?_⟩
  rw [call_at' (b := b_law_order_of) rfl rfl]
  simp only [b_law_order_of]
  walk_at "dvh"
/-- three rows of rows, the third the sum of the others -/
theorem sum3_ok {k : Nat} (hk : 5 ≤ k) {A B C : List (List Int)} (hA : Small A) (hB : Alike A B) (hC : addRs A B = C) (xs : List S) (hx : xs[0]? = some (sRows A) ∧ xs[1]? = some (sRows B) ∧ xs[2]? = some (sRows C)) (μ : Sto) (a : Nat) (ha : μ[a]? = some (.lst xs)) : callK tb gl k Ix.law_sum_of_rows [.loc a] μ = some (.s (.bl true), μ) := by
  obtain ⟨k, rfl, hj⟩ := at1 hk
  have e1 := sumrows_ok (k := k) (by omega) hA hB μ
  rw [hC] at e1
  have hS : Small C := by
    rw [← hC]
    refine ⟨by have := hA.1; simp only [addRs, List.length_map, List.length_zip]; omega, fun c hc => ?_⟩
    simp only [addRs, List.mem_map] at hc
    obtain ⟨p, hp, rfl⟩ := hc
    have := hA.2 p.1 (List.of_mem_zip hp).1
    simp only [addR, List.length_map, List.length_zip]
    omega
  have e2 := same_rows hS k μ (by omega)
  have i0 : L2.atI xs 0 = some (sRows A) := L2.atI_nat (j := 0) hx.1
  have i1 : L2.atI xs 1 = some (sRows B) := L2.atI_nat (j := 1) hx.2.1
  have i2 : L2.atI xs 2 = some (sRows C) := L2.atI_nat (j := 2) hx.2.2
  rw [call_at' (b := b_law_sum_of_rows) rfl rfl]
  simp only [b_law_sum_of_rows]
  clear hx hC
  walk_at "dvh"
theorem mixed_ok {k : Nat} (hk : 6 ≤ k) {m : Nat} (hm : m ≤ 10) (ds : List Int) (ρ : Sto) : ∃ (s : Stm) (ds' : List Int), s.length ≤ 60 ∧ Kb (2 ^ m) s ∧ callK tb gl k Ix.law_mixed_stream [.loc 0, .int m] (dr ds :: ρ) = some (.s (sSt s), dr ds' :: ρ) := by
  obtain ⟨k, rfl, hj⟩ := at1 hk
  obtain ⟨ks, ds1, k0, kb, e1⟩ := lkeys_ok hj hm ds ρ
  obtain ⟨v, ds2, v0, v1, e2⟩ := take_ok (k := k) (m := 2) (by omega) (by decide) ds1 (ρ ++ [iO ks])
  have hU := @und_st
  by_cases h : v = 0
  · obtain ⟨s, ds3, sl, sk, e3⟩ := any_ok (k := k) (by omega) (m := 14) (by decide) k0 (a := ρ.length) ds2 (ρ ++ [iO ks]) (by simp)
    refine ⟨s, ds3, sl, fun p hp => kb p.1 (sk p hp), ?_⟩
    rw [call_at' (b := b_law_mixed_stream) rfl rfl]
    simp only [b_law_mixed_stream, s_law_mixed_stream_0, s_law_mixed_stream_1, s_law_mixed_stream_2, s_law_mixed_stream_3]
    clear sk kb k0
    walk_at "dvh"
  · obtain ⟨w, ds3, w0, w1, e3⟩ := take_ok (k := k) (m := 15) (by omega) (by decide) ds2 (ρ ++ [iO ks])
    obtain ⟨n, rfl⟩ : ∃ n : Nat, w = (n : Int) := ⟨w.toNat, by omega⟩
    have hb : b62 (n : Int) = true := by simp only [b62, Bool.and_eq_true, decide_eq_true_eq]; omega
    have en : ((n : Int).toNat) = n := Int.toNat_natCast _
    have hr := rngI_nat n
    obtain ⟨s, ds', e, hI, hl⟩ := lc_st (gs := []) (body := lbd (callK tb gl k) gl (.tup (.cons (.call Ix.law_pick false (.cons (.var 0) (.cons (.var 2) .nil))) (.cons (.call Ix.law_pick true (.cons (.var 0) (.cons (.lst (.cons (.k (.int 1)) (.cons (.k (.int 1)) (.cons (.k (.int 2)) (.cons (.neg (.k (.int 1))) (.cons (.neg (.k (.int 2))) (.cons (.k (.int 3)) .nil))))))) .nil))) .nil))) [4] (.nm 4) (.k (.bl true)) [some (.loc 0), some (.int m), some (.loc (ρ.length + 1)), none, none]) nI sPr (fun ds => dr ds :: (ρ ++ [iO ks])) (fun r acc _ => (∀ p ∈ acc, p.1 ∈ ks) ∧ acc.length + r.length ≤ 14) (fun _ _ _ _ => rfl) (fun i r acc ds hI => by
      obtain ⟨x, ds1, hx1, f1⟩ := pick_loc S.int (fun _ _ => rfl) k0 (k := k) (n := ρ.length) (by omega) ds (ρ ++ [iO ks]) (by simp)
      obtain ⟨y, ds2, hy, f2⟩ := pick_loc S.int (fun _ _ => rfl) (l := [1, 1, 2, -1, -2, 3]) (by simp) (k := k) (n := ρ.length + 1) (by omega) ds1 (ρ ++ [iO ks, iO [1, 1, 2, -1, -2, 3]]) (by simp)
      simp only [iO, List.map_cons, List.map_nil] at f2
      refine ⟨(x, y), ds2, ?_, fun c hc => ?_, by have := hI.2; simp only [List.length_append, List.length_cons, List.length_nil] at this ⊢; omega⟩
      · clear hI hy hx1 kb k0
        simp only [lbd_at]
        walk_at "dvh"
      · rcases List.mem_append.mp hc with hc | hc
        · exact hI.1 c hc
        · simp only [List.mem_singleton] at hc; subst hc; exact hx1) (List.range n) [] ds3 ⟨by simp, by simp only [List.length_nil, List.length_range]; omega⟩ (by simp only [List.length_nil, List.length_range, LINE]; omega)
    rw [List.map_nil] at e
    refine ⟨s, ds', by simp only [List.length_nil] at hl; omega, fun p hp => kb p.1 (hI p hp), ?_⟩
    rw [call_at' (b := b_law_mixed_stream) rfl rfl]
    simp only [b_law_mixed_stream, s_law_mixed_stream_0, s_law_mixed_stream_1, s_law_mixed_stream_2, s_law_mixed_stream_3]
    clear hI kb k0
    walk_at "dvh"
end Pg
end
section
set_option Elab.async false
set_option linter.all false
set_option maxRecDepth 100000
set_option maxHeartbeats 4000000
namespace Pg
open Dv
local macro_rules | `(tactic| walk_at "dv") => `(tactic| simp -implicitDefEqProofs only [e_var, e_k, e_gl, e_bin, k_bin1, k_bin2, e_neg, k_neg, e_cmp, k_cmp1, k_cmp2, e_chn, k_chn1, k_chn2, k_chn3, e_and, k_and, e_or, k_or, e_not, k_not, e_tru, k_tru, e_ife, k_ife, e_ix, k_ix1, k_ix2, e_slc, k_sl1, k_sl2, k_sl3, e_tup, e_lst, k_tup, k_lst, e_dnK, e_dnT, e_call, k_call, k_fin, e_bi, k_bi, e_mt, k_mt1, k_mt2, e_app, k_app1, k_app2s, k_app2n, e_isi, k_isi, e_rg1, k_rg1, e_rg2, k_rg2, k_rg2b, e_lc, k_lc, k_lcR, lbd_at, k_ls0, k_ls1, k_ls3s, k_ls3n, s_nil, s_cons, k_cons_s, k_cons_n, k_cons2, d_nil, d_cons, k_consD, k_consD2, i_seq, k_sq, i_rng1, k_r1, i_rng2, k_r2, k_r2b, i_rngD, k_rD, k_rDb, i_enum, k_en, i_zip, k_zp1, k_zp2, i_rev, k_rv, r_skip, r_seq, k_seqN, k_seqR, k_seqB, k_seqC, r_asg, k_asgS, k_asgN, r_asgT, k_asgT, r_asgL, k_asgL, r_par, k_par, r_sub, k_sub1s, k_sub1n, k_sub2, k_sub3, r_aug, k_aug, r_augS, k_augS1, k_augS2, k_augS2b, k_augS3, r_exp, k_exp, r_ret, k_ret, r_retN, r_if, k_if, r_whl, r_fr, k_fr, fbd_at, k_run, r_brk, r_cont, r_gc, k_gcR, k_gcN, k_gcC, k_gcB, r_kl, k_kl, r_kill, r_del, k_del1, k_del2, k_endR, k_endN, fin_s, fin_n, finO_some, fin_loc, zl, rev_map, app_int, set_int, lsO_lst, seqL_loc, seqL_new, seqL_rol, lstOf_loc, lstOf_new, seqOf_tup, seqOf_loc, seqOf_new, seqOf_rol, tupOf_tup, tupOf_loc, tupOf_new, dictOf_new, dictOf_loc, b_any, b_all, lenO_lst, lenO_dK, b_len_tup, b_len_loc, b_len_new, b_len_rol, b_int, b_intB, b_tuple, b_list, b_sum, srtO_lst, srtO_dK, b_sorted_loc, b_sorted_new, b_min2, b_max2, b_abs, v_pop, v_popAt, v_rev, v_bit, v_get1, v_get2, dkO_K, dkO_T, m_pop, popAO_lst, m_popAt, revO_lst, m_rev, m_get1, m_get2, m_bit, dlook_int, popO_int, part_non, part_k, part_v, slc_tup, slc_rol, slc_new, slc_loc, cut_map, und_int, und_bl, und_non, und_str, und_loc, und_tup, und_rol, und_lst, unds_app, und_dK, iop_and, iop_or, iop_xor, setIx_loc, setO_lst, setO_dK, appD_loc, appO_lst, idx_tup, idx_ktu, idx_loc, idx_new, idxO_lst, idxO_dK, pyEq_int, pyEq_bl, c_eq, c_ne, c_lt, c_le, c_gt, c_ge, c_isN, c_notN, isNon_non, isNon_int, isNon_tup, isNon_bl, isNon_loc, tru_int, tru_bl, tru_tup, c_mem, c_nmem, mem_bls, mem_loc, memO_int, mem_tup, ty_nil, ty_cons, ty_int, ty_bl, ty_tup, ty_non, ty_str, grd_loc, grdO_some, grd_tup, grd_new, grd_rol, gOk_one, eT_len, look_eT, put_eT, kInts_eT, Option.bind_some, Option.map_some, Option.isSome_some, get_zero, get_succ, List.map_cons, List.map_nil, List.reduceReplicate, Nat.reduceSub, Nat.reduceAdd, Nat.reduceLeDiff, Nat.reduceLT, Nat.reduceEqDiff, List.append_nil, List.nil_append, List.cons_append, intOf, blOf, bop_int, iop_add, iop_sub, iop_mod, iop_mulR, iop_mulL, iop_fdiv, Int.reduceLT, Int.reduceLE, Int.reduceNeg, fin_f, List.set_cons_zero, List.set_cons_succ, asg, asgs, kill, if_true, if_false, Bool.false_eq_true, app_get0, app_get, app_set0, app_set, app_app, app_take0, app_take, GCok_P, gcP_nil, gcP_cons, gcP_refl, gcP_app, gcP_app_l, gcP_app_r, sigBelow, S.unds, List.take_length, unds_int, false_implies, implies_true, Bool.and_true, Bool.true_and, Bool.and_self, Bool.false_or, Bool.or_false, Bool.true_or, Bool.or_true, Bool.not_true, Bool.not_false, decide_true, decide_false, decide_eq_true_eq, reduceCtorEq, ne_eq, not_true_eq_false, W_bIte, W_if, bindIte, W_some, List.length_cons, List.length_nil, List.length_append, List.length_map, List.length_replicate, List.length_range, List.getElem?_cons_zero, List.getElem?_cons_succ, List.set_nil, List.take_succ_cons, List.take_zero, true_and, and_true, or_true, true_or, eq_self, asInts_map, LINE, Nat.zero_le, Nat.not_lt, Nat.le_add_right, Nat.le_refl, Nat.lt_irrefl, Nat.lt_add_right_iff_pos, Nat.add_lt_add_iff_left, Nat.add_le_add_iff_left, not_false_eq_true, Int.natCast_eq_zero, Nat.add_one_ne_zero])
local macro_rules | `(tactic| walk_at "dvh") => `(tactic| simp -implicitDefEqProofs only [e_var, e_k, e_gl, e_bin, k_bin1, k_bin2, e_neg, k_neg, e_cmp, k_cmp1, k_cmp2, e_chn, k_chn1, k_chn2, k_chn3, e_and, k_and, e_or, k_or, e_not, k_not, e_tru, k_tru, e_ife, k_ife, e_ix, k_ix1, k_ix2, e_slc, k_sl1, k_sl2, k_sl3, e_tup, e_lst, k_tup, k_lst, e_dnK, e_dnT, e_call, k_call, k_fin, e_bi, k_bi, e_mt, k_mt1, k_mt2, e_app, k_app1, k_app2s, k_app2n, e_isi, k_isi, e_rg1, k_rg1, e_rg2, k_rg2, k_rg2b, e_lc, k_lc, k_lcR, lbd_at, k_ls0, k_ls1, k_ls3s, k_ls3n, s_nil, s_cons, k_cons_s, k_cons_n, k_cons2, d_nil, d_cons, k_consD, k_consD2, i_seq, k_sq, i_rng1, k_r1, i_rng2, k_r2, k_r2b, i_rngD, k_rD, k_rDb, i_enum, k_en, i_zip, k_zp1, k_zp2, i_rev, k_rv, r_skip, r_seq, k_seqN, k_seqR, k_seqB, k_seqC, r_asg, k_asgS, k_asgN, r_asgT, k_asgT, r_asgL, k_asgL, r_par, k_par, r_sub, k_sub1s, k_sub1n, k_sub2, k_sub3, r_aug, k_aug, r_augS, k_augS1, k_augS2, k_augS2b, k_augS3, r_exp, k_exp, r_ret, k_ret, r_retN, r_if, k_if, r_whl, r_fr, k_fr, fbd_at, k_run, r_brk, r_cont, r_gc, k_gcR, k_gcN, k_gcC, k_gcB, r_kl, k_kl, r_kill, r_del, k_del1, k_del2, k_endR, k_endN, fin_s, fin_n, finO_some, fin_loc, zl, rev_map, app_int, set_int, lsO_lst, seqL_loc, seqL_new, seqL_rol, lstOf_loc, lstOf_new, seqOf_tup, seqOf_loc, seqOf_new, seqOf_rol, tupOf_tup, tupOf_loc, tupOf_new, dictOf_new, dictOf_loc, b_any, b_all, lenO_lst, lenO_dK, b_len_tup, b_len_loc, b_len_new, b_len_rol, b_int, b_intB, b_tuple, b_list, b_sum, srtO_lst, srtO_dK, b_sorted_loc, b_sorted_new, b_min2, b_max2, b_abs, v_pop, v_popAt, v_rev, v_bit, v_get1, v_get2, dkO_K, dkO_T, m_pop, popAO_lst, m_popAt, revO_lst, m_rev, m_get1, m_get2, m_bit, dlook_int, popO_int, part_non, part_k, part_v, slc_tup, slc_rol, slc_new, slc_loc, cut_map, und_int, und_bl, und_non, und_str, und_loc, und_tup, und_rol, und_lst, unds_app, und_dK, iop_and, iop_or, iop_xor, setIx_loc, setO_lst, setO_dK, appD_loc, appO_lst, idx_tup, idx_ktu, idx_loc, idx_new, idxO_lst, idxO_dK, pyEq_int, pyEq_bl, c_eq, c_ne, c_lt, c_le, c_gt, c_ge, c_isN, c_notN, isNon_non, isNon_int, isNon_tup, isNon_bl, isNon_loc, tru_int, tru_bl, tru_tup, c_mem, c_nmem, mem_bls, mem_loc, memO_int, mem_tup, ty_nil, ty_cons, ty_int, ty_bl, ty_tup, ty_non, ty_str, grd_loc, grdO_some, grd_tup, grd_new, grd_rol, gOk_one, eT_len, look_eT, put_eT, kInts_eT, Option.bind_some, Option.map_some, Option.isSome_some, get_zero, get_succ, List.map_cons, List.map_nil, List.reduceReplicate, Nat.reduceSub, Nat.reduceAdd, Nat.reduceLeDiff, Nat.reduceLT, Nat.reduceEqDiff, List.append_nil, List.nil_append, List.cons_append, intOf, blOf, bop_int, iop_add, iop_sub, iop_mod, iop_mulR, iop_mulL, iop_fdiv, Int.reduceLT, Int.reduceLE, Int.reduceNeg, fin_f, List.set_cons_zero, List.set_cons_succ, asg, asgs, kill, if_true, if_false, Bool.false_eq_true, app_get0, app_get, app_set0, app_set, app_app, app_take0, app_take, GCok_P, gcP_nil, gcP_cons, gcP_refl, gcP_app, gcP_app_l, gcP_app_r, sigBelow, S.unds, List.take_length, unds_int, false_implies, implies_true, Bool.and_true, Bool.true_and, Bool.and_self, Bool.false_or, Bool.or_false, Bool.true_or, Bool.or_true, Bool.not_true, Bool.not_false, decide_true, decide_false, decide_eq_true_eq, reduceCtorEq, ne_eq, not_true_eq_false, W_bIte, W_if, bindIte, W_some, List.length_cons, List.length_nil, List.length_append, List.length_map, List.length_replicate, List.length_range, List.getElem?_cons_zero, List.getElem?_cons_succ, List.set_nil, List.take_succ_cons, List.take_zero, true_and, and_true, or_true, true_or, eq_self, asInts_map, LINE, Nat.zero_le, Nat.not_lt, Nat.le_add_right, Nat.le_refl, Nat.lt_irrefl, Nat.lt_add_right_iff_pos, Nat.add_lt_add_iff_left, Nat.add_le_add_iff_left, not_false_eq_true, Int.natCast_eq_zero, Nat.add_one_ne_zero, *])
local macro_rules | `(tactic| walk_at "wb") => `(tactic| simp only [W_bind, W_map])

def blk (r : List Int) : Stm := r.zipIdx.map fun p => ((p.2 : Int), p.1)
theorem blk_app {r : List Int} {c : Int} : blk (r ++ [c]) = blk r ++ [((r.length : Int), c)] := by
  simp [blk, List.zipIdx_append]
theorem one_sum {φ : Int → Int} {x c : Int} : ∀ n : Nat, ((List.range n).map fun j : Nat => (if x = (j : Int) then c else 0) * φ j).sum = if 0 ≤ x ∧ x < n then c * φ x else 0
  | 0 => by
    have : ¬ (0 ≤ x ∧ x < ((0 : Nat) : Int)) := by omega
    rw [if_neg this]; rfl
  | n + 1 => by
    rw [List.range_succ, List.map_append, List.sum_append, one_sum n]
    simp only [List.map_cons, List.map_nil, List.sum_cons, List.sum_nil, Int.add_zero]
    by_cases h : x = (n : Int)
    · subst h
      rw [if_neg (by omega), if_pos rfl, if_pos (by omega)]; omega
    · rw [if_neg h]
      by_cases h2 : 0 ≤ x ∧ x < (n : Int)
      · rw [if_pos h2, if_pos (by omega)]; omega
      · rw [if_neg h2, if_neg (by omega)]; omega
theorem sum_add {α : Type} {f g h : α → Int} : ∀ {l : List α}, (∀ a ∈ l, f a + g a = h a) → (l.map f).sum + (l.map g).sum = (l.map h).sum
  | [], _ => rfl
  | a :: r, e => by
    have := sum_add (l := r) fun b hb => e b (by simp [hb])
    have := e a (by simp)
    simp only [List.map_cons, List.sum_cons]; omega
theorem blk_row {n : Nat} {f : Int → Int} {s : Stm} : blk (iRow n f (fun _ => 1) s) = (List.range n).map fun j : Nat => ((j : Int), L (ind f (fun _ => 1) j) s) := by
  apply List.ext_getElem
  · simp [blk, iRow]
  · intro i h1 h2
    simp [blk, iRow]
theorem L_blk {φ : Int → Int} {n : Nat} {f : Int → Int} : ∀ {s : Stm}, (∀ p ∈ s, 0 ≤ f p.1 ∧ f p.1 < n) → L φ (blk (iRow n f (fun _ => 1) s)) = L (fun k => φ (f k)) s
  | [], _ => by
    rw [blk_row]
    simp only [L, List.map_map, List.map_nil, List.sum_nil, Function.comp_def, Int.zero_mul]
    generalize List.range n = l
    induction l with
    | nil => rfl
    | cons a r ih => simp only [List.map_cons, List.sum_cons, ih]; rfl
  | p :: s, h => by
    have ih := L_blk (φ := φ) (n := n) (f := f) (s := s) fun q hq => h q (by simp [hq])
    have hp := h p (by simp)
    rw [L_cons, ← ih, blk_row, blk_row]
    have e := one_sum (φ := φ) (x := f p.1) (c := p.2) n
    rw [if_pos hp] at e
    rw [← e]
    simp only [L, List.map_map, Function.comp_def]
    refine (sum_add fun j _ => ?_).symm
    have : (if f p.1 = (j : Int) then p.2 else 0) = p.2 * ind f (fun _ => 1) j p.1 := by
      simp only [ind]; split
      · omega
      · omega
    rw [this, List.map_cons, List.sum_cons, Int.add_mul]
theorem iRow_blk {w n : Nat} {f g : Int → Int} {s : Stm} (h : ∀ p ∈ s, 0 ≤ g p.1 ∧ g p.1 < n) : iRow w f (fun _ => 1) (blk (iRow n g (fun _ => 1) s)) = iRow w (fun k => f (g k)) (fun _ => 1) s := by
  simp only [iRow]
  refine List.map_congr_left fun j _ => ?_
  have := L_blk (φ := ind f (fun _ => 1) j) h
  rw [iRow] at this
  rw [this]
  rfl
def rgF (p : Int) (w i : Nat) (d : List Int) (x : Int) : Int := cfF p w d (x / 2 ^ i)
def rngR (p w m : Nat) (ts : List (List (List Int))) (s : Stm) : List (List (List Int)) := (ts.zip (List.range (m + 1))).map fun q => tabR w (rgF p w q.2) (fun _ _ => 1) q.1 s
theorem lvF_in {m i : Nat} (h : i ≤ m) {s : Stm} (hb : Kb (2 ^ m) s) : ∀ p ∈ s, 0 ≤ lvF i p.1 ∧ lvF i p.1 < ((2 ^ (m - i) : Nat) : Int) := fun p hp => by
  obtain ⟨h0, h1⟩ := hb p hp
  have hpos : (0 : Int) < 2 ^ i := Int.pow_pos (by decide)
  refine ⟨Int.ediv_nonneg h0 (Int.le_of_lt hpos), ?_⟩
  rw [lvF, Int.ediv_lt_iff_lt_mul hpos]
  have e : ((2 ^ (m - i) : Nat) : Int) * 2 ^ i = ((2 ^ m : Nat) : Int) := by
    have : (2 ^ m : Nat) = 2 ^ (m - i) * 2 ^ i := by rw [← Nat.pow_add]; congr 1; omega
    rw [this]; simp
  rw [e]; exact h1
theorem ranged_ok {p : Nat} (hF : Fok (.p p)) {k : Nat} (hk : 4 ≤ k) {m : Nat} (hm : m ≤ 10) {w : Nat} (hw : 0 < w ∧ w ≤ 64) {ts : List (List (List Int))} (hl : ts.length = m + 1) (ht : ∀ t ∈ ts, Tok (.p p) t) {s : Stm} (hs : s.length < 64) (hb : Kb (2 ^ m) s) (μ : Sto) : callK tb gl k Ix.ranged_counters [sSt s, sTabs ts, .int p, .int w, .int m] μ = some (.s (sCells (rngR p w m ts (cF s))), μ) := by
  obtain ⟨k, rfl, hj⟩ := at1 hk
  have hp := hF.2
  have hU := @und_cells
  have hU1 := @und_rows
  have hU2 := @und_st
  have hU3 := @und_tabs
  have ew : ((w : Int).toNat) = w := Int.toNat_natCast _
  have erep := fun (μ : Sto) => @bop_rep μ (.int 0) (w : Int) (by omega)
  rw [ew] at erep
  have elv := fun μ => level_ok (k := k) (by omega) hm hs hb μ
  generalize hlv : (List.range (m + 1)).map (fun i => lv m i (cF s)) = lvs at elv
  have hw' : (0 : Int) < w := by omega
  let F (q : List (List Int) × List Int) : List (List Int) := q.1.map fun d => iRow w (cfF p w d) (fun _ => 1) (blk q.2)
  have Lo := for_row (gs := []) (body := fbd (callK tb gl k) gl (.tp [(.nm 6), (.nm 7)]) (.gc [6, 7, 8, 9, 10, 11, 12] b_ranged_counters_l0)) (f := fun q : List (List Int) × List Int => .tup [sTab q.1, iS q.2]) (all := ts.zip lvs) (fun _ _ => [some (sSt s), some (sTabs ts), some (.int p), some (.int w), some (.int m), some (.loc μ.length), none, none, none, none, none, none, none]) (fun pre _ => μ ++ [.lst ((pre.map F).map sRows)]) (fun _ _ => rfl) (fun pre q r hall => by
    have hq : q ∈ ts.zip lvs := by rw [← hall]; simp
    obtain ⟨t, cs⟩ := q
    have htk := ht t (List.of_mem_zip hq).1
    have hpl : pre.length < 16777216 := by
      have h2 := congrArg List.length hall
      simp only [List.length_append, List.length_cons, List.length_zip] at h2
      omega
    have Li := for_row (gs := []) (body := fbd (callK tb gl k) gl (.nm 9) (.gc [9, 10, 11, 12] b_ranged_counters_l1)) (f := iS) (all := t) (fun _ _ => [some (sSt s), some (sTabs ts), some (.int p), some (.int w), some (.int m), some (.loc μ.length), some (sTab t), some (iS cs), some (.loc (μ.length + 1)), none, none, none, none]) (fun pr _ => μ ++ [.lst ((pre.map F).map sRows), .lst ((pr.map fun d => iRow w (cfF p w d) (fun _ => 1) (blk cs)).map iS)]) (fun _ _ => rfl) (fun pr d r hall2 => by
      have hd := htk.2 d (by rw [← hall2]; simp)
      have hprl : pr.length < 16777216 := by
        have h2 := congrArg List.length hall2
        simp only [List.length_append, List.length_cons] at h2
        have := htk.1
        omega
      have e5b : List.replicate w (S.int 0) = (iRow w (cfF p w d) (fun _ => 1) (blk [])).map S.int := by rw [show blk [] = [] from rfl, iRow_nil]; simp
      have Le := for_enum (gs := []) (body := fbd (callK tb gl k) gl (.tp [(.nm 11), (.nm 12)]) (.kl [11, 12] b_ranged_counters_l2)) (f := S.int) (all := cs) (fun _ _ => [some (sSt s), some (sTabs ts), some (.int p), some (.int w), some (.int m), some (.loc μ.length), some (sTab t), some (iS cs), some (.loc (μ.length + 1)), some (iS d), some (.loc (μ.length + 2)), none, none]) (fun pc _ => μ ++ [.lst ((pre.map F).map sRows), .lst ((pr.map fun d => iRow w (cfF p w d) (fun _ => 1) (blk cs)).map iS), iO (iRow w (cfF p w d) (fun _ => 1) (blk pc))]) (fun _ _ => rfl) (fun pc c rc hall3 => by
        have ev := fun μ => (value_ok hF (k := k) (by omega) hd (pc.length : Int) μ).1
        simp only [sF] at ev
        have v0 : 0 ≤ cfF p w d (pc.length : Int) := Int.emod_nonneg _ (by omega)
        have v1 : cfF p w d (pc.length : Int) < w := Int.emod_lt_of_pos _ hw'
        have a5 := iRow_at (w := w) (f := cfF p w d) (g := fun _ => 1) (s := blk pc) (k := (pc.length : Int)) v0 v1
        have a6 := iRow_set (w := w) (f := cfF p w d) (g := fun _ => 1) (s := blk pc) (p := ((pc.length : Int), c)) v0
        have a7 := iRow_ix (w := w) (f := cfF p w d) (k := (pc.length : Int)) v0 v1
        have a8 := @iRow_len w (cfF p w d) (fun _ => 1) (blk pc)
        have a9 : valF (.p p) d (pc.length : Int) % (w : Int) = cfF p w d (pc.length : Int) := rfl
        rw [Int.mul_one, ← blk_app] at a6
        dsimp only at a6
        clear e5b erep hall hall2 hall3 elv v0 v1
        simp only [fbd_at]
        walk_at "dvh"
        simp only [b_ranged_counters_l2]
        walk_at "dvh")
      have n1 : ((pr ++ [d]).map fun d => iRow w (cfF p w d) (fun _ => 1) (blk cs)).map iS = (pr.map fun d => iRow w (cfF p w d) (fun _ => 1) (blk cs)).map iS ++ [iS (iRow w (cfF p w d) (fun _ => 1) (blk cs))] := by simp
      rw [n1]
      rw [e5b] at erep
      clear n1 e5b hall hall2 elv
      simp only [fbd_at]
      walk_at "dvh"
      simp only [b_ranged_counters_l1, s_ranged_counters_l1_0, s_ranged_counters_l1_1, s_ranged_counters_l1_2]
      walk_at "dvh")
    have n1 : ((pre ++ [(t, cs)]).map F).map sRows = (pre.map F).map sRows ++ [sRows (t.map fun d => iRow w (cfF p w d) (fun _ => 1) (blk cs))] := by simp [F]
    rw [n1]
    simp only [List.map_nil] at Li
    clear n1 hall elv hlv hq erep
    simp only [fbd_at]
    walk_at "dvh"
    simp only [b_ranged_counters_l0, s_ranged_counters_l0_0, s_ranged_counters_l0_1, s_ranged_counters_l0_2]
    walk_at "dvh")
  have hz := @zipS_map _ _ sTab iS ts lvs
  have hfin : (ts.zip lvs).map F = rngR p w m ts (cF s) := by
    rw [← hlv, rngR, List.zip_map_right, List.map_map]
    refine List.map_congr_left fun q hq => ?_
    have hi : q.2 ≤ m := by have := (List.of_mem_zip hq).2; rw [List.mem_range] at this; omega
    simp only [F, Function.comp, Prod.map, id, tabR]
    refine List.map_congr_left fun d _ => ?_
    exact iRow_blk (lvF_in hi (Kb_cF hb))
  rw [hfin] at Lo
  simp only [List.map_nil] at Lo
  rw [call_at' (b := b_ranged_counters) rfl rfl]
  simp only [b_ranged_counters, s_ranged_counters_0, s_ranged_counters_1, s_ranged_counters_2]
  clear hfin hlv erep
  walk_at "dvh"
theorem lranged_ok {p : Nat} (hF : Fok (.p p)) {k : Nat} (hk : 3 ≤ k) {m : Nat} (hm : m ≤ 10) {w : Nat} (hw : 0 < w ∧ w ≤ 64) {ts : List (List (List Int))} (hl : ts.length = m + 1) (ht : ∀ t ∈ ts, Tok (.p p) t) {s : Stm} (μ : Sto) : callK tb gl k Ix.law_ranged_counters [sSt s, sTabs ts, .int p, .int w, .int m] μ = some (.s (sCells (rngR p w m ts s)), μ) := by
  obtain ⟨k, rfl, hj⟩ := at1 hk
  have hp := hF.2
  have hU := @und_cells
  have hU1 := @und_rows
  have hU2 := @und_st
  have hU3 := @und_tabs
  have ew : ((w : Int).toNat) = w := Int.toNat_natCast _
  have erep := fun (μ : Sto) => @bop_rep μ (.int 0) (w : Int) (by omega)
  rw [ew] at erep
  have hw' : (0 : Int) < w := by omega
  have hb : b62 ((m : Int) + 1) = true := by simp only [b62, Bool.and_eq_true, decide_eq_true_eq]; omega
  have en : (((m : Int) + 1).toNat) = m + 1 := by omega
  have hRl : (rngR p w m ts s).length = m + 1 := by simp [rngR, hl]
  have Lo := for_rng (gs := []) (body := fbd (callK tb gl k) gl (.nm 6) (.gc [6, 7, 8, 9, 10, 11, 12] b_law_ranged_counters_l0)) (fun _ => [some (sSt s), some (sTabs ts), some (.int p), some (.int w), some (.int m), some (.loc μ.length), none, none, none, none, none, none, none]) (fun i => μ ++ [.lst (((rngR p w m ts s).take i).map sRows)]) (m + 1) (fun _ => rfl) (fun i hi => by
    have hi1 : i < ts.length := by omega
    have et : L2.atI (ts.map sTab) (i : Int) = some (sTab ts[i]) := by apply L2.atI_nat; simp [hi1]
    have htk := ht ts[i] (List.getElem_mem hi1)
    generalize htt : ts[i] = t at et htk
    have hpl : ((rngR p w m ts s).take i).length < 16777216 := by simp only [List.length_take]; omega
    have Li := for_row (gs := []) (body := fbd (callK tb gl k) gl (.nm 8) (.gc [8, 9, 10, 11, 12] b_law_ranged_counters_l1)) (f := iS) (all := t) (fun _ _ => [some (sSt s), some (sTabs ts), some (.int p), some (.int w), some (.int m), some (.loc μ.length), some (.int i), some (.loc (μ.length + 1)), none, none, none, none, none]) (fun pr _ => μ ++ [.lst (((rngR p w m ts s).take i).map sRows), .lst ((tabR w (rgF p w i) (fun _ _ => 1) pr s).map iS)]) (fun _ _ => rfl) (fun pr d r hall2 => by
      have hd := htk.2 d (by rw [← hall2]; simp)
      have hprl : (tabR w (rgF p w i) (fun _ _ => 1) pr s).length < 16777216 := by
        have h2 := congrArg List.length hall2
        simp only [List.length_append, List.length_cons] at h2
        have := htk.1
        simp only [tabR, List.length_map]
        omega
      have e5b : List.replicate w (S.int 0) = (iRow w (rgF p w i d) (fun _ => 1) []).map S.int := by rw [iRow_nil]; simp
      have Le := for_row (gs := []) (body := fbd (callK tb gl k) gl (.tp [(.nm 10), (.nm 11)]) (.kl [10, 11, 12] b_law_ranged_counters_l2)) (f := sPr) (all := s) (fun _ _ => [some (sSt s), some (sTabs ts), some (.int p), some (.int w), some (.int m), some (.loc μ.length), some (.int i), some (.loc (μ.length + 1)), some (iS d), some (.loc (μ.length + 2)), none, none, none]) (fun dn _ => μ ++ [.lst (((rngR p w m ts s).take i).map sRows), .lst ((tabR w (rgF p w i) (fun _ _ => 1) pr s).map iS), iO (iRow w (rgF p w i d) (fun _ => 1) dn)]) (fun _ _ => rfl) (fun dn q r hall3 => by
        have ev := lvalue_ok hF hj hd (q.1 / 2 ^ i)
        have hr1 : iop .shr q.1 i = some (q.1 / 2 ^ i) := iop_shr (by omega)
        have v0 : 0 ≤ rgF p w i d q.1 := Int.emod_nonneg _ (by omega)
        have v1 : rgF p w i d q.1 < w := Int.emod_lt_of_pos _ hw'
        have a5 := iRow_at (w := w) (f := rgF p w i d) (g := fun _ => 1) (s := dn) (k := q.1) v0 v1
        have a6 := iRow_set (w := w) (f := rgF p w i d) (g := fun _ => 1) (s := dn) (p := q) v0
        have a7 := iRow_ix (w := w) (f := rgF p w i d) (k := q.1) v0 v1
        have a8 := @iRow_len w (rgF p w i d) (fun _ => 1) dn
        have a9 : valF (.p p) d (q.1 / 2 ^ i) % (w : Int) = rgF p w i d q.1 := rfl
        rw [Int.mul_one] at a6
        clear e5b erep hall2 hall3 v0 v1 htt et
        simp only [fbd_at]
        walk_at "dvh"
        simp only [b_law_ranged_counters_l2]
        walk_at "dvh")
      have n1 : (tabR w (rgF p w i) (fun _ _ => 1) (pr ++ [d]) s).map iS = (tabR w (rgF p w i) (fun _ _ => 1) pr s).map iS ++ [iS (iRow w (rgF p w i d) (fun _ => 1) s)] := by simp [tabR]
      rw [n1]
      rw [e5b] at erep
      clear n1 e5b hall2 htt et
      simp only [fbd_at]
      walk_at "dvh"
      simp only [b_law_ranged_counters_l1, s_law_ranged_counters_l1_0, s_law_ranged_counters_l1_1, s_law_ranged_counters_l1_2]
      walk_at "dvh")
    have hri : i < (rngR p w m ts s).length := by omega
    have n1 : ((rngR p w m ts s).take (i + 1)).map sRows = ((rngR p w m ts s).take i).map sRows ++ [sRows (tabR w (rgF p w i) (fun _ _ => 1) t s)] := by
      rw [List.take_succ_eq_append_getElem hri, List.map_append]
      simp [rngR, htt]
    rw [n1]
    have z : (tabR w (rgF p w i) (fun _ _ => 1) [] s).map iS = [] := rfl
    rw [z] at Li
    clear n1 hri htt z erep
    simp only [fbd_at]
    walk_at "dvh"
    simp only [b_law_ranged_counters_l0, s_law_ranged_counters_l0_0, s_law_ranged_counters_l0_1, s_law_ranged_counters_l0_2]
    walk_at "dvh")
  have hT : (rngR p w m ts s).take (m + 1) = rngR p w m ts s := by rw [← hRl]; exact List.take_length
  rw [hT] at Lo
  simp only [List.take_zero, List.map_nil] at Lo
  rw [call_at' (b := b_law_ranged_counters) rfl rfl]
  simp only [b_law_ranged_counters, s_law_ranged_counters_0, s_law_ranged_counters_1, s_law_ranged_counters_2]
  clear hT hRl erep
  walk_at "dvh"
end Pg
end
section
set_option Elab.async false
set_option linter.all false
set_option maxRecDepth 100000
set_option maxHeartbeats 4000000
namespace Pg
open Dv
/-! ### what the law asks, in plain terms -/
theorem small_tab {α : Type} {w : Nat} {f g : α → Int → Int} {t : List α} {s : Stm} (ht : t.length ≤ 64) (hw : w ≤ 64) : Small (tabR w f g t s) := by
  refine ⟨by simp only [tabR, List.length_map]; omega, fun a ha => ?_⟩
  obtain ⟨d, _, rfl⟩ := List.mem_map.mp ha
  rw [iRow_len]; omega
theorem alike_tab {α : Type} {w : Nat} {f g : α → Int → Int} {t : List α} {a b : Stm} : Alike (tabR w f g t a) (tabR w f g t b) := by
  simp only [Alike, tabR, List.map_map]
  refine List.map_congr_left fun d _ => ?_
  simp only [Function.comp, iRow_len]
theorem sum_tab {α : Type} {w : Nat} {f g : α → Int → Int} {t : List α} {a b s : Stm} (h : a ++ b = s) : addRs (tabR w f g t (cF a)) (tabR w f g t (cF b)) = tabR w f g t (cF s) := by
  rw [tabR_cF, tabR_cF, tabR_cF, tabR_add, h]
def lvR (m : Nat) (s : Stm) : List (List Int) := (List.range (m + 1)).map fun i => lv m i s
theorem pow_le16 {m i : Nat} (h : m ≤ 4) : 2 ^ (m - i) ≤ 16 := Nat.pow_le_pow_right (by decide) (by omega : m - i ≤ 4)
theorem small_lv {m : Nat} (hm : m ≤ 4) {s : Stm} : Small (lvR m s) := by
  refine ⟨by simp only [lvR, List.length_map, List.length_range]; omega, fun a ha => ?_⟩
  obtain ⟨i, _, rfl⟩ := List.mem_map.mp ha
  have := pow_le16 (i := i) hm
  rw [lv_len]; omega
theorem alike_lv {m : Nat} {a b : Stm} : Alike (lvR m a) (lvR m b) := by
  simp only [Alike, lvR, List.map_map]
  refine List.map_congr_left fun d _ => ?_
  simp only [Function.comp, lv_len]
theorem sum_lv {m : Nat} {a b s : Stm} (h : a ++ b = s) : addRs (lvR m (cF a)) (lvR m (cF b)) = lvR m (cF s) := addRs_map fun i _ => by
  simp only [lv, iRow_cF, iRow_add, h]
def nuR (m : Nat) (s : Stm) : List Int := wst m (lv m 0 s)
theorem nu_len {m : Nat} {s : Stm} : (nuR m s).length = 2 ^ m := by rw [nuR, wst_len, lv_len]; rfl
theorem sum_nu {m : Nat} {a b s : Stm} (h : a ++ b = s) : addR (nuR m (cF a)) (nuR m (cF b)) = nuR m (cF s) := by
  have e : addR (lv m 0 (cF a)) (lv m 0 (cF b)) = lv m 0 (cF s) := by simp only [lv, iRow_cF, iRow_add, h]
  rw [nuR, nuR, nuR, ← wst_add (by rw [lv_len, lv_len]), e]
def dfR (m : Nat) (s : Stm) : List (List Int) := (List.range m).map fun i => dfr m i s
theorem small_df {m : Nat} (hm : m ≤ 4) {s : Stm} : Small (dfR m s) := by
  refine ⟨by simp only [dfR, List.length_map, List.length_range]; omega, fun a ha => ?_⟩
  obtain ⟨i, _, rfl⟩ := List.mem_map.mp ha
  have := pow_le16 (i := i + 1) hm
  rw [dfr, iRow_len]; omega
theorem alike_df {m : Nat} {a b : Stm} : Alike (dfR m a) (dfR m b) := by
  simp only [Alike, dfR, List.map_map]
  refine List.map_congr_left fun d _ => ?_
  simp only [Function.comp, dfr, iRow_len]
theorem sum_df {m : Nat} {a b s : Stm} (h : a ++ b = s) : addRs (dfR m (cF a)) (dfR m (cF b)) = dfR m (cF s) := addRs_map fun i _ => by
  simp only [dfr, iRow_cF, iRow_add, h]
def szR (m : Nat) (s : Stm) : Int := L (ind (lvF m) (fun _ => 1) 0) s
theorem sz_eq {m : Nat} {s : Stm} (hb : Kb (2 ^ m) s) : szR m (cF s) = L (fun _ => 1) s := by
  rw [szR, L_cF]
  simp only [L]
  congr 1
  refine List.map_congr_left fun p hp => ?_
  obtain ⟨h0, h1⟩ := hb p hp
  have : lvF m p.1 = ((0 : Nat) : Int) := by
    rw [lvF]
    refine Int.ediv_eq_zero_of_lt h0 ?_
    have e : ((2 ^ m : Nat) : Int) = 2 ^ m := by simp
    omega
  simp only [ind, this, if_true]
abbrev sHv (m : Nat) (s : Stm) : S := .tup [.int (szR m s), sRows (dfR m s)]
theorem same_hv {m : Nat} (hm : m ≤ 4) {s : Stm} : Same 4 (sHv m s) := same_tup (by simp) fun x hx => by
  simp only [List.mem_cons, List.not_mem_nil, or_false] at hx
  rcases hx with rfl | rfl
  · exact fun j μ hj => same_int _ j μ (by omega)
  · exact same_rows (small_df hm)
theorem same_cells {A : List (List (List Int))} (h : A.length ≤ 1000 ∧ ∀ a ∈ A, Small a) : Same 4 (sCells A) := same_tup (by simpa using (by omega : A.length ≤ 100000)) fun x hx => by
  obtain ⟨a, ha, rfl⟩ := List.mem_map.mp hx
  exact same_rows (h.2 a ha)
theorem small_bit {p w : Nat} (hp : p ≤ 64) (hw : w ≤ 64) {t : List (List Int)} (ht : t.length ≤ 64) {s : Stm} : (bitR p w t s).length ≤ 1000 ∧ ∀ a ∈ bitR p w t s, Small a := by
  refine ⟨by simp only [bitR, List.length_map]; omega, fun a ha => ?_⟩
  obtain ⟨d, _, rfl⟩ := List.mem_map.mp ha
  have := nb_le hp
  refine ⟨by simp only [cellsR, List.length_map, List.length_range]; omega, fun b hb => ?_⟩
  obtain ⟨j, _, rfl⟩ := List.mem_map.mp hb
  rw [cell_len]; omega
theorem cell_cF {B : Nat} {f : Int → Int} {j : Nat} {s : Stm} : cell B f j (cF s) = cell B f j s := by simp only [cell, L_cF]
theorem bitR_cF {p w : Nat} {t : List (List Int)} {s : Stm} : bitR p w t (cF s) = bitR p w t s := by simp only [bitR, cellsR, cell_cF]
theorem cell_add {B : Nat} {f : Int → Int} {j : Nat} {a b : Stm} : addR (cell B f j a) (cell B f j b) = cell B f j (a ++ b) := by
  simp only [cell, addR]
  apply List.ext_getElem
  · simp
  · intro i h1 h2
    simp [L_app]
theorem zip_map_map {α β γ : Type} {f : α → β} {g : α → γ} {l : List α} : (l.map f).zip (l.map g) = l.map fun x => (f x, g x) := by
  induction l with
  | nil => rfl
  | cons a r ih => simp only [List.map_cons, List.zip_cons_cons, ih]
theorem sum_bit {p w : Nat} {t : List (List Int)} {a b s : Stm} (h : a ++ b = s) : addCs (bitR p w t (cF a)) (bitR p w t b) = bitR p w t (cF s) := by
  rw [bitR_cF, bitR_cF, ← h]
  simp only [bitR, addCs, zip_map_map, List.map_map, Function.comp_def]
  refine List.map_congr_left fun d _ => ?_
  exact addRs_map fun j _ => cell_add
theorem rng_cF {p w m : Nat} {ts : List (List (List Int))} {s : Stm} : rngR p w m ts (cF s) = rngR p w m ts s := by simp only [rngR, tabR_cF]
theorem small_rng {p w m : Nat} (hw : w ≤ 64) {ts : List (List (List Int))} (hl : ts.length ≤ 100) (ht : ∀ t ∈ ts, t.length ≤ 64) {s : Stm} : (rngR p w m ts s).length ≤ 1000 ∧ ∀ a ∈ rngR p w m ts s, Small a := by
  refine ⟨by simp only [rngR, List.length_map, List.length_zip]; omega, fun a ha => ?_⟩
  obtain ⟨q, hq, rfl⟩ := List.mem_map.mp ha
  exact small_tab (ht q.1 (List.of_mem_zip hq).1) hw
theorem rng_len {p w m : Nat} {ts : List (List (List Int))} (hl : ts.length = m + 1) {s : Stm} : (rngR p w m ts s).length = m + 1 := by simp [rngR, hl]
/-- a level of the ranged counters -/
def rngA (p w : Nat) (ts : List (List (List Int))) (i : Nat) (s : Stm) : List (List Int) := tabR w (rgF p w i) (fun _ _ => 1) (ts.getD i []) s
theorem rng_at {p w m i : Nat} {ts : List (List (List Int))} (hl : ts.length = m + 1) (hi : i < m + 1) {s : Stm} : L2.atI ((rngR p w m ts s).map sRows) (i : Int) = some (sRows (rngA p w ts i s)) := by
  apply L2.atI_nat
  have h2 : i < ts.length := by omega
  have hz : (ts.zip (List.range (m + 1)))[i]? = some (ts[i], i) := by rw [List.getElem?_zip_eq_some]; simp [h2, hi]
  rw [List.getElem?_map, rngR, List.getElem?_map, hz]
  simp [rngA, h2]
theorem getD_mem {α : Type} {l : List α} {i : Nat} {d : α} (h : i < l.length) : l.getD i d ∈ l := by
  simp [h]
end Pg
end
section
set_option Elab.async false
set_option linter.all false
set_option maxRecDepth 100000
set_option maxHeartbeats 4000000
namespace Pg
open Dv
local macro_rules | `(tactic| walk_at "dv") => `(tactic| simp -implicitDefEqProofs only [e_var, e_k, e_gl, e_bin, k_bin1, k_bin2, e_neg, k_neg, e_cmp, k_cmp1, k_cmp2, e_chn, k_chn1, k_chn2, k_chn3, e_and, k_and, e_or, k_or, e_not, k_not, e_tru, k_tru, e_ife, k_ife, e_ix, k_ix1, k_ix2, e_slc, k_sl1, k_sl2, k_sl3, e_tup, e_lst, k_tup, k_lst, e_dnK, e_dnT, e_call, k_call, k_fin, e_bi, k_bi, e_mt, k_mt1, k_mt2, e_app, k_app1, k_app2s, k_app2n, e_isi, k_isi, e_rg1, k_rg1, e_rg2, k_rg2, k_rg2b, e_lc, k_lc, k_lcR, lbd_at, k_ls0, k_ls1, k_ls3s, k_ls3n, s_nil, s_cons, k_cons_s, k_cons_n, k_cons2, d_nil, d_cons, k_consD, k_consD2, i_seq, k_sq, i_rng1, k_r1, i_rng2, k_r2, k_r2b, i_rngD, k_rD, k_rDb, i_enum, k_en, i_zip, k_zp1, k_zp2, i_rev, k_rv, r_skip, r_seq, k_seqN, k_seqR, k_seqB, k_seqC, r_asg, k_asgS, k_asgN, r_asgT, k_asgT, r_asgL, k_asgL, r_par, k_par, r_sub, k_sub1s, k_sub1n, k_sub2, k_sub3, r_aug, k_aug, r_augS, k_augS1, k_augS2, k_augS2b, k_augS3, r_exp, k_exp, r_ret, k_ret, r_retN, r_if, k_if, r_whl, r_fr, k_fr, fbd_at, k_run, r_brk, r_cont, r_gc, k_gcR, k_gcN, k_gcC, k_gcB, r_kl, k_kl, r_kill, r_del, k_del1, k_del2, k_endR, k_endN, fin_s, fin_n, finO_some, fin_loc, zl, rev_map, app_int, set_int, lsO_lst, seqL_loc, seqL_new, seqL_rol, lstOf_loc, lstOf_new, seqOf_tup, seqOf_loc, seqOf_new, seqOf_rol, tupOf_tup, tupOf_loc, tupOf_new, dictOf_new, dictOf_loc, b_any, b_all, lenO_lst, lenO_dK, b_len_tup, b_len_loc, b_len_new, b_len_rol, b_int, b_intB, b_tuple, b_list, b_sum, srtO_lst, srtO_dK, b_sorted_loc, b_sorted_new, b_min2, b_max2, b_abs, v_pop, v_popAt, v_rev, v_bit, v_get1, v_get2, dkO_K, dkO_T, m_pop, popAO_lst, m_popAt, revO_lst, m_rev, m_get1, m_get2, m_bit, dlook_int, popO_int, part_non, part_k, part_v, slc_tup, slc_rol, slc_new, slc_loc, cut_map, und_int, und_bl, und_non, und_str, und_loc, und_tup, und_rol, und_lst, unds_app, und_dK, iop_and, iop_or, iop_xor, setIx_loc, setO_lst, setO_dK, appD_loc, appO_lst, idx_tup, idx_ktu, idx_loc, idx_new, idxO_lst, idxO_dK, pyEq_int, pyEq_bl, c_eq, c_ne, c_lt, c_le, c_gt, c_ge, c_isN, c_notN, isNon_non, isNon_int, isNon_tup, isNon_bl, isNon_loc, tru_int, tru_bl, tru_tup, c_mem, c_nmem, mem_bls, mem_loc, memO_int, mem_tup, ty_nil, ty_cons, ty_int, ty_bl, ty_tup, ty_non, ty_str, grd_loc, grdO_some, grd_tup, grd_new, grd_rol, gOk_one, eT_len, look_eT, put_eT, kInts_eT, Option.bind_some, Option.map_some, Option.isSome_some, get_zero, get_succ, List.map_cons, List.map_nil, List.reduceReplicate, Nat.reduceSub, Nat.reduceAdd, Nat.reduceLeDiff, Nat.reduceLT, Nat.reduceEqDiff, List.append_nil, List.nil_append, List.cons_append, intOf, blOf, bop_int, iop_add, iop_sub, iop_mod, iop_mulR, iop_mulL, iop_fdiv, Int.reduceLT, Int.reduceLE, Int.reduceNeg, fin_f, List.set_cons_zero, List.set_cons_succ, asg, asgs, kill, if_true, if_false, Bool.false_eq_true, app_get0, app_get, app_set0, app_set, app_app, app_take0, app_take, GCok_P, gcP_nil, gcP_cons, gcP_refl, gcP_app, gcP_app_l, gcP_app_r, sigBelow, S.unds, List.take_length, unds_int, false_implies, implies_true, Bool.and_true, Bool.true_and, Bool.and_self, Bool.false_or, Bool.or_false, Bool.true_or, Bool.or_true, Bool.not_true, Bool.not_false, decide_true, decide_false, decide_eq_true_eq, reduceCtorEq, ne_eq, not_true_eq_false, W_bIte, W_if, bindIte, W_some, List.length_cons, List.length_nil, List.length_append, List.length_map, List.length_replicate, List.length_range, List.getElem?_cons_zero, List.getElem?_cons_succ, List.set_nil, List.take_succ_cons, List.take_zero, true_and, and_true, or_true, true_or, eq_self, asInts_map, LINE, Nat.zero_le, Nat.not_lt, Nat.le_add_right, Nat.le_refl, Nat.lt_irrefl, Nat.lt_add_right_iff_pos, Nat.add_lt_add_iff_left, Nat.add_le_add_iff_left, not_false_eq_true, Int.natCast_eq_zero, Nat.add_one_ne_zero])
local macro_rules | `(tactic| walk_at "dvh") => `(tactic| simp -implicitDefEqProofs only [e_var, e_k, e_gl, e_bin, k_bin1, k_bin2, e_neg, k_neg, e_cmp, k_cmp1, k_cmp2, e_chn, k_chn1, k_chn2, k_chn3, e_and, k_and, e_or, k_or, e_not, k_not, e_tru, k_tru, e_ife, k_ife, e_ix, k_ix1, k_ix2, e_slc, k_sl1, k_sl2, k_sl3, e_tup, e_lst, k_tup, k_lst, e_dnK, e_dnT, e_call, k_call, k_fin, e_bi, k_bi, e_mt, k_mt1, k_mt2, e_app, k_app1, k_app2s, k_app2n, e_isi, k_isi, e_rg1, k_rg1, e_rg2, k_rg2, k_rg2b, e_lc, k_lc, k_lcR, lbd_at, k_ls0, k_ls1, k_ls3s, k_ls3n, s_nil, s_cons, k_cons_s, k_cons_n, k_cons2, d_nil, d_cons, k_consD, k_consD2, i_seq, k_sq, i_rng1, k_r1, i_rng2, k_r2, k_r2b, i_rngD, k_rD, k_rDb, i_enum, k_en, i_zip, k_zp1, k_zp2, i_rev, k_rv, r_skip, r_seq, k_seqN, k_seqR, k_seqB, k_seqC, r_asg, k_asgS, k_asgN, r_asgT, k_asgT, r_asgL, k_asgL, r_par, k_par, r_sub, k_sub1s, k_sub1n, k_sub2, k_sub3, r_aug, k_aug, r_augS, k_augS1, k_augS2, k_augS2b, k_augS3, r_exp, k_exp, r_ret, k_ret, r_retN, r_if, k_if, r_whl, r_fr, k_fr, fbd_at, k_run, r_brk, r_cont, r_gc, k_gcR, k_gcN, k_gcC, k_gcB, r_kl, k_kl, r_kill, r_del, k_del1, k_del2, k_endR, k_endN, fin_s, fin_n, finO_some, fin_loc, zl, rev_map, app_int, set_int, lsO_lst, seqL_loc, seqL_new, seqL_rol, lstOf_loc, lstOf_new, seqOf_tup, seqOf_loc, seqOf_new, seqOf_rol, tupOf_tup, tupOf_loc, tupOf_new, dictOf_new, dictOf_loc, b_any, b_all, lenO_lst, lenO_dK, b_len_tup, b_len_loc, b_len_new, b_len_rol, b_int, b_intB, b_tuple, b_list, b_sum, srtO_lst, srtO_dK, b_sorted_loc, b_sorted_new, b_min2, b_max2, b_abs, v_pop, v_popAt, v_rev, v_bit, v_get1, v_get2, dkO_K, dkO_T, m_pop, popAO_lst, m_popAt, revO_lst, m_rev, m_get1, m_get2, m_bit, dlook_int, popO_int, part_non, part_k, part_v, slc_tup, slc_rol, slc_new, slc_loc, cut_map, und_int, und_bl, und_non, und_str, und_loc, und_tup, und_rol, und_lst, unds_app, und_dK, iop_and, iop_or, iop_xor, setIx_loc, setO_lst, setO_dK, appD_loc, appO_lst, idx_tup, idx_ktu, idx_loc, idx_new, idxO_lst, idxO_dK, pyEq_int, pyEq_bl, c_eq, c_ne, c_lt, c_le, c_gt, c_ge, c_isN, c_notN, isNon_non, isNon_int, isNon_tup, isNon_bl, isNon_loc, tru_int, tru_bl, tru_tup, c_mem, c_nmem, mem_bls, mem_loc, memO_int, mem_tup, ty_nil, ty_cons, ty_int, ty_bl, ty_tup, ty_non, ty_str, grd_loc, grdO_some, grd_tup, grd_new, grd_rol, gOk_one, eT_len, look_eT, put_eT, kInts_eT, Option.bind_some, Option.map_some, Option.isSome_some, get_zero, get_succ, List.map_cons, List.map_nil, List.reduceReplicate, Nat.reduceSub, Nat.reduceAdd, Nat.reduceLeDiff, Nat.reduceLT, Nat.reduceEqDiff, List.append_nil, List.nil_append, List.cons_append, intOf, blOf, bop_int, iop_add, iop_sub, iop_mod, iop_mulR, iop_mulL, iop_fdiv, Int.reduceLT, Int.reduceLE, Int.reduceNeg, fin_f, List.set_cons_zero, List.set_cons_succ, asg, asgs, kill, if_true, if_false, Bool.false_eq_true, app_get0, app_get, app_set0, app_set, app_app, app_take0, app_take, GCok_P, gcP_nil, gcP_cons, gcP_refl, gcP_app, gcP_app_l, gcP_app_r, sigBelow, S.unds, List.take_length, unds_int, false_implies, implies_true, Bool.and_true, Bool.true_and, Bool.and_self, Bool.false_or, Bool.or_false, Bool.true_or, Bool.or_true, Bool.not_true, Bool.not_false, decide_true, decide_false, decide_eq_true_eq, reduceCtorEq, ne_eq, not_true_eq_false, W_bIte, W_if, bindIte, W_some, List.length_cons, List.length_nil, List.length_append, List.length_map, List.length_replicate, List.length_range, List.getElem?_cons_zero, List.getElem?_cons_succ, List.set_nil, List.take_succ_cons, List.take_zero, true_and, and_true, or_true, true_or, eq_self, asInts_map, LINE, Nat.zero_le, Nat.not_lt, Nat.le_add_right, Nat.le_refl, Nat.lt_irrefl, Nat.lt_add_right_iff_pos, Nat.add_lt_add_iff_left, Nat.add_le_add_iff_left, not_false_eq_true, Int.natCast_eq_zero, Nat.add_one_ne_zero, *])
local macro_rules | `(tactic| walk_at "wb") => `(tactic| simp only [W_bind, W_map])

theorem shl_one {m : Nat} (hm : m ≤ 10) : iop .shl 1 (m : Int) = some ((2 ^ m : Nat) : Int) := by
  rw [iop_shl (by omega)]
  congr 1
  simp
def prs : List Int := [2, 3, 5, 7, 11, 13, 17, 19, 23, 29, 31]
theorem atD {α : Type} {f : α → S} {l : List α} {i : Nat} {x : S} (h : (l.map f)[i]? = some x) : L2.atI (l.map f) (i : Int) = some x := L2.atI_nat h
theorem seq_nx {c : Cal} {gl : List S} {a b : C} {g g1 : Sig} {μ μ1 : Sto} {r : Rs} (h1 : run c gl a g μ = some (.nx, g1, μ1)) (h2 : run c gl b g1 μ1 = r) : run c gl (.seq a b) g μ = r := by
  rw [r_seq, h1]; exact h2
def killF : Nat → Sig → List Nat → Sig
  | _, [], _ => []
  | n, x :: r, ks => (bif ks.any (Nat.beq n) then none else x) :: killF (n + 1) r ks
theorem killF_len {ks : List Nat} : ∀ {g : Sig} {n : Nat}, (killF n g ks).length = g.length
  | [], _ => rfl
  | x :: r, n => by simp only [killF, List.length_cons, killF_len]
theorem killF_nil : ∀ {g : Sig} {n : Nat}, killF n g [] = g
  | [], _ => rfl
  | x :: r, n => by simp only [killF, List.any_nil, cond_false, killF_nil]
theorem killF_cons {i : Nat} {ks : List Nat} : ∀ {g : Sig} {n : Nat}, killF n g (i :: ks) = if n ≤ i then (killF n g ks).set (i - n) none else killF n g ks
  | [], _ => by simp [killF]
  | x :: r, n => by
    have ih := @killF_cons i ks r (n + 1)
    simp only [killF, List.any_cons, ih]
    by_cases h : n = i
    · subst h
      have e : Nat.beq n n = true := Nat.beq_refl n
      rw [e, if_neg (by omega), if_pos (Nat.le_refl _), Nat.sub_self]
      rfl
    · have e : Nat.beq n i = false := by
        cases hb : Nat.beq n i
        · rfl
        · exact absurd (Nat.eq_of_beq_eq_true hb) h
      rw [e, Bool.false_or]
      by_cases h2 : n ≤ i
      · rw [if_pos (by omega), if_pos h2, show i - n = (i - (n + 1)) + 1 by omega, List.set_cons_succ]
      · rw [if_neg (by omega), if_neg h2]
theorem kill_F {g : Sig} : ∀ {ks : List Nat}, kill g ks = killF 0 g ks
  | [] => killF_nil.symm
  | i :: r => by rw [kill, kill_F, killF_cons, if_pos (Nat.zero_le _), Nat.sub_zero]
theorem gc_end {c : Cal} {gl : List S} {b : C} {ks : List Nat} {g g1 g2 : Sig} {μ μ1 : Sto} (h : run c gl b g μ = some (.nx, g1, μ1)) (hk : killF 0 g1 ks = g2) (hs : sigBelow μ.length g2 = true) (hg : gcP μ.length μ μ1) : run c gl (.gc ks b) g μ = some (.nx, g2, μ1.take μ.length) := by
  subst hk
  rw [← kill_F] at hs ⊢
  rw [r_gc, h, Option.bind_some, k_gcN hs hg]
set_option maxHeartbeats 40000000
theorem turn_ok {k : Nat} (hk : 7 ≤ k) (sc tn : S) (hsc : ∀ n, S.und n sc = true) (htn : ∀ n, S.und n tn = true) (ds0 : List Int) : ∃ ds', run (callK tb gl k) gl (.gc [2, 3, 4, 5, 6, 7, 8, 9, 10, 11, 12, 13, 14, 15, 16, 17, 18, 19, 20, 21, 22] b_law_l0) [some (sc), some (.loc 0), some (tn), none, none, none, none, none, none, none, none, none, none, none, none, none, none, none, none, none, none, none, none, none, none, none, none] [dr ds0] = some (.nx, [some sc, some (.loc 0), none, none, none, none, none, none, none, none, none, none, none, none, none, none, none, none, none, none, none, none, none, none, none, none, none], [dr ds']) := by
  have hU1 := @und_rows
  have hU2 := @und_st
  have hU3 := @und_cells
  have hU4 := @und_tabs
  have hU5 := @und_sgs
  obtain ⟨v, ds1, v0, v1, e0⟩ := take_ok (k := k) (by omega) (m := 4) (by decide) ds0 []
  obtain ⟨m, hm⟩ : ∃ m : Nat, 1 + v = (m : Int) := ⟨(1 + v).toNat, by omega⟩
  have hm1 : 1 ≤ m ∧ m ≤ 4 := by omega
  have esh := shl_one (m := m) (by omega)
  have hpw : 2 ^ m ≤ 16 := Nat.pow_le_pow_right (by decide) hm1.2 (n := 2)
  have hpw0 : 0 < 2 ^ m := Nat.pow_pos (by decide)
  have z0 : run (callK tb gl k) gl s_law_l0_0 [some (sc), some (.loc 0), some (tn), none, none, none, none, none, none, none, none, none, none, none, none, none, none, none, none, none, none, none, none, none, none, none, none] [dr ds0] = some (.nx, [some (sc), some (.loc 0), some (tn), some (.int m), none, none, none, none, none, none, none, none, none, none, none, none, none, none, none, none, none, none, none, none, none, none, none], [dr ds1]) := by
    simp only [s_law_l0_0]
    walk_at "dvh"
  clear e0 hm v0 v1
  have C1 := lc_filter (gs := []) (body := lbd (callK tb gl k) gl (.var 24) [24] (.nm 24) (.cmp .ge (.var 24) (.bin .shl (.k (.int 1)) (.var 3))) [some (sc), some (.loc 0), some (tn), some (.int m), none, none, none, none, none, none, none, none, none, none, none, none, none, none, none, none, none, none, none, none, none, none, none]) (μ := [dr ds1]) S.int (fun q => decide (((2 ^ m : Nat) : Int) ≤ q)) S.int rfl prs (fun q _ => by
    simp only [lbd_at]
    walk_at "dvh"
    by_cases c : ((2 ^ m : Nat) : Int) ≤ q <;> simp only [c, decide_true, decide_false, if_true, if_false, Bool.false_eq_true]) [] (by simp [prs, LINE])
  have hne : (prs.filter fun q => decide (((2 ^ m : Nat) : Int) ≤ q)) ≠ [] := fun e => by
    have : (31 : Int) ∈ prs.filter fun q => decide (((2 ^ m : Nat) : Int) ≤ q) := List.mem_filter.mpr ⟨by simp [prs], decide_eq_true (by omega)⟩
    rw [e] at this; cases this
  obtain ⟨p', ds2, hp', e1⟩ := pick_loc (k := k) S.int (fun _ _ => rfl) hne (n := 0) (by omega) ds1 [.lst ((prs.filter fun q => decide (((2 ^ m : Nat) : Int) ≤ q)).map S.int)] rfl
  obtain ⟨hp1, hp2⟩ := List.mem_filter.mp hp'
  have hp2 : ((2 ^ m : Nat) : Int) ≤ p' := of_decide_eq_true hp2
  have hp3 : 2 ≤ p' ∧ p' ≤ 31 := by
    simp only [prs, List.mem_cons, List.not_mem_nil, or_false] at hp1
    omega
  obtain ⟨p, rfl⟩ : ∃ p : Nat, p' = (p : Int) := ⟨p'.toNat, by omega⟩
  generalize hfl : prs.filter (fun q => decide (((2 ^ m : Nat) : Int) ≤ q)) = fl at C1 e1
  simp only [prs, List.map_cons, List.map_nil, List.nil_append] at C1
  have e1 : callK tb gl k Ix.law_pick [.loc 0, .loc 1] [dr ds1, .lst (fl.map S.int)] = some (.s (.int p), [dr ds2, .lst (fl.map S.int)]) := e1
  clear hfl hne hp' hp1
  have z1 : run (callK tb gl k) gl s_law_l0_1 [some (sc), some (.loc 0), some (tn), some (.int m), none, none, none, none, none, none, none, none, none, none, none, none, none, none, none, none, none, none, none, none, none, none, none] [dr ds1] = some (.nx, [some (sc), some (.loc 0), some (tn), some (.int m), some (.int p), none, none, none, none, none, none, none, none, none, none, none, none, none, none, none, none, none, none, none, none, none, none], [dr ds2]) := by
    simp only [s_law_l0_1]
    walk_at "dvh"
  clear C1 e1
  have hF : Fok (.p p) := ⟨by omega, by omega⟩
  have hG : Fok (.g m) := ⟨hm1.1, hm1.2⟩
  obtain ⟨t, ds3, ht, e2⟩ := dtable_ok hF (by omega) (k := k) (by omega) (m := 5) (by decide) ds2 []
  have z2 : run (callK tb gl k) gl s_law_l0_2 [some (sc), some (.loc 0), some (tn), some (.int m), some (.int p), none, none, none, none, none, none, none, none, none, none, none, none, none, none, none, none, none, none, none, none, none, none] [dr ds2] = some (.nx, [some (sc), some (.loc 0), some (tn), some (.int m), some (.int p), some (sTab t), none, none, none, none, none, none, none, none, none, none, none, none, none, none, none, none, none, none, none, none, none], [dr ds3]) := by
    simp only [s_law_l0_2]
    walk_at "dvh"
  clear e2
  obtain ⟨sg, ds4, hsg, e3⟩ := stable_ok hG (k := k) (by omega) (c := 5) (by decide) ds3 []
  have z3 : run (callK tb gl k) gl s_law_l0_3 [some (sc), some (.loc 0), some (tn), some (.int m), some (.int p), some (sTab t), none, none, none, none, none, none, none, none, none, none, none, none, none, none, none, none, none, none, none, none, none] [dr ds3] = some (.nx, [some (sc), some (.loc 0), some (tn), some (.int m), some (.int p), some (sTab t), some (sSgs sg), none, none, none, none, none, none, none, none, none, none, none, none, none, none, none, none, none, none, none, none], [dr ds4]) := by
    simp only [s_law_l0_3]
    walk_at "dvh"
  clear e3
  obtain ⟨v, ds5, v0, v1, e4⟩ := take_ok (k := k) (by omega) (m := 12) (by decide) ds4 []
  obtain ⟨w, hw⟩ : ∃ w : Nat, 1 + v = (w : Int) := ⟨(1 + v).toNat, by omega⟩
  have hw1 : 0 < w ∧ w ≤ 12 := by omega
  have z4 : run (callK tb gl k) gl s_law_l0_4 [some (sc), some (.loc 0), some (tn), some (.int m), some (.int p), some (sTab t), some (sSgs sg), none, none, none, none, none, none, none, none, none, none, none, none, none, none, none, none, none, none, none, none] [dr ds4] = some (.nx, [some (sc), some (.loc 0), some (tn), some (.int m), some (.int p), some (sTab t), some (sSgs sg), some (.int w), none, none, none, none, none, none, none, none, none, none, none, none, none, none, none, none, none, none, none], [dr ds5]) := by
    simp only [s_law_l0_4]
    walk_at "dvh"
  clear e4 hw v0 v1
  have hw2 : 0 < w ∧ w ≤ 64 := by omega
  obtain ⟨ts, ds6, htl, hts, e5⟩ := rtables_ok hF (by omega) (k := k) (by omega) (m := m) (by omega) ds5 []
  have z5 : run (callK tb gl k) gl s_law_l0_5 [some (sc), some (.loc 0), some (tn), some (.int m), some (.int p), some (sTab t), some (sSgs sg), some (.int w), none, none, none, none, none, none, none, none, none, none, none, none, none, none, none, none, none, none, none] [dr ds5] = some (.nx, [some (sc), some (.loc 0), some (tn), some (.int m), some (.int p), some (sTab t), some (sSgs sg), some (.int w), some (sTabs ts), none, none, none, none, none, none, none, none, none, none, none, none, none, none, none, none, none, none], [dr ds6]) := by
    simp only [s_law_l0_5]
    walk_at "dvh"
  clear e5
  obtain ⟨st, ds7, hsl, hsb, e6⟩ := mixed_ok (k := k) (by omega) (m := m) (by omega) ds6 []
  have z6 : run (callK tb gl k) gl s_law_l0_6 [some (sc), some (.loc 0), some (tn), some (.int m), some (.int p), some (sTab t), some (sSgs sg), some (.int w), some (sTabs ts), none, none, none, none, none, none, none, none, none, none, none, none, none, none, none, none, none, none] [dr ds6] = some (.nx, [some (sc), some (.loc 0), some (tn), some (.int m), some (.int p), some (sTab t), some (sSgs sg), some (.int w), some (sTabs ts), some (sSt st), none, none, none, none, none, none, none, none, none, none, none, none, none, none, none, none, none], [dr ds7]) := by
    simp only [s_law_l0_6]
    walk_at "dvh"
  clear e6
  obtain ⟨ks, ds8, k0, kb, e7⟩ := lkeys_ok (k := k) (by omega) (m := m) (by omega) ds7 []
  obtain ⟨kp, ds9, hkl, hkk, e7b⟩ := kept_ok (k := k) (by omega) (m := 14) (by decide) k0 (a := 0) ds8 [iO ks] rfl
  have e7b : callK tb gl k Ix.law_kept [.loc 0, .loc 1, .int 14] [dr ds8, iO ks] = some (.s (sSt kp), [dr ds9, iO ks]) := e7b
  have hkb : Kb (2 ^ m) kp := fun p hp => kb p.1 (hkk p hp)
  clear k0 kb hkk
  have z7 : run (callK tb gl k) gl s_law_l0_7 [some (sc), some (.loc 0), some (tn), some (.int m), some (.int p), some (sTab t), some (sSgs sg), some (.int w), some (sTabs ts), some (sSt st), none, none, none, none, none, none, none, none, none, none, none, none, none, none, none, none, none] [dr ds7] = some (.nx, [some (sc), some (.loc 0), some (tn), some (.int m), some (.int p), some (sTab t), some (sSgs sg), some (.int w), some (sTabs ts), some (sSt st), some (sSt kp), none, none, none, none, none, none, none, none, none, none, none, none, none, none, none, none], [dr ds9]) := by
    simp only [s_law_l0_7]
    walk_at "dvh"
  clear e7 e7b
  obtain ⟨a, b, ds10, hab, e8⟩ := cut_ok (k := k) (by omega) (s := st) (by omega) ds9 []
  have hal : a.length < 64 ∧ b.length < 64 := by have := congrArg List.length hab; rw [List.length_append] at this; omega
  have hak : Kb (2 ^ m) a := fun p hp => hsb p (by rw [← hab]; exact List.mem_append_left _ hp)
  have hbk : Kb (2 ^ m) b := fun p hp => hsb p (by rw [← hab]; exact List.mem_append_right _ hp)
  have z8 : run (callK tb gl k) gl s_law_l0_8 [some (sc), some (.loc 0), some (tn), some (.int m), some (.int p), some (sTab t), some (sSgs sg), some (.int w), some (sTabs ts), some (sSt st), some (sSt kp), none, none, none, none, none, none, none, none, none, none, none, none, none, none, none, none] [dr ds9] = some (.nx, [some (sc), some (.loc 0), some (tn), some (.int m), some (.int p), some (sTab t), some (sSgs sg), some (.int w), some (sTabs ts), some (sSt st), some (sSt kp), none, none, none, none, none, none, none, none, none, none, some (sSt a), some (sSt b), none, none, none, none], [dr ds10]) := by
    clear hab hak hbk hal
    simp only [s_law_l0_8]
    walk_at "dvh"
  clear e8
  obtain ⟨od, ds11, hod, e9⟩ := order_ok (k := k) (by omega) (s := st) (by omega) ds10 []
  have hodl : od.length < 64 := by rw [hod.length_eq]; omega
  have hodk : Kb (2 ^ m) od := fun p hp => hsb p (hod.subset hp)
  have hcf := cF_perm hod
  obtain ⟨pl, hP⟩ : ∃ pl, [a, b, st, od] = pl := ⟨_, rfl⟩
  have z9 : run (callK tb gl k) gl s_law_l0_9 [some (sc), some (.loc 0), some (tn), some (.int m), some (.int p), some (sTab t), some (sSgs sg), some (.int w), some (sTabs ts), some (sSt st), some (sSt kp), none, none, none, none, none, none, none, none, none, none, some (sSt a), some (sSt b), none, none, none, none] [dr ds10] = some (.nx, [some (sc), some (.loc 0), some (tn), some (.int m), some (.int p), some (sTab t), some (sSgs sg), some (.int w), some (sTabs ts), some (sSt st), some (sSt kp), some (.loc 1), none, none, none, none, none, none, none, none, none, some (sSt a), some (sSt b), none, none, none, none], [dr ds11, .lst (pl.map sSt)]) := by
    rw [← hP]
    simp only [List.map_cons, List.map_nil]
    clear hcf hod hP
    simp only [s_law_l0_9]
    walk_at "dvh"
  clear e9
  have hpl : ∀ x ∈ pl, x.length < 64 ∧ Kb (2 ^ m) x := fun x hx => by
    rw [← hP] at hx
    simp only [List.mem_cons, List.not_mem_nil, or_false] at hx
    rcases hx with rfl | rfl | rfl | rfl
    · exact ⟨hal.1, hak⟩
    · exact ⟨hal.2, hbk⟩
    · exact ⟨by omega, hsb⟩
    · exact ⟨hodl, hodk⟩
  have hLI : LINE = 16777216 := rfl
  have C10 := lc_map (gs := [(1, .lst (pl.map sSt))]) (body := lbd (callK tb gl k) gl (.call Ix.table_counters false (.cons (.var 23) (.cons (.var 5) (.cons (.var 4) .nil)))) [23] (.nm 23) (.k (.bl true)) [some (sc), some (.loc 0), some (tn), some (.int m), some (.int p), some (sTab t), some (sSgs sg), some (.int w), some (sTabs ts), some (sSt st), some (sSt kp), some (.loc 1), none, none, none, none, none, none, none, none, none, some (sSt a), some (sSt b), none, none, none, none]) (μ := [dr ds11, .lst (pl.map sSt)]) sSt (fun x => sRows (tabR p (valF (.p p)) (fun _ _ => 1) t (cF x))) (by rw [gOk_one]; exact decide_eq_true rfl) pl (fun x hx => by
    obtain ⟨hx1, hx2⟩ := hpl x hx
    have e : ∀ μ, _ := fun μ => table_ok hF (k := k) (by omega) ht hx1 μ
    clear hpl hx hP
    simp only [lbd_at]
    walk_at "dvh") [] (by rw [← hP]; simp [LINE])
  have z10 : run (callK tb gl k) gl s_law_l0_10 [some (sc), some (.loc 0), some (tn), some (.int m), some (.int p), some (sTab t), some (sSgs sg), some (.int w), some (sTabs ts), some (sSt st), some (sSt kp), some (.loc 1), none, none, none, none, none, none, none, none, none, some (sSt a), some (sSt b), none, none, none, none] [dr ds11, .lst (pl.map sSt)] = some (.nx, [some (sc), some (.loc 0), some (tn), some (.int m), some (.int p), some (sTab t), some (sSgs sg), some (.int w), some (sTabs ts), some (sSt st), some (sSt kp), some (.loc 1), some (.loc 2), none, none, none, none, none, none, none, none, some (sSt a), some (sSt b), none, none, none, none], [dr ds11, .lst (pl.map sSt), .lst (pl.map fun x => sRows (tabR p (valF (.p p)) (fun _ _ => 1) t (cF x)))]) := by
    clear hpl hP
    simp only [s_law_l0_10]
    walk_at "dvh"
  clear C10
  have C11 := lc_map (gs := [(1, .lst (pl.map sSt))]) (body := lbd (callK tb gl k) gl (.call Ix.signed_counters false (.cons (.var 23) (.cons (.var 6) (.cons (.var 3) (.cons (.bin .shl (.k (.int 1)) (.var 3)) .nil))))) [23] (.nm 23) (.k (.bl true)) [some (sc), some (.loc 0), some (tn), some (.int m), some (.int p), some (sTab t), some (sSgs sg), some (.int w), some (sTabs ts), some (sSt st), some (sSt kp), some (.loc 1), some (.loc 2), none, none, none, none, none, none, none, none, some (sSt a), some (sSt b), none, none, none, none]) (μ := [dr ds11, .lst (pl.map sSt), .lst (pl.map fun x => sRows (tabR p (valF (.p p)) (fun _ _ => 1) t (cF x)))]) sSt (fun x => sRows (tabR (2 ^ m) (plF m (2 ^ m)) (siF m) sg (cF x))) (by rw [gOk_one]; exact decide_eq_true rfl) pl (fun x hx => by
    obtain ⟨hx1, hx2⟩ := hpl x hx
    have e : ∀ μ, _ := fun μ => signed_ok (w := 2 ^ m) hG (by omega) (k := k) (by omega) hsg hx1 μ
    clear hpl hx hP
    simp only [lbd_at]
    walk_at "dvh") [] (by rw [← hP]; simp [LINE])
  have z11 : run (callK tb gl k) gl s_law_l0_11 [some (sc), some (.loc 0), some (tn), some (.int m), some (.int p), some (sTab t), some (sSgs sg), some (.int w), some (sTabs ts), some (sSt st), some (sSt kp), some (.loc 1), some (.loc 2), none, none, none, none, none, none, none, none, some (sSt a), some (sSt b), none, none, none, none] [dr ds11, .lst (pl.map sSt), .lst (pl.map fun x => sRows (tabR p (valF (.p p)) (fun _ _ => 1) t (cF x)))] = some (.nx, [some (sc), some (.loc 0), some (tn), some (.int m), some (.int p), some (sTab t), some (sSgs sg), some (.int w), some (sTabs ts), some (sSt st), some (sSt kp), some (.loc 1), some (.loc 2), some (.loc 3), none, none, none, none, none, none, none, some (sSt a), some (sSt b), none, none, none, none], [dr ds11, .lst (pl.map sSt), .lst (pl.map fun x => sRows (tabR p (valF (.p p)) (fun _ _ => 1) t (cF x))), .lst (pl.map fun x => sRows (tabR (2 ^ m) (plF m (2 ^ m)) (siF m) sg (cF x)))]) := by
    clear hpl hP
    simp only [s_law_l0_11]
    walk_at "dvh"
  clear C11
  have C12 := lc_map (gs := [(1, .lst (pl.map sSt))]) (body := lbd (callK tb gl k) gl (.call Ix.level_counters false (.cons (.var 23) (.cons (.var 3) .nil))) [23] (.nm 23) (.k (.bl true)) [some (sc), some (.loc 0), some (tn), some (.int m), some (.int p), some (sTab t), some (sSgs sg), some (.int w), some (sTabs ts), some (sSt st), some (sSt kp), some (.loc 1), some (.loc 2), some (.loc 3), none, none, none, none, none, none, none, some (sSt a), some (sSt b), none, none, none, none]) (μ := [dr ds11, .lst (pl.map sSt), .lst (pl.map fun x => sRows (tabR p (valF (.p p)) (fun _ _ => 1) t (cF x))), .lst (pl.map fun x => sRows (tabR (2 ^ m) (plF m (2 ^ m)) (siF m) sg (cF x)))]) sSt (fun x => sRows (lvR m (cF x))) (by rw [gOk_one]; exact decide_eq_true rfl) pl (fun x hx => by
    obtain ⟨hx1, hx2⟩ := hpl x hx
    have e : ∀ μ, callK tb gl k Ix.level_counters [sSt x, .int m] μ = some (.s (sRows (lvR m (cF x))), μ) := fun μ => level_ok (k := k) (by omega) (m := m) (by omega) hx1 hx2 μ
    clear hpl hx hP
    simp only [lbd_at]
    walk_at "dvh") [] (by rw [← hP]; simp [LINE])
  have z12 : run (callK tb gl k) gl s_law_l0_12 [some (sc), some (.loc 0), some (tn), some (.int m), some (.int p), some (sTab t), some (sSgs sg), some (.int w), some (sTabs ts), some (sSt st), some (sSt kp), some (.loc 1), some (.loc 2), some (.loc 3), none, none, none, none, none, none, none, some (sSt a), some (sSt b), none, none, none, none] [dr ds11, .lst (pl.map sSt), .lst (pl.map fun x => sRows (tabR p (valF (.p p)) (fun _ _ => 1) t (cF x))), .lst (pl.map fun x => sRows (tabR (2 ^ m) (plF m (2 ^ m)) (siF m) sg (cF x)))] = some (.nx, [some (sc), some (.loc 0), some (tn), some (.int m), some (.int p), some (sTab t), some (sSgs sg), some (.int w), some (sTabs ts), some (sSt st), some (sSt kp), some (.loc 1), some (.loc 2), some (.loc 3), some (.loc 4), none, none, none, none, none, none, some (sSt a), some (sSt b), none, none, none, none], [dr ds11, .lst (pl.map sSt), .lst (pl.map fun x => sRows (tabR p (valF (.p p)) (fun _ _ => 1) t (cF x))), .lst (pl.map fun x => sRows (tabR (2 ^ m) (plF m (2 ^ m)) (siF m) sg (cF x))), .lst (pl.map fun x => sRows (lvR m (cF x)))]) := by
    clear hpl hP
    simp only [s_law_l0_12]
    walk_at "dvh"
  clear C12
  have C13 := lc_map (gs := [(1, .lst (pl.map sSt))]) (body := lbd (callK tb gl k) gl (.call Ix.walsh_numbers false (.cons (.var 23) (.cons (.var 3) .nil))) [23] (.nm 23) (.k (.bl true)) [some (sc), some (.loc 0), some (tn), some (.int m), some (.int p), some (sTab t), some (sSgs sg), some (.int w), some (sTabs ts), some (sSt st), some (sSt kp), some (.loc 1), some (.loc 2), some (.loc 3), some (.loc 4), none, none, none, none, none, none, some (sSt a), some (sSt b), none, none, none, none]) (μ := [dr ds11, .lst (pl.map sSt), .lst (pl.map fun x => sRows (tabR p (valF (.p p)) (fun _ _ => 1) t (cF x))), .lst (pl.map fun x => sRows (tabR (2 ^ m) (plF m (2 ^ m)) (siF m) sg (cF x))), .lst (pl.map fun x => sRows (lvR m (cF x)))]) sSt (fun x => iS (nuR m (cF x))) (by rw [gOk_one]; exact decide_eq_true rfl) pl (fun x hx => by
    obtain ⟨hx1, hx2⟩ := hpl x hx
    have e : ∀ μ, callK tb gl k Ix.walsh_numbers [sSt x, .int m] μ = some (.s (iS (nuR m (cF x))), μ) := fun μ => walsh_ok (k := k) (by omega) (m := m) (by omega) hx1 hx2 μ
    clear hpl hx hP
    simp only [lbd_at]
    walk_at "dvh") [] (by rw [← hP]; simp [LINE])
  have z13 : run (callK tb gl k) gl s_law_l0_13 [some (sc), some (.loc 0), some (tn), some (.int m), some (.int p), some (sTab t), some (sSgs sg), some (.int w), some (sTabs ts), some (sSt st), some (sSt kp), some (.loc 1), some (.loc 2), some (.loc 3), some (.loc 4), none, none, none, none, none, none, some (sSt a), some (sSt b), none, none, none, none] [dr ds11, .lst (pl.map sSt), .lst (pl.map fun x => sRows (tabR p (valF (.p p)) (fun _ _ => 1) t (cF x))), .lst (pl.map fun x => sRows (tabR (2 ^ m) (plF m (2 ^ m)) (siF m) sg (cF x))), .lst (pl.map fun x => sRows (lvR m (cF x)))] = some (.nx, [some (sc), some (.loc 0), some (tn), some (.int m), some (.int p), some (sTab t), some (sSgs sg), some (.int w), some (sTabs ts), some (sSt st), some (sSt kp), some (.loc 1), some (.loc 2), some (.loc 3), some (.loc 4), some (.loc 5), none, none, none, none, none, some (sSt a), some (sSt b), none, none, none, none], [dr ds11, .lst (pl.map sSt), .lst (pl.map fun x => sRows (tabR p (valF (.p p)) (fun _ _ => 1) t (cF x))), .lst (pl.map fun x => sRows (tabR (2 ^ m) (plF m (2 ^ m)) (siF m) sg (cF x))), .lst (pl.map fun x => sRows (lvR m (cF x))), .lst (pl.map fun x => iS (nuR m (cF x)))]) := by
    clear hpl hP
    simp only [s_law_l0_13]
    walk_at "dvh"
  clear C13
  have C14 := lc_map (gs := [(1, .lst (pl.map sSt))]) (body := lbd (callK tb gl k) gl (.call Ix.differences false (.cons (.var 23) (.cons (.var 3) .nil))) [23] (.nm 23) (.k (.bl true)) [some (sc), some (.loc 0), some (tn), some (.int m), some (.int p), some (sTab t), some (sSgs sg), some (.int w), some (sTabs ts), some (sSt st), some (sSt kp), some (.loc 1), some (.loc 2), some (.loc 3), some (.loc 4), some (.loc 5), none, none, none, none, none, some (sSt a), some (sSt b), none, none, none, none]) (μ := [dr ds11, .lst (pl.map sSt), .lst (pl.map fun x => sRows (tabR p (valF (.p p)) (fun _ _ => 1) t (cF x))), .lst (pl.map fun x => sRows (tabR (2 ^ m) (plF m (2 ^ m)) (siF m) sg (cF x))), .lst (pl.map fun x => sRows (lvR m (cF x))), .lst (pl.map fun x => iS (nuR m (cF x)))]) sSt (fun x => sHv m (cF x)) (by rw [gOk_one]; exact decide_eq_true rfl) pl (fun x hx => by
    obtain ⟨hx1, hx2⟩ := hpl x hx
    have e : ∀ μ, callK tb gl k Ix.differences [sSt x, .int m] μ = some (.s (sHv m (cF x)), μ) := fun μ => diff_ok (k := k) (by omega) (m := m) (by omega) hx1 hx2 μ
    clear hpl hx hP
    simp only [lbd_at]
    walk_at "dvh") [] (by rw [← hP]; simp [LINE])
  have z14 : run (callK tb gl k) gl s_law_l0_14 [some (sc), some (.loc 0), some (tn), some (.int m), some (.int p), some (sTab t), some (sSgs sg), some (.int w), some (sTabs ts), some (sSt st), some (sSt kp), some (.loc 1), some (.loc 2), some (.loc 3), some (.loc 4), some (.loc 5), none, none, none, none, none, some (sSt a), some (sSt b), none, none, none, none] [dr ds11, .lst (pl.map sSt), .lst (pl.map fun x => sRows (tabR p (valF (.p p)) (fun _ _ => 1) t (cF x))), .lst (pl.map fun x => sRows (tabR (2 ^ m) (plF m (2 ^ m)) (siF m) sg (cF x))), .lst (pl.map fun x => sRows (lvR m (cF x))), .lst (pl.map fun x => iS (nuR m (cF x)))] = some (.nx, [some (sc), some (.loc 0), some (tn), some (.int m), some (.int p), some (sTab t), some (sSgs sg), some (.int w), some (sTabs ts), some (sSt st), some (sSt kp), some (.loc 1), some (.loc 2), some (.loc 3), some (.loc 4), some (.loc 5), some (.loc 6), none, none, none, none, some (sSt a), some (sSt b), none, none, none, none], [dr ds11, .lst (pl.map sSt), .lst (pl.map fun x => sRows (tabR p (valF (.p p)) (fun _ _ => 1) t (cF x))), .lst (pl.map fun x => sRows (tabR (2 ^ m) (plF m (2 ^ m)) (siF m) sg (cF x))), .lst (pl.map fun x => sRows (lvR m (cF x))), .lst (pl.map fun x => iS (nuR m (cF x))), .lst (pl.map fun x => sHv m (cF x))]) := by
    clear hpl hP
    simp only [s_law_l0_14]
    walk_at "dvh"
  clear C14
  have T0 : Small (tabR p (valF (.p p)) (fun _ _ => 1) t (cF st)) := small_tab ht.1 (by omega)
  have T0a : Small (tabR p (valF (.p p)) (fun _ _ => 1) t (cF a)) := small_tab ht.1 (by omega)
  have G0 : Small (tabR (2 ^ m) (plF m (2 ^ m)) (siF m) sg (cF st)) := small_tab hsg.1 (by omega)
  have G0a : Small (tabR (2 ^ m) (plF m (2 ^ m)) (siF m) sg (cF a)) := small_tab hsg.1 (by omega)
  have V0 : Small (lvR m (cF st)) := small_lv hm1.2
  have V0a : Small (lvR m (cF a)) := small_lv hm1.2
  have N0 : (nuR m (cF st)).length ≤ 100000 := by rw [nu_len]; omega
  have i0 : ∀ f : Stm → S, L2.atI (pl.map f) 0 = some (f a) := fun f => by rw [← hP]; rfl
  have i1 : ∀ f : Stm → S, L2.atI (pl.map f) 1 = some (f b) := fun f => by rw [← hP]; rfl
  have i2 : ∀ f : Stm → S, L2.atI (pl.map f) 2 = some (f st) := fun f => by rw [← hP]; rfl
  have i3 : ∀ f : Stm → S, L2.atI (pl.map f) 3 = some (f od) := fun f => by rw [← hP]; rfl
  have j0 : ∀ f : Stm → S, (pl.map f)[0]? = some (f a) ∧ (pl.map f)[1]? = some (f b) ∧ (pl.map f)[2]? = some (f st) := fun f => by rw [← hP]; exact ⟨rfl, rfl, rfl⟩
  have hpn : pl.length ≤ 4 := by rw [← hP]; simp
  have L15 : forGo [] (fbd (callK tb gl k) gl (.nm 17) (.kl [17] b_law_l1)) ([2, 3, 4, 5, 6].map S.loc) [some (sc), some (.loc 0), some (tn), some (.int m), some (.int p), some (sTab t), some (sSgs sg), some (.int w), some (sTabs ts), some (sSt st), some (sSt kp), some (.loc 1), some (.loc 2), some (.loc 3), some (.loc 4), some (.loc 5), some (.loc 6), none, none, none, none, some (sSt a), some (sSt b), none, none, none, none] [dr ds11, .lst (pl.map sSt), .lst (pl.map fun x => sRows (tabR p (valF (.p p)) (fun _ _ => 1) t (cF x))), .lst (pl.map fun x => sRows (tabR (2 ^ m) (plF m (2 ^ m)) (siF m) sg (cF x))), .lst (pl.map fun x => sRows (lvR m (cF x))), .lst (pl.map fun x => iS (nuR m (cF x))), .lst (pl.map fun x => sHv m (cF x))] = some (.nx, [some (sc), some (.loc 0), some (tn), some (.int m), some (.int p), some (sTab t), some (sSgs sg), some (.int w), some (sTabs ts), some (sSt st), some (sSt kp), some (.loc 1), some (.loc 2), some (.loc 3), some (.loc 4), some (.loc 5), some (.loc 6), none, none, none, none, some (sSt a), some (sSt b), none, none, none, none], [dr ds11, .lst (pl.map sSt), .lst (pl.map fun x => sRows (tabR p (valF (.p p)) (fun _ _ => 1) t (cF x))), .lst (pl.map fun x => sRows (tabR (2 ^ m) (plF m (2 ^ m)) (siF m) sg (cF x))), .lst (pl.map fun x => sRows (lvR m (cF x))), .lst (pl.map fun x => iS (nuR m (cF x))), .lst (pl.map fun x => sHv m (cF x))]) := by
    have s1 := fun μ => same_rows T0 k μ (by omega)
    have s2 := fun μ => same_rows G0 k μ (by omega)
    have s3 := fun μ => same_rows V0 k μ (by omega)
    have s4 := fun μ => same_row N0 k μ (by omega)
    have s5 := fun μ => same_hv hm1.2 (s := cF st) k μ (by omega)
    refine (for_foldI (gs := []) (σ := Unit) S.loc (fun _ => [some (sc), some (.loc 0), some (tn), some (.int m), some (.int p), some (sTab t), some (sSgs sg), some (.int w), some (sTabs ts), some (sSt st), some (sSt kp), some (.loc 1), some (.loc 2), some (.loc 3), some (.loc 4), some (.loc 5), some (.loc 6), none, none, none, none, some (sSt a), some (sSt b), none, none, none, none]) (fun _ => [dr ds11, .lst (pl.map sSt), .lst (pl.map fun x => sRows (tabR p (valF (.p p)) (fun _ _ => 1) t (cF x))), .lst (pl.map fun x => sRows (tabR (2 ^ m) (plF m (2 ^ m)) (siF m) sg (cF x))), .lst (pl.map fun x => sRows (lvR m (cF x))), .lst (pl.map fun x => iS (nuR m (cF x))), .lst (pl.map fun x => sHv m (cF x))]) (fun s _ => s) (fun r _ => ∀ n ∈ r, n = 2 ∨ n = 3 ∨ n = 4 ∨ n = 5 ∨ n = 6) (fun _ _ _ => rfl) (fun n r _ hI => ⟨?_, fun x hx => hI x (by simp [hx])⟩) [2, 3, 4, 5, 6] () (by decide)).1
    have hn := hI n (by simp)
    clear hI T0 T0a G0 G0a V0 V0a N0 j0 hP hpl
    rcases hn with rfl | rfl | rfl | rfl | rfl
    all_goals
      simp only [fbd_at]
      walk_at "dvh"
      simp only [b_law_l1]
      walk_at "dvh"
  simp only [List.map_cons, List.map_nil] at L15
  have z15 : run (callK tb gl k) gl s_law_l0_15 [some (sc), some (.loc 0), some (tn), some (.int m), some (.int p), some (sTab t), some (sSgs sg), some (.int w), some (sTabs ts), some (sSt st), some (sSt kp), some (.loc 1), some (.loc 2), some (.loc 3), some (.loc 4), some (.loc 5), some (.loc 6), none, none, none, none, some (sSt a), some (sSt b), none, none, none, none] [dr ds11, .lst (pl.map sSt), .lst (pl.map fun x => sRows (tabR p (valF (.p p)) (fun _ _ => 1) t (cF x))), .lst (pl.map fun x => sRows (tabR (2 ^ m) (plF m (2 ^ m)) (siF m) sg (cF x))), .lst (pl.map fun x => sRows (lvR m (cF x))), .lst (pl.map fun x => iS (nuR m (cF x))), .lst (pl.map fun x => sHv m (cF x))] = some (.nx, [some (sc), some (.loc 0), some (tn), some (.int m), some (.int p), some (sTab t), some (sSgs sg), some (.int w), some (sTabs ts), some (sSt st), some (sSt kp), some (.loc 1), some (.loc 2), some (.loc 3), some (.loc 4), some (.loc 5), some (.loc 6), none, none, none, none, some (sSt a), some (sSt b), none, none, none, none], [dr ds11, .lst (pl.map sSt), .lst (pl.map fun x => sRows (tabR p (valF (.p p)) (fun _ _ => 1) t (cF x))), .lst (pl.map fun x => sRows (tabR (2 ^ m) (plF m (2 ^ m)) (siF m) sg (cF x))), .lst (pl.map fun x => sRows (lvR m (cF x))), .lst (pl.map fun x => iS (nuR m (cF x))), .lst (pl.map fun x => sHv m (cF x))]) := by
    clear hpl hP j0 i0 i1 i2 i3
    simp only [s_law_l0_15]
    walk_at "dvh"
  clear L15
  have y1 := fun n (h : [dr ds11, .lst (pl.map sSt), .lst (pl.map fun x => sRows (tabR p (valF (.p p)) (fun _ _ => 1) t (cF x))), .lst (pl.map fun x => sRows (tabR (2 ^ m) (plF m (2 ^ m)) (siF m) sg (cF x))), .lst (pl.map fun x => sRows (lvR m (cF x))), .lst (pl.map fun x => iS (nuR m (cF x))), .lst (pl.map fun x => sHv m (cF x))][n]? = _) => sum3_ok (k := k) (by omega) T0a (alike_tab (b := cF b)) (sum_tab hab) _ (j0 (fun x => sRows (tabR p (valF (.p p)) (fun _ _ => 1) t (cF x)))) [dr ds11, .lst (pl.map sSt), .lst (pl.map fun x => sRows (tabR p (valF (.p p)) (fun _ _ => 1) t (cF x))), .lst (pl.map fun x => sRows (tabR (2 ^ m) (plF m (2 ^ m)) (siF m) sg (cF x))), .lst (pl.map fun x => sRows (lvR m (cF x))), .lst (pl.map fun x => iS (nuR m (cF x))), .lst (pl.map fun x => sHv m (cF x))] n h
  have y2 := fun n (h : [dr ds11, .lst (pl.map sSt), .lst (pl.map fun x => sRows (tabR p (valF (.p p)) (fun _ _ => 1) t (cF x))), .lst (pl.map fun x => sRows (tabR (2 ^ m) (plF m (2 ^ m)) (siF m) sg (cF x))), .lst (pl.map fun x => sRows (lvR m (cF x))), .lst (pl.map fun x => iS (nuR m (cF x))), .lst (pl.map fun x => sHv m (cF x))][n]? = _) => sum3_ok (k := k) (by omega) G0a (alike_tab (b := cF b)) (sum_tab hab) _ (j0 (fun x => sRows (tabR (2 ^ m) (plF m (2 ^ m)) (siF m) sg (cF x)))) [dr ds11, .lst (pl.map sSt), .lst (pl.map fun x => sRows (tabR p (valF (.p p)) (fun _ _ => 1) t (cF x))), .lst (pl.map fun x => sRows (tabR (2 ^ m) (plF m (2 ^ m)) (siF m) sg (cF x))), .lst (pl.map fun x => sRows (lvR m (cF x))), .lst (pl.map fun x => iS (nuR m (cF x))), .lst (pl.map fun x => sHv m (cF x))] n h
  have y3 := fun n (h : [dr ds11, .lst (pl.map sSt), .lst (pl.map fun x => sRows (tabR p (valF (.p p)) (fun _ _ => 1) t (cF x))), .lst (pl.map fun x => sRows (tabR (2 ^ m) (plF m (2 ^ m)) (siF m) sg (cF x))), .lst (pl.map fun x => sRows (lvR m (cF x))), .lst (pl.map fun x => iS (nuR m (cF x))), .lst (pl.map fun x => sHv m (cF x))][n]? = _) => sum3_ok (k := k) (by omega) V0a (alike_lv (b := cF b)) (sum_lv hab) _ (j0 (fun x => sRows (lvR m (cF x)))) [dr ds11, .lst (pl.map sSt), .lst (pl.map fun x => sRows (tabR p (valF (.p p)) (fun _ _ => 1) t (cF x))), .lst (pl.map fun x => sRows (tabR (2 ^ m) (plF m (2 ^ m)) (siF m) sg (cF x))), .lst (pl.map fun x => sRows (lvR m (cF x))), .lst (pl.map fun x => iS (nuR m (cF x))), .lst (pl.map fun x => sHv m (cF x))] n h
  have y1 := y1 2 rfl
  have y2 := y2 3 rfl
  have y3 := y3 4 rfl
  have z16 : run (callK tb gl k) gl s_law_l0_16 [some (sc), some (.loc 0), some (tn), some (.int m), some (.int p), some (sTab t), some (sSgs sg), some (.int w), some (sTabs ts), some (sSt st), some (sSt kp), some (.loc 1), some (.loc 2), some (.loc 3), some (.loc 4), some (.loc 5), some (.loc 6), none, none, none, none, some (sSt a), some (sSt b), none, none, none, none] [dr ds11, .lst (pl.map sSt), .lst (pl.map fun x => sRows (tabR p (valF (.p p)) (fun _ _ => 1) t (cF x))), .lst (pl.map fun x => sRows (tabR (2 ^ m) (plF m (2 ^ m)) (siF m) sg (cF x))), .lst (pl.map fun x => sRows (lvR m (cF x))), .lst (pl.map fun x => iS (nuR m (cF x))), .lst (pl.map fun x => sHv m (cF x))] = some (.nx, [some (sc), some (.loc 0), some (tn), some (.int m), some (.int p), some (sTab t), some (sSgs sg), some (.int w), some (sTabs ts), some (sSt st), some (sSt kp), some (.loc 1), some (.loc 2), some (.loc 3), some (.loc 4), some (.loc 5), some (.loc 6), none, none, none, none, some (sSt a), some (sSt b), none, none, none, none], [dr ds11, .lst (pl.map sSt), .lst (pl.map fun x => sRows (tabR p (valF (.p p)) (fun _ _ => 1) t (cF x))), .lst (pl.map fun x => sRows (tabR (2 ^ m) (plF m (2 ^ m)) (siF m) sg (cF x))), .lst (pl.map fun x => sRows (lvR m (cF x))), .lst (pl.map fun x => iS (nuR m (cF x))), .lst (pl.map fun x => sHv m (cF x))]) := by
    clear hpl hP j0 i0 i1 i2 i3 hab
    simp only [s_law_l0_16]
    walk_at "dvh"
  clear y1 y2 y3
  have x1 := fun μ => joined_ok (k := k) (by omega) T0a (B := tabR p (valF (.p p)) (fun _ _ => 1) t (cF b)) μ
  rw [sum_tab hab] at x1
  have x2 := fun μ => same_rows T0 k μ (by omega)
  have z17 : run (callK tb gl k) gl s_law_l0_17 [some (sc), some (.loc 0), some (tn), some (.int m), some (.int p), some (sTab t), some (sSgs sg), some (.int w), some (sTabs ts), some (sSt st), some (sSt kp), some (.loc 1), some (.loc 2), some (.loc 3), some (.loc 4), some (.loc 5), some (.loc 6), none, none, none, none, some (sSt a), some (sSt b), none, none, none, none] [dr ds11, .lst (pl.map sSt), .lst (pl.map fun x => sRows (tabR p (valF (.p p)) (fun _ _ => 1) t (cF x))), .lst (pl.map fun x => sRows (tabR (2 ^ m) (plF m (2 ^ m)) (siF m) sg (cF x))), .lst (pl.map fun x => sRows (lvR m (cF x))), .lst (pl.map fun x => iS (nuR m (cF x))), .lst (pl.map fun x => sHv m (cF x))] = some (.nx, [some (sc), some (.loc 0), some (tn), some (.int m), some (.int p), some (sTab t), some (sSgs sg), some (.int w), some (sTabs ts), some (sSt st), some (sSt kp), some (.loc 1), some (.loc 2), some (.loc 3), some (.loc 4), some (.loc 5), some (.loc 6), none, none, none, none, some (sSt a), some (sSt b), none, none, none, none], [dr ds11, .lst (pl.map sSt), .lst (pl.map fun x => sRows (tabR p (valF (.p p)) (fun _ _ => 1) t (cF x))), .lst (pl.map fun x => sRows (tabR (2 ^ m) (plF m (2 ^ m)) (siF m) sg (cF x))), .lst (pl.map fun x => sRows (lvR m (cF x))), .lst (pl.map fun x => iS (nuR m (cF x))), .lst (pl.map fun x => sHv m (cF x))]) := by
    clear hpl hP j0 hab
    simp only [s_law_l0_17]
    walk_at "dvh"
  clear x1
  have x1 := fun μ => joined_ok (k := k) (by omega) G0a (B := tabR (2 ^ m) (plF m (2 ^ m)) (siF m) sg (cF b)) μ
  rw [sum_tab hab] at x1
  have x3 := fun μ => same_rows G0 k μ (by omega)
  have z18 : run (callK tb gl k) gl s_law_l0_18 [some (sc), some (.loc 0), some (tn), some (.int m), some (.int p), some (sTab t), some (sSgs sg), some (.int w), some (sTabs ts), some (sSt st), some (sSt kp), some (.loc 1), some (.loc 2), some (.loc 3), some (.loc 4), some (.loc 5), some (.loc 6), none, none, none, none, some (sSt a), some (sSt b), none, none, none, none] [dr ds11, .lst (pl.map sSt), .lst (pl.map fun x => sRows (tabR p (valF (.p p)) (fun _ _ => 1) t (cF x))), .lst (pl.map fun x => sRows (tabR (2 ^ m) (plF m (2 ^ m)) (siF m) sg (cF x))), .lst (pl.map fun x => sRows (lvR m (cF x))), .lst (pl.map fun x => iS (nuR m (cF x))), .lst (pl.map fun x => sHv m (cF x))] = some (.nx, [some (sc), some (.loc 0), some (tn), some (.int m), some (.int p), some (sTab t), some (sSgs sg), some (.int w), some (sTabs ts), some (sSt st), some (sSt kp), some (.loc 1), some (.loc 2), some (.loc 3), some (.loc 4), some (.loc 5), some (.loc 6), none, none, none, none, some (sSt a), some (sSt b), none, none, none, none], [dr ds11, .lst (pl.map sSt), .lst (pl.map fun x => sRows (tabR p (valF (.p p)) (fun _ _ => 1) t (cF x))), .lst (pl.map fun x => sRows (tabR (2 ^ m) (plF m (2 ^ m)) (siF m) sg (cF x))), .lst (pl.map fun x => sRows (lvR m (cF x))), .lst (pl.map fun x => iS (nuR m (cF x))), .lst (pl.map fun x => sHv m (cF x))]) := by
    clear hpl hP j0 hab
    simp only [s_law_l0_18]
    walk_at "dvh"
  clear x1 x3
  have x1 := fun μ => ltable_ok hF (k := k) (by omega) ht (s := st) μ
  rw [← tabR_cF] at x1
  have z19 : run (callK tb gl k) gl s_law_l0_19 [some (sc), some (.loc 0), some (tn), some (.int m), some (.int p), some (sTab t), some (sSgs sg), some (.int w), some (sTabs ts), some (sSt st), some (sSt kp), some (.loc 1), some (.loc 2), some (.loc 3), some (.loc 4), some (.loc 5), some (.loc 6), none, none, none, none, some (sSt a), some (sSt b), none, none, none, none] [dr ds11, .lst (pl.map sSt), .lst (pl.map fun x => sRows (tabR p (valF (.p p)) (fun _ _ => 1) t (cF x))), .lst (pl.map fun x => sRows (tabR (2 ^ m) (plF m (2 ^ m)) (siF m) sg (cF x))), .lst (pl.map fun x => sRows (lvR m (cF x))), .lst (pl.map fun x => iS (nuR m (cF x))), .lst (pl.map fun x => sHv m (cF x))] = some (.nx, [some (sc), some (.loc 0), some (tn), some (.int m), some (.int p), some (sTab t), some (sSgs sg), some (.int w), some (sTabs ts), some (sSt st), some (sSt kp), some (.loc 1), some (.loc 2), some (.loc 3), some (.loc 4), some (.loc 5), some (.loc 6), none, none, none, none, some (sSt a), some (sSt b), none, none, none, none], [dr ds11, .lst (pl.map sSt), .lst (pl.map fun x => sRows (tabR p (valF (.p p)) (fun _ _ => 1) t (cF x))), .lst (pl.map fun x => sRows (tabR (2 ^ m) (plF m (2 ^ m)) (siF m) sg (cF x))), .lst (pl.map fun x => sRows (lvR m (cF x))), .lst (pl.map fun x => iS (nuR m (cF x))), .lst (pl.map fun x => sHv m (cF x))]) := by
    clear hpl hP j0 hab
    simp only [s_law_l0_19]
    walk_at "dvh"
  clear x1 x2
  have x1 := fun μ => sumrows_ok (k := k) (by omega) (A := [nuR m (cF a)]) (B := [nuR m (cF b)]) ⟨by simp, fun x hx => by simp only [List.mem_cons, List.not_mem_nil, or_false] at hx; subst hx; rw [nu_len]; omega⟩ (by simp [Alike, nu_len]) μ
  have x0 : addRs [nuR m (cF a)] [nuR m (cF b)] = [nuR m (cF st)] := by rw [← sum_nu hab]; rfl
  rw [x0] at x1
  simp only [sRows, List.map_cons, List.map_nil] at x1
  have x2 := fun μ => same_row N0 k μ (by omega)
  have x4 : L2.atI [iS (nuR m (cF st))] 0 = some (iS (nuR m (cF st))) := rfl
  have z20 : run (callK tb gl k) gl s_law_l0_20 [some (sc), some (.loc 0), some (tn), some (.int m), some (.int p), some (sTab t), some (sSgs sg), some (.int w), some (sTabs ts), some (sSt st), some (sSt kp), some (.loc 1), some (.loc 2), some (.loc 3), some (.loc 4), some (.loc 5), some (.loc 6), none, none, none, none, some (sSt a), some (sSt b), none, none, none, none] [dr ds11, .lst (pl.map sSt), .lst (pl.map fun x => sRows (tabR p (valF (.p p)) (fun _ _ => 1) t (cF x))), .lst (pl.map fun x => sRows (tabR (2 ^ m) (plF m (2 ^ m)) (siF m) sg (cF x))), .lst (pl.map fun x => sRows (lvR m (cF x))), .lst (pl.map fun x => iS (nuR m (cF x))), .lst (pl.map fun x => sHv m (cF x))] = some (.nx, [some (sc), some (.loc 0), some (tn), some (.int m), some (.int p), some (sTab t), some (sSgs sg), some (.int w), some (sTabs ts), some (sSt st), some (sSt kp), some (.loc 1), some (.loc 2), some (.loc 3), some (.loc 4), some (.loc 5), some (.loc 6), none, none, none, none, some (sSt a), some (sSt b), none, none, none, none], [dr ds11, .lst (pl.map sSt), .lst (pl.map fun x => sRows (tabR p (valF (.p p)) (fun _ _ => 1) t (cF x))), .lst (pl.map fun x => sRows (tabR (2 ^ m) (plF m (2 ^ m)) (siF m) sg (cF x))), .lst (pl.map fun x => sRows (lvR m (cF x))), .lst (pl.map fun x => iS (nuR m (cF x))), .lst (pl.map fun x => sHv m (cF x))]) := by
    clear hpl hP j0 hab x0
    simp only [s_law_l0_20]
    walk_at "dvh"
  clear x0 x1 x2 x4
  have x1 := fun μ => sumrows_ok (k := k) (by omega) (A := dfR m (cF a)) (B := dfR m (cF b)) (small_df hm1.2) alike_df μ
  rw [sum_df hab] at x1
  have x2 := fun μ => same_rows (small_df hm1.2 (s := cF st)) k μ (by omega)
  have x3 := fun μ => size_ok (k := k) (by omega) (s := st) (by omega) μ
  rw [← sz_eq hsb] at x3
  have x4 : ∀ x : Stm, L2.atI [S.int (szR m x), sRows (dfR m x)] 0 = some (.int (szR m x)) := fun _ => rfl
  have x5 : ∀ x : Stm, L2.atI [S.int (szR m x), sRows (dfR m x)] 1 = some (sRows (dfR m x)) := fun _ => rfl
  have z21 : run (callK tb gl k) gl s_law_l0_21 [some (sc), some (.loc 0), some (tn), some (.int m), some (.int p), some (sTab t), some (sSgs sg), some (.int w), some (sTabs ts), some (sSt st), some (sSt kp), some (.loc 1), some (.loc 2), some (.loc 3), some (.loc 4), some (.loc 5), some (.loc 6), none, none, none, none, some (sSt a), some (sSt b), none, none, none, none] [dr ds11, .lst (pl.map sSt), .lst (pl.map fun x => sRows (tabR p (valF (.p p)) (fun _ _ => 1) t (cF x))), .lst (pl.map fun x => sRows (tabR (2 ^ m) (plF m (2 ^ m)) (siF m) sg (cF x))), .lst (pl.map fun x => sRows (lvR m (cF x))), .lst (pl.map fun x => iS (nuR m (cF x))), .lst (pl.map fun x => sHv m (cF x))] = some (.nx, [some (sc), some (.loc 0), some (tn), some (.int m), some (.int p), some (sTab t), some (sSgs sg), some (.int w), some (sTabs ts), some (sSt st), some (sSt kp), some (.loc 1), some (.loc 2), some (.loc 3), some (.loc 4), some (.loc 5), some (.loc 6), none, none, none, none, some (sSt a), some (sSt b), none, none, none, none], [dr ds11, .lst (pl.map sSt), .lst (pl.map fun x => sRows (tabR p (valF (.p p)) (fun _ _ => 1) t (cF x))), .lst (pl.map fun x => sRows (tabR (2 ^ m) (plF m (2 ^ m)) (siF m) sg (cF x))), .lst (pl.map fun x => sRows (lvR m (cF x))), .lst (pl.map fun x => iS (nuR m (cF x))), .lst (pl.map fun x => sHv m (cF x))]) := by
    clear hpl hP j0 hab
    simp only [s_law_l0_21]
    walk_at "dvh"
  clear x1 x2 x3 x4 x5
  obtain ⟨a', b', ds12, hab', e22⟩ := cut_ok (k := k) (by omega) (s := kp) (by omega) ds11 [.lst (pl.map sSt), .lst (pl.map fun x => sRows (tabR p (valF (.p p)) (fun _ _ => 1) t (cF x))), .lst (pl.map fun x => sRows (tabR (2 ^ m) (plF m (2 ^ m)) (siF m) sg (cF x))), .lst (pl.map fun x => sRows (lvR m (cF x))), .lst (pl.map fun x => iS (nuR m (cF x))), .lst (pl.map fun x => sHv m (cF x))]
  have hal' : a'.length < 64 := by have := congrArg List.length hab'; rw [List.length_append] at this; omega
  have z22 : run (callK tb gl k) gl s_law_l0_22 [some (sc), some (.loc 0), some (tn), some (.int m), some (.int p), some (sTab t), some (sSgs sg), some (.int w), some (sTabs ts), some (sSt st), some (sSt kp), some (.loc 1), some (.loc 2), some (.loc 3), some (.loc 4), some (.loc 5), some (.loc 6), none, none, none, none, some (sSt a), some (sSt b), none, none, none, none] [dr ds11, .lst (pl.map sSt), .lst (pl.map fun x => sRows (tabR p (valF (.p p)) (fun _ _ => 1) t (cF x))), .lst (pl.map fun x => sRows (tabR (2 ^ m) (plF m (2 ^ m)) (siF m) sg (cF x))), .lst (pl.map fun x => sRows (lvR m (cF x))), .lst (pl.map fun x => iS (nuR m (cF x))), .lst (pl.map fun x => sHv m (cF x))] = some (.nx, [some (sc), some (.loc 0), some (tn), some (.int m), some (.int p), some (sTab t), some (sSgs sg), some (.int w), some (sTabs ts), some (sSt st), some (sSt kp), some (.loc 1), some (.loc 2), some (.loc 3), some (.loc 4), some (.loc 5), some (.loc 6), none, none, none, none, some (sSt a'), some (sSt b'), none, none, none, none], [dr ds12, .lst (pl.map sSt), .lst (pl.map fun x => sRows (tabR p (valF (.p p)) (fun _ _ => 1) t (cF x))), .lst (pl.map fun x => sRows (tabR (2 ^ m) (plF m (2 ^ m)) (siF m) sg (cF x))), .lst (pl.map fun x => sRows (lvR m (cF x))), .lst (pl.map fun x => iS (nuR m (cF x))), .lst (pl.map fun x => sHv m (cF x))]) := by
    clear hpl hP j0 hab hab' i0 i1 i2 i3
    simp only [s_law_l0_22]
    walk_at "dvh"
  clear e22
  have hpl2 : ∀ x ∈ [a', kp], x.length < 64 := fun x hx => by
    simp only [List.mem_cons, List.not_mem_nil, or_false] at hx
    rcases hx with rfl | rfl
    · exact hal'
    · omega
  have C23 := lc_map (gs := []) (body := lbd (callK tb gl k) gl (.call Ix.bit_cells false (.cons (.var 23) (.cons (.var 5) (.cons (.var 4) (.cons (.var 7) .nil))))) [23] (.nm 23) (.k (.bl true)) [some (sc), some (.loc 0), some (tn), some (.int m), some (.int p), some (sTab t), some (sSgs sg), some (.int w), some (sTabs ts), some (sSt st), some (sSt kp), some (.loc 1), some (.loc 2), some (.loc 3), some (.loc 4), some (.loc 5), some (.loc 6), none, none, none, none, some (sSt a'), some (sSt b'), none, none, none, none]) (μ := [dr ds12, .lst (pl.map sSt), .lst (pl.map fun x => sRows (tabR p (valF (.p p)) (fun _ _ => 1) t (cF x))), .lst (pl.map fun x => sRows (tabR (2 ^ m) (plF m (2 ^ m)) (siF m) sg (cF x))), .lst (pl.map fun x => sRows (lvR m (cF x))), .lst (pl.map fun x => iS (nuR m (cF x))), .lst (pl.map fun x => sHv m (cF x))]) sSt (fun x => sCells (bitR p w t (cF x))) rfl [a', kp] (fun x hx => by
    have hx1 := hpl2 x hx
    have e := fun μ => bit_cells_ok hF (k := k) (by omega) ht hw2 hx1 μ
    clear hpl hpl2 hx j0 hP hab hab' i0 i1 i2 i3
    simp only [lbd_at]
    walk_at "dvh") [] (by simp [LINE])
  have z23 : run (callK tb gl k) gl s_law_l0_23 [some (sc), some (.loc 0), some (tn), some (.int m), some (.int p), some (sTab t), some (sSgs sg), some (.int w), some (sTabs ts), some (sSt st), some (sSt kp), some (.loc 1), some (.loc 2), some (.loc 3), some (.loc 4), some (.loc 5), some (.loc 6), none, none, none, none, some (sSt a'), some (sSt b'), none, none, none, none] [dr ds12, .lst (pl.map sSt), .lst (pl.map fun x => sRows (tabR p (valF (.p p)) (fun _ _ => 1) t (cF x))), .lst (pl.map fun x => sRows (tabR (2 ^ m) (plF m (2 ^ m)) (siF m) sg (cF x))), .lst (pl.map fun x => sRows (lvR m (cF x))), .lst (pl.map fun x => iS (nuR m (cF x))), .lst (pl.map fun x => sHv m (cF x))] = some (.nx, [some (sc), some (.loc 0), some (tn), some (.int m), some (.int p), some (sTab t), some (sSgs sg), some (.int w), some (sTabs ts), some (sSt st), some (sSt kp), some (.loc 1), some (.loc 2), some (.loc 3), some (.loc 4), some (.loc 5), some (.loc 6), none, some (.loc 7), none, none, some (sSt a'), some (sSt b'), none, none, none, none], [dr ds12, .lst (pl.map sSt), .lst (pl.map fun x => sRows (tabR p (valF (.p p)) (fun _ _ => 1) t (cF x))), .lst (pl.map fun x => sRows (tabR (2 ^ m) (plF m (2 ^ m)) (siF m) sg (cF x))), .lst (pl.map fun x => sRows (lvR m (cF x))), .lst (pl.map fun x => iS (nuR m (cF x))), .lst (pl.map fun x => sHv m (cF x)), .lst [sCells (bitR p w t (cF a')), sCells (bitR p w t (cF kp))]]) := by
    simp only [List.map_cons, List.map_nil] at C23 ⊢
    clear hpl hpl2 j0 hP hab hab' i0 i1 i2 i3
    simp only [s_law_l0_23]
    walk_at "dvh"
  clear C23
  have x1 := fun μ => lbit_cells_ok hF (k := k) (by omega) ht hw2 (s := b') μ
  have z24 : run (callK tb gl k) gl s_law_l0_24 [some (sc), some (.loc 0), some (tn), some (.int m), some (.int p), some (sTab t), some (sSgs sg), some (.int w), some (sTabs ts), some (sSt st), some (sSt kp), some (.loc 1), some (.loc 2), some (.loc 3), some (.loc 4), some (.loc 5), some (.loc 6), none, some (.loc 7), none, none, some (sSt a'), some (sSt b'), none, none, none, none] [dr ds12, .lst (pl.map sSt), .lst (pl.map fun x => sRows (tabR p (valF (.p p)) (fun _ _ => 1) t (cF x))), .lst (pl.map fun x => sRows (tabR (2 ^ m) (plF m (2 ^ m)) (siF m) sg (cF x))), .lst (pl.map fun x => sRows (lvR m (cF x))), .lst (pl.map fun x => iS (nuR m (cF x))), .lst (pl.map fun x => sHv m (cF x)), .lst [sCells (bitR p w t (cF a')), sCells (bitR p w t (cF kp))]] = some (.nx, [some (sc), some (.loc 0), some (tn), some (.int m), some (.int p), some (sTab t), some (sSgs sg), some (.int w), some (sTabs ts), some (sSt st), some (sSt kp), some (.loc 1), some (.loc 2), some (.loc 3), some (.loc 4), some (.loc 5), some (.loc 6), none, some (.loc 7), some (sCells (bitR p w t b')), none, some (sSt a'), some (sSt b'), none, none, none, none], [dr ds12, .lst (pl.map sSt), .lst (pl.map fun x => sRows (tabR p (valF (.p p)) (fun _ _ => 1) t (cF x))), .lst (pl.map fun x => sRows (tabR (2 ^ m) (plF m (2 ^ m)) (siF m) sg (cF x))), .lst (pl.map fun x => sRows (lvR m (cF x))), .lst (pl.map fun x => iS (nuR m (cF x))), .lst (pl.map fun x => sHv m (cF x)), .lst [sCells (bitR p w t (cF a')), sCells (bitR p w t (cF kp))]]) := by
    clear hpl hpl2 j0 hP hab hab' i0 i1 i2 i3
    simp only [s_law_l0_24]
    walk_at "dvh"
  clear x1
  have B0 : ∀ s : Stm, (bitR p w t s).length ≤ 1000 ∧ ∀ a ∈ bitR p w t s, Small a := fun s => small_bit (by omega) (by omega) ht.1
  have x1 := fun μ => jcells_ok (k := k) (by omega) (B0 (cF a')) (B := bitR p w t b') μ
  rw [sum_bit hab'] at x1
  have x2 := fun μ => same_cells (B0 (cF kp)) k μ (by omega)
  have x3 : L2.atI [sCells (bitR p w t (cF a')), sCells (bitR p w t (cF kp))] 0 = some (sCells (bitR p w t (cF a'))) := rfl
  have x4 : L2.atI [sCells (bitR p w t (cF a')), sCells (bitR p w t (cF kp))] 1 = some (sCells (bitR p w t (cF kp))) := rfl
  have z25 : run (callK tb gl k) gl s_law_l0_25 [some (sc), some (.loc 0), some (tn), some (.int m), some (.int p), some (sTab t), some (sSgs sg), some (.int w), some (sTabs ts), some (sSt st), some (sSt kp), some (.loc 1), some (.loc 2), some (.loc 3), some (.loc 4), some (.loc 5), some (.loc 6), none, some (.loc 7), some (sCells (bitR p w t b')), none, some (sSt a'), some (sSt b'), none, none, none, none] [dr ds12, .lst (pl.map sSt), .lst (pl.map fun x => sRows (tabR p (valF (.p p)) (fun _ _ => 1) t (cF x))), .lst (pl.map fun x => sRows (tabR (2 ^ m) (plF m (2 ^ m)) (siF m) sg (cF x))), .lst (pl.map fun x => sRows (lvR m (cF x))), .lst (pl.map fun x => iS (nuR m (cF x))), .lst (pl.map fun x => sHv m (cF x)), .lst [sCells (bitR p w t (cF a')), sCells (bitR p w t (cF kp))]] = some (.nx, [some (sc), some (.loc 0), some (tn), some (.int m), some (.int p), some (sTab t), some (sSgs sg), some (.int w), some (sTabs ts), some (sSt st), some (sSt kp), some (.loc 1), some (.loc 2), some (.loc 3), some (.loc 4), some (.loc 5), some (.loc 6), none, some (.loc 7), some (sCells (bitR p w t b')), none, some (sSt a'), some (sSt b'), none, none, none, none], [dr ds12, .lst (pl.map sSt), .lst (pl.map fun x => sRows (tabR p (valF (.p p)) (fun _ _ => 1) t (cF x))), .lst (pl.map fun x => sRows (tabR (2 ^ m) (plF m (2 ^ m)) (siF m) sg (cF x))), .lst (pl.map fun x => sRows (lvR m (cF x))), .lst (pl.map fun x => iS (nuR m (cF x))), .lst (pl.map fun x => sHv m (cF x)), .lst [sCells (bitR p w t (cF a')), sCells (bitR p w t (cF kp))]]) := by
    clear hpl hpl2 j0 hP hab hab' i0 i1 i2 i3
    simp only [s_law_l0_25]
    walk_at "dvh"
  clear x1 x2 x3 x4
  have C26 := lc_map (gs := [(1, .lst (pl.map sSt))]) (body := lbd (callK tb gl k) gl (.call Ix.ranged_counters false (.cons (.var 23) (.cons (.var 8) (.cons (.var 4) (.cons (.var 7) (.cons (.var 3) .nil)))))) [23] (.nm 23) (.k (.bl true)) [some (sc), some (.loc 0), some (tn), some (.int m), some (.int p), some (sTab t), some (sSgs sg), some (.int w), some (sTabs ts), some (sSt st), some (sSt kp), some (.loc 1), some (.loc 2), some (.loc 3), some (.loc 4), some (.loc 5), some (.loc 6), none, some (.loc 7), some (sCells (bitR p w t b')), none, some (sSt a'), some (sSt b'), none, none, none, none]) (μ := [dr ds12, .lst (pl.map sSt), .lst (pl.map fun x => sRows (tabR p (valF (.p p)) (fun _ _ => 1) t (cF x))), .lst (pl.map fun x => sRows (tabR (2 ^ m) (plF m (2 ^ m)) (siF m) sg (cF x))), .lst (pl.map fun x => sRows (lvR m (cF x))), .lst (pl.map fun x => iS (nuR m (cF x))), .lst (pl.map fun x => sHv m (cF x)), .lst [sCells (bitR p w t (cF a')), sCells (bitR p w t (cF kp))]]) sSt (fun x => sCells (rngR p w m ts (cF x))) (by rw [gOk_one]; exact decide_eq_true rfl) pl (fun x hx => by
    obtain ⟨hx1, hx2⟩ := hpl x hx
    have e : ∀ μ, _ := fun μ => ranged_ok hF (k := k) (by omega) (m := m) (by omega) hw2 htl hts hx1 hx2 μ
    clear hpl hx hP
    simp only [lbd_at]
    walk_at "dvh") [] (by rw [← hP]; simp [LINE])
  have z26 : run (callK tb gl k) gl s_law_l0_26 [some (sc), some (.loc 0), some (tn), some (.int m), some (.int p), some (sTab t), some (sSgs sg), some (.int w), some (sTabs ts), some (sSt st), some (sSt kp), some (.loc 1), some (.loc 2), some (.loc 3), some (.loc 4), some (.loc 5), some (.loc 6), none, some (.loc 7), some (sCells (bitR p w t b')), none, some (sSt a'), some (sSt b'), none, none, none, none] [dr ds12, .lst (pl.map sSt), .lst (pl.map fun x => sRows (tabR p (valF (.p p)) (fun _ _ => 1) t (cF x))), .lst (pl.map fun x => sRows (tabR (2 ^ m) (plF m (2 ^ m)) (siF m) sg (cF x))), .lst (pl.map fun x => sRows (lvR m (cF x))), .lst (pl.map fun x => iS (nuR m (cF x))), .lst (pl.map fun x => sHv m (cF x)), .lst [sCells (bitR p w t (cF a')), sCells (bitR p w t (cF kp))]] = some (.nx, [some (sc), some (.loc 0), some (tn), some (.int m), some (.int p), some (sTab t), some (sSgs sg), some (.int w), some (sTabs ts), some (sSt st), some (sSt kp), some (.loc 1), some (.loc 2), some (.loc 3), some (.loc 4), some (.loc 5), some (.loc 6), none, some (.loc 7), some (sCells (bitR p w t b')), some (.loc 8), some (sSt a'), some (sSt b'), none, none, none, none], [dr ds12, .lst (pl.map sSt), .lst (pl.map fun x => sRows (tabR p (valF (.p p)) (fun _ _ => 1) t (cF x))), .lst (pl.map fun x => sRows (tabR (2 ^ m) (plF m (2 ^ m)) (siF m) sg (cF x))), .lst (pl.map fun x => sRows (lvR m (cF x))), .lst (pl.map fun x => iS (nuR m (cF x))), .lst (pl.map fun x => sHv m (cF x)), .lst [sCells (bitR p w t (cF a')), sCells (bitR p w t (cF kp))], .lst (pl.map fun x => sCells (rngR p w m ts (cF x)))]) := by
    clear hpl hP
    simp only [s_law_l0_26]
    walk_at "dvh"
  clear C26
  have R0 : (rngR p w m ts (cF st)).length ≤ 1000 ∧ ∀ a ∈ rngR p w m ts (cF st), Small a := small_rng (by omega) (by omega) (fun t ht => (hts t ht).1)
  have x1 := fun μ => same_cells R0 k μ (by omega)
  have z27 : run (callK tb gl k) gl s_law_l0_27 [some (sc), some (.loc 0), some (tn), some (.int m), some (.int p), some (sTab t), some (sSgs sg), some (.int w), some (sTabs ts), some (sSt st), some (sSt kp), some (.loc 1), some (.loc 2), some (.loc 3), some (.loc 4), some (.loc 5), some (.loc 6), none, some (.loc 7), some (sCells (bitR p w t b')), some (.loc 8), some (sSt a'), some (sSt b'), none, none, none, none] [dr ds12, .lst (pl.map sSt), .lst (pl.map fun x => sRows (tabR p (valF (.p p)) (fun _ _ => 1) t (cF x))), .lst (pl.map fun x => sRows (tabR (2 ^ m) (plF m (2 ^ m)) (siF m) sg (cF x))), .lst (pl.map fun x => sRows (lvR m (cF x))), .lst (pl.map fun x => iS (nuR m (cF x))), .lst (pl.map fun x => sHv m (cF x)), .lst [sCells (bitR p w t (cF a')), sCells (bitR p w t (cF kp))], .lst (pl.map fun x => sCells (rngR p w m ts (cF x)))] = some (.nx, [some (sc), some (.loc 0), some (tn), some (.int m), some (.int p), some (sTab t), some (sSgs sg), some (.int w), some (sTabs ts), some (sSt st), some (sSt kp), some (.loc 1), some (.loc 2), some (.loc 3), some (.loc 4), some (.loc 5), some (.loc 6), none, some (.loc 7), some (sCells (bitR p w t b')), some (.loc 8), some (sSt a'), some (sSt b'), none, none, none, none], [dr ds12, .lst (pl.map sSt), .lst (pl.map fun x => sRows (tabR p (valF (.p p)) (fun _ _ => 1) t (cF x))), .lst (pl.map fun x => sRows (tabR (2 ^ m) (plF m (2 ^ m)) (siF m) sg (cF x))), .lst (pl.map fun x => sRows (lvR m (cF x))), .lst (pl.map fun x => iS (nuR m (cF x))), .lst (pl.map fun x => sHv m (cF x)), .lst [sCells (bitR p w t (cF a')), sCells (bitR p w t (cF kp))], .lst (pl.map fun x => sCells (rngR p w m ts (cF x)))]) := by
    clear hpl hpl2 j0 hP hab hab'
    simp only [s_law_l0_27]
    walk_at "dvh"
  have r0 := fun i (hi : i < m + 1) => rng_at (p := p) (w := w) htl hi (s := cF a)
  have r1 := fun i (hi : i < m + 1) => rng_at (p := p) (w := w) htl hi (s := cF b)
  have r2 := fun i (hi : i < m + 1) => rng_at (p := p) (w := w) htl hi (s := cF st)
  have en : (((m : Int) + 1).toNat) = m + 1 := by omega
  have hb1 : b62 ((m : Int) + 1) = true := by simp only [b62, Bool.and_eq_true, decide_eq_true_eq]; omega
  have C28 := lc_rng (gs := []) (body := lbd (callK tb gl k) gl (.call Ix.law_sum_of_rows true (.cons (.lc (.ix (.ix (.var 20) (.var 26)) (.var 25)) [26] (.nm 26) (.rng1 (.k (.int 3))) (.k (.bl true))) .nil)) [25] (.nm 25) (.k (.bl true)) [some (sc), some (.loc 0), some (tn), some (.int m), some (.int p), some (sTab t), some (sSgs sg), some (.int w), some (sTabs ts), some (sSt st), some (sSt kp), some (.loc 1), some (.loc 2), some (.loc 3), some (.loc 4), some (.loc 5), some (.loc 6), none, some (.loc 7), some (sCells (bitR p w t b')), some (.loc 8), some (sSt a'), some (sSt b'), none, none, none, none]) (fun _ => S.bl true) (fun _ => [dr ds12, .lst (pl.map sSt), .lst (pl.map fun x => sRows (tabR p (valF (.p p)) (fun _ _ => 1) t (cF x))), .lst (pl.map fun x => sRows (tabR (2 ^ m) (plF m (2 ^ m)) (siF m) sg (cF x))), .lst (pl.map fun x => sRows (lvR m (cF x))), .lst (pl.map fun x => iS (nuR m (cF x))), .lst (pl.map fun x => sHv m (cF x)), .lst [sCells (bitR p w t (cF a')), sCells (bitR p w t (cF kp))], .lst (pl.map fun x => sCells (rngR p w m ts (cF x)))]) (m + 1) (by simp only [LINE]; omega) (fun _ => rfl) (fun i hi => by
    have r0 := r0 i hi
    have r1 := r1 i hi
    have r2 := r2 i hi
    have hti : i < ts.length := by omega
    have hsm : Small (rngA p w ts i (cF a)) := small_tab (hts _ (getD_mem hti)).1 (by omega)
    have hsum : addRs (rngA p w ts i (cF a)) (rngA p w ts i (cF b)) = rngA p w ts i (cF st) := sum_tab hab
    have y := sum3_ok (k := k) (by omega) hsm (alike_tab (b := cF b)) hsum [sRows (rngA p w ts i (cF a)), sRows (rngA p w ts i (cF b)), sRows (rngA p w ts i (cF st))] ⟨rfl, rfl, rfl⟩ [dr ds12, .lst (pl.map sSt), .lst (pl.map fun x => sRows (tabR p (valF (.p p)) (fun _ _ => 1) t (cF x))), .lst (pl.map fun x => sRows (tabR (2 ^ m) (plF m (2 ^ m)) (siF m) sg (cF x))), .lst (pl.map fun x => sRows (lvR m (cF x))), .lst (pl.map fun x => iS (nuR m (cF x))), .lst (pl.map fun x => sHv m (cF x)), .lst [sCells (bitR p w t (cF a')), sCells (bitR p w t (cF kp))], .lst (pl.map fun x => sCells (rngR p w m ts (cF x))), .lst [sRows (rngA p w ts i (cF a)), sRows (rngA p w ts i (cF b)), sRows (rngA p w ts i (cF st))]] 9 rfl
    have C := lc_map (gs := []) (body := lbd (callK tb gl k) gl (.ix (.ix (.var 20) (.var 26)) (.var 25)) [26] (.nm 26) (.k (.bl true)) [some (sc), some (.loc 0), some (tn), some (.int m), some (.int p), some (sTab t), some (sSgs sg), some (.int w), some (sTabs ts), some (sSt st), some (sSt kp), some (.loc 1), some (.loc 2), some (.loc 3), some (.loc 4), some (.loc 5), some (.loc 6), none, some (.loc 7), some (sCells (bitR p w t b')), some (.loc 8), some (sSt a'), some (sSt b'), none, none, some (.int i), none]) (μ := [dr ds12, .lst (pl.map sSt), .lst (pl.map fun x => sRows (tabR p (valF (.p p)) (fun _ _ => 1) t (cF x))), .lst (pl.map fun x => sRows (tabR (2 ^ m) (plF m (2 ^ m)) (siF m) sg (cF x))), .lst (pl.map fun x => sRows (lvR m (cF x))), .lst (pl.map fun x => iS (nuR m (cF x))), .lst (pl.map fun x => sHv m (cF x)), .lst [sCells (bitR p w t (cF a')), sCells (bitR p w t (cF kp))], .lst (pl.map fun x => sCells (rngR p w m ts (cF x)))]) (fun j : Nat => nI j) (fun j => [sRows (rngA p w ts i (cF a)), sRows (rngA p w ts i (cF b)), sRows (rngA p w ts i (cF st))].getD j .non) rfl [0, 1, 2] (fun j hj => by
      simp only [List.mem_cons, List.not_mem_nil, or_false] at hj
      clear y hsm hsum hpl hpl2 j0 hP hab hab' R0 x1
      rcases hj with rfl | rfl | rfl
      all_goals
        simp only [lbd_at]
        walk_at "dvh"
        first | rfl | (simp only [nI, Int.natCast_zero, Int.natCast_one, Int.cast_ofNat_Int]; walk_at "dvh"; rfl)) [] (by simp [LINE])
    have e3 : rngI 0 1 (Int.toNat 3) = [0, 1, 2].map fun j : Nat => nI j := rfl
    have e4 : [0, 1, 2].map (fun j => [sRows (rngA p w ts i (cF a)), sRows (rngA p w ts i (cF b)), sRows (rngA p w ts i (cF st))].getD j .non) = [sRows (rngA p w ts i (cF a)), sRows (rngA p w ts i (cF b)), sRows (rngA p w ts i (cF st))] := rfl
    rw [e4] at C
    simp only [List.map_cons, List.map_nil] at C
    have hb3 : b62 3 = true := rfl
    clear hpl hpl2 j0 hP hab hab' R0 hsm hsum x1 r0 r1 r2 i0 i1 i2 i3 e4
    simp only [lbd_at]
    walk_at "dvh")
  have hmem : ∀ μ : Sto, memB (.s (.bl false)) (.new (.lst ((List.range (m + 1)).map fun _ => S.bl true))) μ = some false := fun μ => by
    have h1 : ((List.range (m + 1)).map fun _ => S.bl true).all flat = true := by simp [flat]
    have h2 : (((List.range (m + 1)).map fun _ => S.bl true).any fun y => feq y (.bl false)) = false := by simp [feq]
    have h3 : memB (.s (.bl false)) (.new (.lst ((List.range (m + 1)).map fun _ => S.bl true))) μ = if flat (.bl false) = true ∧ ((List.range (m + 1)).map fun _ => S.bl true).all flat = true then some (((List.range (m + 1)).map fun _ => S.bl true).any fun y => feq y (.bl false)) else none := rfl
    rw [h3, if_pos ⟨rfl, h1⟩, h2]
  have z28 : run (callK tb gl k) gl s_law_l0_28 [some (sc), some (.loc 0), some (tn), some (.int m), some (.int p), some (sTab t), some (sSgs sg), some (.int w), some (sTabs ts), some (sSt st), some (sSt kp), some (.loc 1), some (.loc 2), some (.loc 3), some (.loc 4), some (.loc 5), some (.loc 6), none, some (.loc 7), some (sCells (bitR p w t b')), some (.loc 8), some (sSt a'), some (sSt b'), none, none, none, none] [dr ds12, .lst (pl.map sSt), .lst (pl.map fun x => sRows (tabR p (valF (.p p)) (fun _ _ => 1) t (cF x))), .lst (pl.map fun x => sRows (tabR (2 ^ m) (plF m (2 ^ m)) (siF m) sg (cF x))), .lst (pl.map fun x => sRows (lvR m (cF x))), .lst (pl.map fun x => iS (nuR m (cF x))), .lst (pl.map fun x => sHv m (cF x)), .lst [sCells (bitR p w t (cF a')), sCells (bitR p w t (cF kp))], .lst (pl.map fun x => sCells (rngR p w m ts (cF x)))] = some (.nx, [some (sc), some (.loc 0), some (tn), some (.int m), some (.int p), some (sTab t), some (sSgs sg), some (.int w), some (sTabs ts), some (sSt st), some (sSt kp), some (.loc 1), some (.loc 2), some (.loc 3), some (.loc 4), some (.loc 5), some (.loc 6), none, some (.loc 7), some (sCells (bitR p w t b')), some (.loc 8), some (sSt a'), some (sSt b'), none, none, none, none], [dr ds12, .lst (pl.map sSt), .lst (pl.map fun x => sRows (tabR p (valF (.p p)) (fun _ _ => 1) t (cF x))), .lst (pl.map fun x => sRows (tabR (2 ^ m) (plF m (2 ^ m)) (siF m) sg (cF x))), .lst (pl.map fun x => sRows (lvR m (cF x))), .lst (pl.map fun x => iS (nuR m (cF x))), .lst (pl.map fun x => sHv m (cF x)), .lst [sCells (bitR p w t (cF a')), sCells (bitR p w t (cF kp))], .lst (pl.map fun x => sCells (rngR p w m ts (cF x)))]) := by
    clear hpl hpl2 j0 hP hab hab' R0 x1 r0 r1 r2 i0 i1 i2 i3 hLI
    have c_mem : ∀ (a b : D) (μ : Sto), cop .mem a b μ = memB a b μ := fun _ _ _ => rfl
    simp only [s_law_l0_28]
    walk_at "dvh"
  clear C28 r0 r1 r2
  have x3 := fun μ => lranged_ok hF (k := k) (by omega) (m := m) (by omega) hw2 htl hts (s := st) μ
  rw [← rng_cF] at x3
  have z29 : run (callK tb gl k) gl s_law_l0_29 [some (sc), some (.loc 0), some (tn), some (.int m), some (.int p), some (sTab t), some (sSgs sg), some (.int w), some (sTabs ts), some (sSt st), some (sSt kp), some (.loc 1), some (.loc 2), some (.loc 3), some (.loc 4), some (.loc 5), some (.loc 6), none, some (.loc 7), some (sCells (bitR p w t b')), some (.loc 8), some (sSt a'), some (sSt b'), none, none, none, none] [dr ds12, .lst (pl.map sSt), .lst (pl.map fun x => sRows (tabR p (valF (.p p)) (fun _ _ => 1) t (cF x))), .lst (pl.map fun x => sRows (tabR (2 ^ m) (plF m (2 ^ m)) (siF m) sg (cF x))), .lst (pl.map fun x => sRows (lvR m (cF x))), .lst (pl.map fun x => iS (nuR m (cF x))), .lst (pl.map fun x => sHv m (cF x)), .lst [sCells (bitR p w t (cF a')), sCells (bitR p w t (cF kp))], .lst (pl.map fun x => sCells (rngR p w m ts (cF x)))] = some (.nx, [some (sc), some (.loc 0), some (tn), some (.int m), some (.int p), some (sTab t), some (sSgs sg), some (.int w), some (sTabs ts), some (sSt st), some (sSt kp), some (.loc 1), some (.loc 2), some (.loc 3), some (.loc 4), some (.loc 5), some (.loc 6), none, some (.loc 7), some (sCells (bitR p w t b')), some (.loc 8), some (sSt a'), some (sSt b'), none, none, none, none], [dr ds12, .lst (pl.map sSt), .lst (pl.map fun x => sRows (tabR p (valF (.p p)) (fun _ _ => 1) t (cF x))), .lst (pl.map fun x => sRows (tabR (2 ^ m) (plF m (2 ^ m)) (siF m) sg (cF x))), .lst (pl.map fun x => sRows (lvR m (cF x))), .lst (pl.map fun x => iS (nuR m (cF x))), .lst (pl.map fun x => sHv m (cF x)), .lst [sCells (bitR p w t (cF a')), sCells (bitR p w t (cF kp))], .lst (pl.map fun x => sCells (rngR p w m ts (cF x)))]) := by
    clear hpl hpl2 j0 hP hab hab' R0
    simp only [s_law_l0_29]
    walk_at "dvh"
  refine ⟨ds12, ?_⟩
  have zz : run (callK tb gl k) gl b_law_l0 [some sc, some (.loc 0), some tn, none, none, none, none, none, none, none, none, none, none, none, none, none, none, none, none, none, none, none, none, none, none, none, none] [dr ds0] = some (.nx, [some (sc), some (.loc 0), some (tn), some (.int m), some (.int p), some (sTab t), some (sSgs sg), some (.int w), some (sTabs ts), some (sSt st), some (sSt kp), some (.loc 1), some (.loc 2), some (.loc 3), some (.loc 4), some (.loc 5), some (.loc 6), none, some (.loc 7), some (sCells (bitR p w t b')), some (.loc 8), some (sSt a'), some (sSt b'), none, none, none, none], [dr ds12, .lst (pl.map sSt), .lst (pl.map fun x => sRows (tabR p (valF (.p p)) (fun _ _ => 1) t (cF x))), .lst (pl.map fun x => sRows (tabR (2 ^ m) (plF m (2 ^ m)) (siF m) sg (cF x))), .lst (pl.map fun x => sRows (lvR m (cF x))), .lst (pl.map fun x => iS (nuR m (cF x))), .lst (pl.map fun x => sHv m (cF x)), .lst [sCells (bitR p w t (cF a')), sCells (bitR p w t (cF kp))], .lst (pl.map fun x => sCells (rngR p w m ts (cF x)))]) := seq_nx z0 (seq_nx z1 (seq_nx z2 (seq_nx z3 (seq_nx z4 (seq_nx z5 (seq_nx z6 (seq_nx z7 (seq_nx z8 (seq_nx z9 (seq_nx z10 (seq_nx z11 (seq_nx z12 (seq_nx z13 (seq_nx z14 (seq_nx z15 (seq_nx z16 (seq_nx z17 (seq_nx z18 (seq_nx z19 (seq_nx z20 (seq_nx z21 (seq_nx z22 (seq_nx z23 (seq_nx z24 (seq_nx z25 (seq_nx z26 (seq_nx z27 (seq_nx z28 (z29)))))))))))))))))))))))))))))
  clear z0 z1 z2 z3 z4 z5 z6 z7 z8 z9 z10 z11 z12 z13 z14 z15 z16 z17 z18 z19 z20 z21 z22 z23 z24 z25 z26 z27 z28 z29
  exact gc_end zz rfl (by simp only [sigBelow, hsc, S.und]; rfl) ⟨.inr und_iO, trivial⟩
end Pg
end
section
set_option Elab.async false
set_option linter.all false
set_option maxRecDepth 100000
set_option maxHeartbeats 4000000
namespace Pg
open Dv
local macro_rules | `(tactic| walk_at "dv") => `(tactic| simp -implicitDefEqProofs only [e_var, e_k, e_gl, e_bin, k_bin1, k_bin2, e_neg, k_neg, e_cmp, k_cmp1, k_cmp2, e_chn, k_chn1, k_chn2, k_chn3, e_and, k_and, e_or, k_or, e_not, k_not, e_tru, k_tru, e_ife, k_ife, e_ix, k_ix1, k_ix2, e_slc, k_sl1, k_sl2, k_sl3, e_tup, e_lst, k_tup, k_lst, e_dnK, e_dnT, e_call, k_call, k_fin, e_bi, k_bi, e_mt, k_mt1, k_mt2, e_app, k_app1, k_app2s, k_app2n, e_isi, k_isi, e_rg1, k_rg1, e_rg2, k_rg2, k_rg2b, e_lc, k_lc, k_lcR, lbd_at, k_ls0, k_ls1, k_ls3s, k_ls3n, s_nil, s_cons, k_cons_s, k_cons_n, k_cons2, d_nil, d_cons, k_consD, k_consD2, i_seq, k_sq, i_rng1, k_r1, i_rng2, k_r2, k_r2b, i_rngD, k_rD, k_rDb, i_enum, k_en, i_zip, k_zp1, k_zp2, i_rev, k_rv, r_skip, r_seq, k_seqN, k_seqR, k_seqB, k_seqC, r_asg, k_asgS, k_asgN, r_asgT, k_asgT, r_asgL, k_asgL, r_par, k_par, r_sub, k_sub1s, k_sub1n, k_sub2, k_sub3, r_aug, k_aug, r_augS, k_augS1, k_augS2, k_augS2b, k_augS3, r_exp, k_exp, r_ret, k_ret, r_retN, r_if, k_if, r_whl, r_fr, k_fr, fbd_at, k_run, r_brk, r_cont, r_gc, k_gcR, k_gcN, k_gcC, k_gcB, r_kl, k_kl, r_kill, r_del, k_del1, k_del2, k_endR, k_endN, fin_s, fin_n, finO_some, fin_loc, zl, rev_map, app_int, set_int, lsO_lst, seqL_loc, seqL_new, seqL_rol, lstOf_loc, lstOf_new, seqOf_tup, seqOf_loc, seqOf_new, seqOf_rol, tupOf_tup, tupOf_loc, tupOf_new, dictOf_new, dictOf_loc, b_any, b_all, lenO_lst, lenO_dK, b_len_tup, b_len_loc, b_len_new, b_len_rol, b_int, b_intB, b_tuple, b_list, b_sum, srtO_lst, srtO_dK, b_sorted_loc, b_sorted_new, b_min2, b_max2, b_abs, v_pop, v_popAt, v_rev, v_bit, v_get1, v_get2, dkO_K, dkO_T, m_pop, popAO_lst, m_popAt, revO_lst, m_rev, m_get1, m_get2, m_bit, dlook_int, popO_int, part_non, part_k, part_v, slc_tup, slc_rol, slc_new, slc_loc, cut_map, und_int, und_bl, und_non, und_str, und_loc, und_tup, und_rol, und_lst, unds_app, und_dK, iop_and, iop_or, iop_xor, setIx_loc, setO_lst, setO_dK, appD_loc, appO_lst, idx_tup, idx_ktu, idx_loc, idx_new, idxO_lst, idxO_dK, pyEq_int, pyEq_bl, c_eq, c_ne, c_lt, c_le, c_gt, c_ge, c_isN, c_notN, isNon_non, isNon_int, isNon_tup, isNon_bl, isNon_loc, tru_int, tru_bl, tru_tup, c_mem, c_nmem, mem_bls, mem_loc, memO_int, mem_tup, ty_nil, ty_cons, ty_int, ty_bl, ty_tup, ty_non, ty_str, grd_loc, grdO_some, grd_tup, grd_new, grd_rol, gOk_one, eT_len, look_eT, put_eT, kInts_eT, Option.bind_some, Option.map_some, Option.isSome_some, get_zero, get_succ, List.map_cons, List.map_nil, List.reduceReplicate, Nat.reduceSub, Nat.reduceAdd, Nat.reduceLeDiff, Nat.reduceLT, Nat.reduceEqDiff, List.append_nil, List.nil_append, List.cons_append, intOf, blOf, bop_int, iop_add, iop_sub, iop_mod, iop_mulR, iop_mulL, iop_fdiv, Int.reduceLT, Int.reduceLE, Int.reduceNeg, fin_f, List.set_cons_zero, List.set_cons_succ, asg, asgs, kill, if_true, if_false, Bool.false_eq_true, app_get0, app_get, app_set0, app_set, app_app, app_take0, app_take, GCok_P, gcP_nil, gcP_cons, gcP_refl, gcP_app, gcP_app_l, gcP_app_r, sigBelow, S.unds, List.take_length, unds_int, false_implies, implies_true, Bool.and_true, Bool.true_and, Bool.and_self, Bool.false_or, Bool.or_false, Bool.true_or, Bool.or_true, Bool.not_true, Bool.not_false, decide_true, decide_false, decide_eq_true_eq, reduceCtorEq, ne_eq, not_true_eq_false, W_bIte, W_if, bindIte, W_some, List.length_cons, List.length_nil, List.length_append, List.length_map, List.length_replicate, List.length_range, List.getElem?_cons_zero, List.getElem?_cons_succ, List.set_nil, List.take_succ_cons, List.take_zero, true_and, and_true, or_true, true_or, eq_self, asInts_map, LINE, Nat.zero_le, Nat.not_lt, Nat.le_add_right, Nat.le_refl, Nat.lt_irrefl, Nat.lt_add_right_iff_pos, Nat.add_lt_add_iff_left, Nat.add_le_add_iff_left, not_false_eq_true, Int.natCast_eq_zero, Nat.add_one_ne_zero])
local macro_rules | `(tactic| walk_at "dvh") => `(tactic| simp -implicitDefEqProofs only [e_var, e_k, e_gl, e_bin, k_bin1, k_bin2, e_neg, k_neg, e_cmp, k_cmp1, k_cmp2, e_chn, k_chn1, k_chn2, k_chn3, e_and, k_and, e_or, k_or, e_not, k_not, e_tru, k_tru, e_ife, k_ife, e_ix, k_ix1, k_ix2, e_slc, k_sl1, k_sl2, k_sl3, e_tup, e_lst, k_tup, k_lst, e_dnK, e_dnT, e_call, k_call, k_fin, e_bi, k_bi, e_mt, k_mt1, k_mt2, e_app, k_app1, k_app2s, k_app2n, e_isi, k_isi, e_rg1, k_rg1, e_rg2, k_rg2, k_rg2b, e_lc, k_lc, k_lcR, lbd_at, k_ls0, k_ls1, k_ls3s, k_ls3n, s_nil, s_cons, k_cons_s, k_cons_n, k_cons2, d_nil, d_cons, k_consD, k_consD2, i_seq, k_sq, i_rng1, k_r1, i_rng2, k_r2, k_r2b, i_rngD, k_rD, k_rDb, i_enum, k_en, i_zip, k_zp1, k_zp2, i_rev, k_rv, r_skip, r_seq, k_seqN, k_seqR, k_seqB, k_seqC, r_asg, k_asgS, k_asgN, r_asgT, k_asgT, r_asgL, k_asgL, r_par, k_par, r_sub, k_sub1s, k_sub1n, k_sub2, k_sub3, r_aug, k_aug, r_augS, k_augS1, k_augS2, k_augS2b, k_augS3, r_exp, k_exp, r_ret, k_ret, r_retN, r_if, k_if, r_whl, r_fr, k_fr, fbd_at, k_run, r_brk, r_cont, r_gc, k_gcR, k_gcN, k_gcC, k_gcB, r_kl, k_kl, r_kill, r_del, k_del1, k_del2, k_endR, k_endN, fin_s, fin_n, finO_some, fin_loc, zl, rev_map, app_int, set_int, lsO_lst, seqL_loc, seqL_new, seqL_rol, lstOf_loc, lstOf_new, seqOf_tup, seqOf_loc, seqOf_new, seqOf_rol, tupOf_tup, tupOf_loc, tupOf_new, dictOf_new, dictOf_loc, b_any, b_all, lenO_lst, lenO_dK, b_len_tup, b_len_loc, b_len_new, b_len_rol, b_int, b_intB, b_tuple, b_list, b_sum, srtO_lst, srtO_dK, b_sorted_loc, b_sorted_new, b_min2, b_max2, b_abs, v_pop, v_popAt, v_rev, v_bit, v_get1, v_get2, dkO_K, dkO_T, m_pop, popAO_lst, m_popAt, revO_lst, m_rev, m_get1, m_get2, m_bit, dlook_int, popO_int, part_non, part_k, part_v, slc_tup, slc_rol, slc_new, slc_loc, cut_map, und_int, und_bl, und_non, und_str, und_loc, und_tup, und_rol, und_lst, unds_app, und_dK, iop_and, iop_or, iop_xor, setIx_loc, setO_lst, setO_dK, appD_loc, appO_lst, idx_tup, idx_ktu, idx_loc, idx_new, idxO_lst, idxO_dK, pyEq_int, pyEq_bl, c_eq, c_ne, c_lt, c_le, c_gt, c_ge, c_isN, c_notN, isNon_non, isNon_int, isNon_tup, isNon_bl, isNon_loc, tru_int, tru_bl, tru_tup, c_mem, c_nmem, mem_bls, mem_loc, memO_int, mem_tup, ty_nil, ty_cons, ty_int, ty_bl, ty_tup, ty_non, ty_str, grd_loc, grdO_some, grd_tup, grd_new, grd_rol, gOk_one, eT_len, look_eT, put_eT, kInts_eT, Option.bind_some, Option.map_some, Option.isSome_some, get_zero, get_succ, List.map_cons, List.map_nil, List.reduceReplicate, Nat.reduceSub, Nat.reduceAdd, Nat.reduceLeDiff, Nat.reduceLT, Nat.reduceEqDiff, List.append_nil, List.nil_append, List.cons_append, intOf, blOf, bop_int, iop_add, iop_sub, iop_mod, iop_mulR, iop_mulL, iop_fdiv, Int.reduceLT, Int.reduceLE, Int.reduceNeg, fin_f, List.set_cons_zero, List.set_cons_succ, asg, asgs, kill, if_true, if_false, Bool.false_eq_true, app_get0, app_get, app_set0, app_set, app_app, app_take0, app_take, GCok_P, gcP_nil, gcP_cons, gcP_refl, gcP_app, gcP_app_l, gcP_app_r, sigBelow, S.unds, List.take_length, unds_int, false_implies, implies_true, Bool.and_true, Bool.true_and, Bool.and_self, Bool.false_or, Bool.or_false, Bool.true_or, Bool.or_true, Bool.not_true, Bool.not_false, decide_true, decide_false, decide_eq_true_eq, reduceCtorEq, ne_eq, not_true_eq_false, W_bIte, W_if, bindIte, W_some, List.length_cons, List.length_nil, List.length_append, List.length_map, List.length_replicate, List.length_range, List.getElem?_cons_zero, List.getElem?_cons_succ, List.set_nil, List.take_succ_cons, List.take_zero, true_and, and_true, or_true, true_or, eq_self, asInts_map, LINE, Nat.zero_le, Nat.not_lt, Nat.le_add_right, Nat.le_refl, Nat.lt_irrefl, Nat.lt_add_right_iff_pos, Nat.add_lt_add_iff_left, Nat.add_le_add_iff_left, not_false_eq_true, Int.natCast_eq_zero, Nat.add_one_ne_zero, *])
local macro_rules | `(tactic| walk_at "wb") => `(tactic| simp only [W_bind, W_map])

theorem law_true (ns : List Int) (hn : ns.length ≤ 63) : ∃ μ, callK tb gl 12 Ix.law [.rol (ns.map .int)] [] = some (.s (.bl true), μ) := by
  obtain ⟨ds, e0⟩ := draws_ok (k := 11) (by omega) ns hn 500 (by omega)
  have e0 : callK tb gl 11 Ix.law_draws [.rol (ns.map .int), .int 500] [] = some (.new (iO ds), []) := e0
  have hsc : ∀ n, S.und n (S.rol (ns.map .int)) = true := fun n => unds_int
  generalize S.rol (ns.map .int) = sc at hsc e0
  obtain ⟨ds', e1, _⟩ := for_st (gs := []) (body := fbd (callK tb gl 11) gl (.nm 2) (.gc [2, 3, 4, 5, 6, 7, 8, 9, 10, 11, 12, 13, 14, 15, 16, 17, 18, 19, 20, 21, 22] b_law_l0)) (σ := List Int) (fun i : Nat => nI i) (fun _ => [some sc, some (.loc 0), none, none, none, none, none, none, none, none, none, none, none, none, none, none, none, none, none, none, none, none, none, none, none, none, none]) (fun ds => [dr ds]) (fun _ _ => True) (fun _ _ _ => rfl) (fun i r ds _ => by
    obtain ⟨ds', e⟩ := turn_ok (k := 11) (by omega) sc (nI i) hsc (fun _ => rfl) ds
    refine ⟨ds', ?_, trivial⟩
    simp only [fbd_at, asg, List.set_cons_zero, List.set_cons_succ, Option.bind_some, k_run]
    exact e) [0, 1] ds trivial
  have e2 : rngI 0 1 (Int.toNat 2) = [0, 1].map fun i : Nat => nI i := rfl
  have hb : b62 2 = true := rfl
  refine ⟨[], ?_⟩
  rw [call_at' (b := b_law) rfl rfl]
  simp only [b_law, s_law_0, s_law_1, s_law_2]
  simp only [List.map_cons, List.map_nil] at e1 e2
  walk_at "dvh"
end Pg
end
section
set_option Elab.async false
set_option linter.all false
set_option maxRecDepth 100000
set_option maxHeartbeats 4000000

namespace Pg
open PySem L2 Dv
def top (i : Nat) : Stmt := PySem.Challenge.pw_sketchkeep_k85_whole_joined_sketches.main.body.getD i (.Pass ⟨0, 0, 0, 0⟩)
def d_add : Df := ⟨top 2, "add", ["field", "a", "b"], f_add⟩
def d_multiply : Df := ⟨top 3, "multiply", ["field", "a", "b"], f_multiply⟩
def d_polynomial_product : Df := ⟨top 4, "polynomial_product", ["m", "a", "b", "result", "bit"], f_polynomial_product⟩
def d_as_member : Df := ⟨top 5, "as_member", ["field", "key"], f_as_member⟩
def d_value_of : Df := ⟨top 6, "value_of", ["field", "draw", "key", "x", "result", "coefficient"], f_value_of⟩
def d_sign_of : Df := ⟨top 7, "sign_of", ["field", "draw", "key"], f_sign_of⟩
def d_counts_of : Df := ⟨top 9, "counts_of", ["stream", "sums", "key", "count"], f_counts_of⟩
def d_frozen : Df := ⟨top 11, "frozen", ["rows", "row"], f_frozen⟩
def d_empty_rows : Df := ⟨top 12, "empty_rows", ["many", "width", "_"], f_empty_rows⟩
def d_places_of : Df := ⟨top 13, "places_of", ["table", "p", "key", "draw"], f_places_of⟩
def d_table_counters : Df := ⟨top 14, "table_counters", ["stream", "table", "p", "rows", "key", "count", "row", "place"], f_table_counters⟩
def d_signed_places : Df := ⟨top 15, "signed_places", ["table", "m", "width", "key", "field", "draw", "signs"], f_signed_places⟩
def d_signed_counters : Df := ⟨top 16, "signed_counters", ["stream", "table", "m", "width", "rows", "key", "count", "row", "place", "sign"], f_signed_counters⟩
def d_joined_rows : Df := ⟨top 17, "joined_rows", ["counters", "other", "row", "more", "a", "b"], f_joined_rows⟩
def d_cell_of : Df := ⟨top 19, "cell_of", ["draw", "p", "width", "key"], f_cell_of⟩
def d_bits_over : Df := ⟨top 20, "bits_over", ["p"], f_bits_over⟩
def d_bit_cells : Df := ⟨top 21, "bit_cells", ["stream", "table", "p", "width", "many", "counts", "rows", "draw", "cells", "key", "count", "cell", "bit", "_"], f_bit_cells⟩
def d_joined_cells : Df := ⟨top 22, "joined_cells", ["cells", "other", "rows", "row", "more", "one", "two", "a", "b"], f_joined_cells⟩
def d_level_counters : Df := ⟨top 24, "level_counters", ["stream", "m", "row", "key", "count", "rows", "_", "block"], f_level_counters⟩
def d_differences : Df := ⟨top 26, "differences", ["stream", "m", "counters", "rows", "level", "halves", "block"], f_differences⟩
def d_ranged_counters : Df := ⟨top 28, "ranged_counters", ["stream", "tables", "p", "width", "m", "told", "table", "counts", "rows", "draw", "row", "block", "count"], f_ranged_counters⟩
def d_turned : Df := ⟨top 30, "turned", ["row", "result", "step", "index"], f_turned⟩
def d_walsh_numbers : Df := ⟨top 31, "walsh_numbers", ["stream", "m", "row", "key", "count"], f_walsh_numbers⟩
def d_law_draws : Df := ⟨top 33, "_law_draws", ["script", "many", "cells", "cell", "left", "draws", "k", "place", "mixed"], f_law_draws⟩
def d_law_take : Df := ⟨top 34, "_law_take", ["draws", "many"], f_law_take⟩
def d_law_pick : Df := ⟨top 35, "_law_pick", ["draws", "row"], f_law_pick⟩
def d_law_same : Df := ⟨top 36, "_law_same", ["actual", "due", "k"], f_law_same⟩
def d_law_shuffled : Df := ⟨top 37, "_law_shuffled", ["draws", "row", "left", "told", "k"], f_law_shuffled⟩
def d_law_some_of : Df := ⟨top 38, "_law_some_of", ["draws", "things", "many", "found", "k", "thing"], f_law_some_of⟩
def d_law_count : Df := ⟨top 39, "_law_count", ["draws"], f_law_count⟩
def d_law_keys : Df := ⟨top 40, "_law_keys", ["draws", "top"], f_law_keys⟩
def d_law_kept : Df := ⟨top 41, "_law_kept", ["draws", "keys", "many", "table", "told", "k", "key", "there", "count"], f_law_kept⟩
def d_law_any_stream : Df := ⟨top 42, "_law_any_stream", ["draws", "keys", "many", "told", "k"], f_law_any_stream⟩
def d_law_size : Df := ⟨top 43, "_law_size", ["stream", "pair"], f_law_size⟩
def d_law_cut : Df := ⟨top 44, "_law_cut", ["draws", "row", "at"], f_law_cut⟩
def d_law_field_size : Df := ⟨top 45, "_law_field_size", ["field"], f_law_field_size⟩
def d_law_field_sum : Df := ⟨top 46, "_law_field_sum", ["field", "a", "b"], f_law_field_sum⟩
def d_law_field_product : Df := ⟨top 47, "_law_field_product", ["field", "a", "b", "m", "told", "k", "high"], f_law_field_product⟩
def d_law_value : Df := ⟨top 48, "_law_value", ["field", "draw", "key", "x", "told", "power", "coefficient"], f_law_value⟩
def d_law_draw : Df := ⟨top 49, "_law_draw", ["draws", "field", "k", "j"], f_law_draw⟩
def d_law_drawn_table : Df := ⟨top 50, "_law_drawn_table", ["draws", "p", "most", "k"], f_law_drawn_table⟩
def d_law_table_counters : Df := ⟨top 51, "_law_table_counters", ["stream", "table", "p", "told", "draw", "row", "key", "count", "place"], f_law_table_counters⟩
def d_law_sum_rows : Df := ⟨top 52, "_law_sum_rows", ["counters", "other", "told", "k", "j"], f_law_sum_rows⟩
def d_law_signed_table : Df := ⟨top 53, "_law_signed_table", ["draws", "m", "most", "told", "k"], f_law_signed_table⟩
def d_law_level_keys : Df := ⟨top 54, "_law_level_keys", ["draws", "m", "keys", "key"], f_law_level_keys⟩
def d_law_bit_cells : Df := ⟨top 55, "_law_bit_cells", ["stream", "table", "p", "width", "bits", "told", "draw", "row", "key", "count", "cell", "bit", "j"], f_law_bit_cells⟩
def d_law_mixed_stream : Df := ⟨top 56, "_law_mixed_stream", ["draws", "m", "keys", "told", "k"], f_law_mixed_stream⟩
def d_law_ranged_counters : Df := ⟨top 57, "_law_ranged_counters", ["stream", "tables", "p", "width", "m", "told", "level", "rows", "draw", "row", "key", "count", "place"], f_law_ranged_counters⟩
def d_law_ranged_tables : Df := ⟨top 58, "_law_ranged_tables", ["draws", "m", "p", "level"], f_law_ranged_tables⟩
def d_law_order_of : Df := ⟨top 59, "_law_order_of", ["draws", "stream"], f_law_order_of⟩
def d_law_sum_of_rows : Df := ⟨top 60, "_law_sum_of_rows", ["told"], f_law_sum_of_rows⟩
def d_law : Df := ⟨top 61, "law", ["script", "draws", "turn", "m", "p", "table", "signs", "width", "tables", "stream", "kept", "parts", "plain", "signed", "levels", "numbers", "halves", "told", "cells", "rest", "ranged", "one", "other", "part", "q", "level", "j"], f_law⟩
def defs : List Df := [d_add, d_multiply, d_polynomial_product, d_as_member, d_value_of, d_sign_of, d_counts_of, d_frozen, d_empty_rows, d_places_of, d_table_counters, d_signed_places, d_signed_counters, d_joined_rows, d_cell_of, d_bits_over, d_bit_cells, d_joined_cells, d_level_counters, d_differences, d_ranged_counters, d_turned, d_walsh_numbers, d_law_draws, d_law_take, d_law_pick, d_law_same, d_law_shuffled, d_law_some_of, d_law_count, d_law_keys, d_law_kept, d_law_any_stream, d_law_size, d_law_cut, d_law_field_size, d_law_field_sum, d_law_field_product, d_law_value, d_law_draw, d_law_drawn_table, d_law_table_counters, d_law_sum_rows, d_law_signed_table, d_law_level_keys, d_law_bit_cells, d_law_mixed_stream, d_law_ranged_counters, d_law_ranged_tables, d_law_order_of, d_law_sum_of_rows, d_law]
def free : List Str := ["bool", "enumerate", "int", "isinstance", "len", "list", "min", "range", "reversed", "sorted", "str", "sum", "tuple", "zip"]
def gls : List Str := ["POLYNOMIALS"]
-- law at top 61, index 51
end Pg


namespace Pg
open PySem PySem.Spec PyProof.Rows L2 Dv
abbrev R : PySem.W.OpenRow := PySem.W.OpenLaw.row PySem.Challenge.rw_sketchkeep_k85_whole_joined_sketches
abbrev hk : PySem.W.Hook := hookX 4 (faOf defs free) (defs.map Df.dd) (gls.zip gl)
def ob (s : PySem.W.SharedT) : AlX := obsXG 4 (faOf defs free) (defs.map Df.dd) (gls.zip gl) (HandSHeadRun.getT s)
theorem ob_eq (s : PySem.W.SharedT) : ob s = hk.obs s.abs := obsXG_eq (HandSHeadRun.getT_eq s)
def loose : List PySem.Str := (["add", "multiply", "polynomial_product", "as_member", "value_of", "sign_of", "counts_of", "frozen", "empty_rows", "places_of", "table_counters", "signed_places", "signed_counters", "joined_rows", "cell_of", "bits_over", "bit_cells", "joined_cells", "level_counters", "differences"] : List PySem.Str) ++ (["ranged_counters", "turned", "walsh_numbers", "_law_draws", "_law_take", "_law_pick", "_law_same", "_law_shuffled", "_law_some_of", "_law_count", "_law_keys", "_law_kept", "_law_any_stream", "_law_size", "_law_cut", "_law_field_size", "_law_field_sum", "_law_field_product", "_law_value", "_law_draw"] : List PySem.Str) ++ (["_law_drawn_table", "_law_table_counters", "_law_sum_rows", "_law_signed_table", "_law_level_keys", "_law_bit_cells", "_law_mixed_stream", "_law_ranged_counters", "_law_ranged_tables", "_law_order_of", "_law_sum_of_rows", "POLYNOMIALS"] : List PySem.Str)
set_option maxHeartbeats 0 in
theorem hrun (w : World) : HandSHeadRun.RunEq R (PySem.W.view R.prog [61]) hk ob 6000 loose w := by
  intro os
  kernel_rfl
set_option maxHeartbeats 0 in
theorem hck : defs.all (ckDf (defs.map (·.x)) free gls) = true := by decide +kernel
end Pg
open PySem PySem.W PySem.Calls PyProof.Rows Dv
set_option maxHeartbeats 0 in
theorem PySem.Challenge.cw_sketchkeep_k85_whole_joined_sketches_holds : PySem.Challenge.rw_sketchkeep_k85_whole_joined_sketches.Holds := by
  w_on; o_law
  refine HandSHeadRun.head_any (r := OpenLaw.row PySem.Challenge.rw_sketchkeep_k85_whole_joined_sketches) (q := view (OpenLaw.row PySem.Challenge.rw_sketchkeep_k85_whole_joined_sketches).prog [61]) (H := Pg.hk) (ob := Pg.ob) (M := 6000) (loose := Pg.loose) (d := HandSHeadRun.topDef (OpenLaw.row PySem.Challenge.rw_sketchkeep_k85_whole_joined_sketches).prog 61) (kwd := []) Pg.ob_eq
    (by kernel_rfl) (fun s => by kernel_rfl) Pg.hrun (by kernel_rfl) (by kernel_rfl) (by kernel_rfl) (by rfl) (by first | assumption | decide +kernel) (by decide +kernel) ⟨rfl, rfl, rfl, rfl, rfl, by decide +kernel⟩ ?hw ?hc
  case hw => w_witness2
  case hc =>
    exact walk_law (l := PySem.Challenge.rw_sketchkeep_k85_whole_joined_sketches) (n := 51) (k := 12) (N := 63) (dl := Pg.d_law) rfl (by decide) (by kernel_rfl) ⟨rfl, by decide, by decide⟩ (by kernel_rfl) Pg.hck rfl rfl rfl rfl Pg.law_true
end
