import PyProof.Rows.All
import Wide.All
import OpenK.AllK
import Wide.FinOn
import HandS.ForMost
import HandS.Zip
import HandS.Rev
import HandS.IsInst
import HandS.Wide
import HandS.EndBits
import KE.SortKeyHeap
import HandS.Codes
import HandS.Walk
import PySem.Challenge.RW_patchkept_k02_size_and_depth
set_option autoImplicit false
set_option linter.all false
set_option Elab.async false
set_option maxRecDepth 100000
/-! PvCore: data, a small language of pure defs, and its evaluator. Plain Lean. -/
namespace Pv

/-- data: what a Python value is, by its content -/
inductive D where
  | non
  | bl (b : Bool)
  | int (i : Int)
  | str (s : List Nat)
  | tup (xs : List D)
  | lst (xs : List D)
  | dic (kvs : List (List Nat × D))
  deriving Inhabited

/-- a slot's value: data, or a list (dict) that may still change, by its number in the store -/
inductive W where
  | d (x : D)
  | m (k : Nat)
  deriving Inhabited

/-- what stands in the store -/
inductive MO where
  | lst (xs : List D)
  | dic (kvs : List (List Nat × D))
  | dead

abbrev Sto := List MO
abbrev Loc := List (Option W)

inductive BOp where
  | add | sub | mul | fdiv | mod | pow
inductive COp where
  | eq | ne | lt | le | gt | ge | isN | notN | inn | notin
inductive Bi where
  | len | tuple | int | str | ord | max2 | min2 | maxl | minl | maxd | mind | sum | all | any
inductive Tg where
  | nm (i : Nat)
  | tp (is : List Nat)
inductive IK where
  | seq | rng1 | rng2 | rng3 | enum | zip | rev

inductive Ex where
  | var (i : Nat)
  | frz (i : Nat)
  | cst (d : D)
  | glb (x : String)
  | tup (es : List Ex)
  | lst (mu : Bool) (es : List Ex)
  | mkl (mu : Bool) (a : Ex)
  | ix (a b : Ex)
  | slc (mu : Bool) (a lo hi : Ex)
  | nop
  | bin (o : BOp) (a b : Ex)
  | cat (mu : Bool) (a b : Ex)
  | neg (a : Ex)
  | cmp (o : COp) (a b : Ex)
  | chn (o1 o2 : COp) (a b c : Ex)
  | nt (a : Ex)
  | an (es : List Ex)
  | orr (es : List Ex)
  | ite (c a b : Ex)
  | call (f : String) (es : List Ex)
  | bi (f : Bi) (es : List Ex)
  | isi (a : Ex) (t : String)
  | srt (f : String) (a : Ex)
  | join (a b : Ex)
  | repl (a b c : Ex)
  | dget (a b c : Ex)
  | dicd (kvs : List Ex)
  | dicc (own : List Nat) (k v : Ex) (tg : Tg) (it : Ex)
  | mdic
  | app (a b : Ex)
  | ext (a b : Ex)
  | pop (a : Ex)
  | comp (mu : Bool) (own : List Nat) (elt : Ex) (tg : Tg) (k : IK) (its : List Ex) (conds : List Ex)

inductive Stm where
  | asg (i : Nat) (e : Ex)
  | unp (is : List Nat) (e : Ex)
  | setix (x ix e : Ex)
  | ex (e : Ex)
  | ret (e : Ex)
  | ifs (c : Ex) (a b : List Stm)
  | fr (tg : Tg) (k : IK) (its : List Ex) (body : List Stm)
  | whl (c : Ex) (body : List Stm)

/-! ### == of data -/
def b2i (b : Bool) : Int := if b then 1 else 0
mutual
def deq : D → D → Bool
  | .non, .non => true
  | .bl a, .bl b => a == b
  | .bl a, .int j => b2i a == j
  | .int i, .bl b => i == b2i b
  | .int i, .int j => i == j
  | .str x, .str y => x == y
  | .lst xs, .lst ys => deqs xs ys
  | .tup xs, .tup ys => deqs xs ys
  | _, _ => false
def deqs : List D → List D → Bool
  | [], [] => true
  | x :: xs, y :: ys => deq x y && deqs xs ys
  | [], _ :: _ => false
  | _ :: _, [] => false
end
mutual
/-- how deep, and no dict in it -/
def ddep : D → Nat
  | .non => 0
  | .bl _ => 0
  | .int _ => 0
  | .str _ => 0
  | .lst xs => ddeps xs + 1
  | .tup xs => ddeps xs + 1
  | .dic _ => 0
def ddeps : List D → Nat
  | [] => 0
  | x :: xs => max (ddep x) (ddeps xs)
end
mutual
def nodic : D → Bool
  | .lst xs => nodics xs
  | .tup xs => nodics xs
  | .dic _ => false
  | _ => true
def nodics : List D → Bool
  | [] => true
  | x :: xs => nodic x && nodics xs
end
/-- what may be compared by == -/
def eqOk (x : D) : Bool := nodic x && decide (ddep x ≤ 180)

/-! ### operators -/
abbrev line : Nat := 16777216
def mulOk (i j : Int) : Bool := (decide (-18446744073709551616 < i) && decide (i < 18446744073709551616)) || (decide (-18446744073709551616 < j) && decide (j < 18446744073709551616))
def binE : BOp → D → D → Option D
  | .add, .int i, .int j => some (.int (i + j))
  | .add, .str a, .str b => if a.length + b.length ≤ line then some (.str (a ++ b)) else none
  | .add, .tup a, .tup b => if a.length + b.length ≤ line then some (.tup (a ++ b)) else none
  | .add, .lst a, .lst b => if a.length + b.length ≤ line then some (.lst (a ++ b)) else none
  | .sub, .int i, .int j => some (.int (i - j))
  | .mul, .int i, .int j => if mulOk i j then some (.int (i * j)) else none
  | .mul, .str a, .int j => if a.length * j.toNat ≤ line ∧ -4611686018427387904 ≤ j ∧ j ≤ 4611686018427387904 then some (.str (List.replicate j.toNat a).flatten) else none
  | .fdiv, .int i, .int j => if 0 < j ∧ j < 2 ^ 200 then some (.int (i / j)) else none
  | .mod, .int i, .int j => if 0 < j then some (.int (i % j)) else none
  | .pow, .int i, .int j => if 0 ≤ j ∧ j ≤ 1000 ∧ i.natAbs < 1000000 then some (.int (i ^ j.toNat)) else none
  | _, _, _ => none
def inD (x : D) (xs : List D) : Bool := xs.any fun y => deq y x
def inE (x : D) : D → Option Bool
  | .lst xs => if eqOk x && xs.all eqOk then some (inD x xs) else none
  | .tup xs => if eqOk x && xs.all eqOk then some (inD x xs) else none
  | .str s => match x with
    | .str [c] => some (decide (c ∈ s))
    | _ => none
  | .dic kvs => match x with
    | .str k => some (kvs.any fun p => p.1 == k)
    | _ => none
  | _ => none
def cmpE : COp → D → D → Option Bool
  | .eq, x, y => if eqOk x && eqOk y then some (deq x y) else none
  | .ne, x, y => if eqOk x && eqOk y then some (!deq x y) else none
  | .lt, .int i, .int j => some (decide (i < j))
  | .le, .int i, .int j => some (decide (i ≤ j))
  | .gt, .int i, .int j => some (decide (j < i))
  | .ge, .int i, .int j => some (decide (j ≤ i))
  | .lt, .str a, .str b => some (decide (a < b))
  | .le, .str a, .str b => some (decide (a ≤ b))
  | .gt, .str a, .str b => some (decide (b < a))
  | .ge, .str a, .str b => some (decide (b ≤ a))
  | .isN, x, .non => some (match x with | .non => true | _ => false)
  | .notN, x, .non => some (match x with | .non => false | _ => true)
  | .inn, x, y => inE x y
  | .notin, x, y => (inE x y).map (!·)
  | _, _, _ => none
/-- the place of an index in a list of n -/
def ixN (n : Nat) (i : Int) : Option Nat := if 0 ≤ i then (if i < n then some i.toNat else none) else if -(n : Int) ≤ i then some (i + n).toNat else none
def atI {α : Type} (xs : List α) (i : Int) : Option α := (ixN xs.length i).bind fun j => xs[j]?
def ixE : D → D → Option D
  | .lst xs, .int i => atI xs i
  | .tup xs, .int i => atI xs i
  | .str s, .int i => if s.length ≤ line then (atI s i).map fun c => .str [c] else none
  | .dic kvs, .str k => kvs.lookup k
  | _, _ => none
/-- a bound of a slice -/
def sIx (n d : Nat) : Option Int → Nat
  | none => d
  | some v => if v < 0 then (v + (n : Int)).toNat else min v.toNat n
def cut {α : Type} (xs : List α) (lo hi : Option Int) : List α := (xs.drop (sIx xs.length 0 lo)).take (sIx xs.length xs.length hi - sIx xs.length 0 lo)

def codes (s : String) : List Nat := s.toList.map Char.toNat
def strInt (i : Int) : List Nat := codes (toString i)
def dBools : List D → Option (List Bool)
  | [] => some []
  | .bl b :: r => (dBools r).map (b :: ·)
  | _ :: _ => none
def dInts : List D → Option (List Int)
  | [] => some []
  | .int b :: r => (dInts r).map (b :: ·)
  | _ :: _ => none
def dStrs : List D → Option (List (List Nat))
  | [] => some []
  | .str b :: r => (dStrs r).map (b :: ·)
  | _ :: _ => none
def maxI : Int → List Int → Int
  | a, [] => a
  | a, b :: r => maxI (if b > a then b else a) r
def minI : Int → List Int → Int
  | a, [] => a
  | a, b :: r => minI (if b < a then b else a) r
def joinL (sep : List Nat) : List (List Nat) → List Nat
  | [] => []
  | [a] => a
  | a :: b :: r => a ++ sep ++ joinL sep (b :: r)
def biE : Bi → List D → Option D
  | .len, [.str s] => if s.length ≤ line then some (.int s.length) else none
  | .len, [.tup s] => some (.int s.length)
  | .len, [.lst s] => some (.int s.length)
  | .len, [.dic s] => some (.int s.length)
  | .tuple, [.tup s] => some (.tup s)
  | .tuple, [.lst s] => some (.tup s)
  | .int, [.int i] => some (.int i)
  | .int, [.bl b] => some (.int (b2i b))
  | .str, [.int i] => if i.natAbs.log2 < 1920 then some (.str (strInt i)) else none
  | .ord, [.str [c]] => some (.int c)
  | .max2, [.int i, .int j] => some (.int (if j > i then j else i))
  | .min2, [.int i, .int j] => some (.int (if j < i then j else i))
  | .maxl, [.lst xs] => match dInts xs with
    | some (a :: r) => some (.int (maxI a r))
    | _ => none
  | .minl, [.lst xs] => match dInts xs with
    | some (a :: r) => some (.int (minI a r))
    | _ => none
  | .maxd, [.lst xs] => match dInts xs with
    | some (a :: r) => some (.int (maxI a r))
    | some [] => some .non
    | _ => none
  | .mind, [.lst xs] => match dInts xs with
    | some (a :: r) => some (.int (minI a r))
    | some [] => some .non
    | _ => none
  | .sum, [.lst xs] => (dInts xs).map fun ns => .int ns.sum
  | .all, [.lst xs] => (dBools xs).map fun bs => .bl (bs.all id)
  | .any, [.lst xs] => (dBools xs).map fun bs => .bl (bs.any id)
  | _, _ => none
def isiE : D → String → Option Bool
  | .non, "int" => some false
  | .non, "str" => some false
  | .non, "tuple" => some false
  | .non, "bool" => some false
  | .bl _, "int" => some true
  | .bl _, "bool" => some true
  | .bl _, "str" => some false
  | .bl _, "tuple" => some false
  | .int _, "int" => some true
  | .int _, "bool" => some false
  | .int _, "str" => some false
  | .int _, "tuple" => some false
  | .str _, "int" => some false
  | .str _, "bool" => some false
  | .str _, "str" => some true
  | .str _, "tuple" => some false
  | .tup _, "int" => some false
  | .tup _, "bool" => some false
  | .tup _, "str" => some false
  | .tup _, "tuple" => some true
  | .lst _, "int" => some false
  | .lst _, "bool" => some false
  | .lst _, "str" => some false
  | .lst _, "tuple" => some false
  | _, _ => none

/-! ### the store -/
def deref (M : Sto) : W → Option D
  | .d x => some x
  | .m k => match M[k]? with
    | some (.lst xs) => some (.lst xs)
    | some (.dic xs) => some (.dic xs)
    | _ => none
/-- a fresh list: frozen at once, or laid into the store -/
def fin (mu : Bool) (xs : List D) (M : Sto) : Option (W × Sto) := if mu then some (.m M.length, M ++ [.lst xs]) else some (.d (.lst xs), M)

def slE (mu : Bool) (x : D) (l h : Option Int) (M : Sto) : Option (W × Sto) := match x with
  | .lst xs => fin mu (cut xs l h) M
  | .tup xs => some (.d (.tup (cut xs l h)), M)
  | .str xs => if xs.length ≤ line then some (.d (.str (cut xs l h)), M) else none
  | _ => none
def setL (δ : Loc) (i : Nat) (x : W) : Loc := δ.set i (some x)
def setD : Loc → List Nat → List D → Option Loc
  | δ, [], [] => some δ
  | δ, i :: is, x :: xs => setD (δ.set i (some (.d x))) is xs
  | _, _, _ => none
def bindT (δ : Loc) : Tg → D → Option Loc
  | .nm i, x => some (δ.set i (some (.d x)))
  | .tp is, .tup xs => setD δ is xs
  | .tp _, _ => none
def wipe (δ : Loc) (is : List Nat) : Loc := is.foldl (fun δ i => δ.set i none) δ

/-- what is walked: the items, and the list of the store that must stand as it is -/
structure Walk where
  items : List D
  gd : Option Nat
def Walk.ok (w : Walk) (M : Sto) : Prop := match w.gd with
  | none => True
  | some k => M[k]? = some (.lst w.items)
def rangeL (lo : Int) (n : Nat) : List D := (List.range n).map fun k : Nat => .int (lo + (k : Int))
def rangeS (lo st : Int) (n : Nat) : List D := (List.range n).map fun k : Nat => .int (lo + (k : Int) * st)
def enumL : Nat → List D → List D
  | _, [] => []
  | k, x :: r => .tup [.int k, x] :: enumL (k + 1) r
def zipL : List D → List D → List D
  | x :: r, y :: s => .tup [x, y] :: zipL r s
  | _, _ => []
def seqOf : D → Option (List D)
  | .lst xs => some xs
  | .tup xs => some xs
  | _ => none
def walkE (M : Sto) : IK → List W → Option Walk
  | .seq, [.d (.lst xs)] => some ⟨xs, none⟩
  | .seq, [.d (.tup xs)] => some ⟨xs, none⟩
  | .seq, [.d (.str s)] => some ⟨s.map fun c => .str [c], none⟩
  | .seq, [.d (.dic kvs)] => some ⟨kvs.map fun p => .str p.1, none⟩
  | .seq, [.m k] => match M[k]? with
    | some (.lst xs) => some ⟨xs, some k⟩
    | _ => none
  | .rng1, [.d (.int j)] => if j ≤ 16777216 ∧ -16777216 ≤ j then some ⟨rangeL 0 j.toNat, none⟩ else none
  | .rng2, [.d (.int i), .d (.int j)] => if -1073741824 ≤ i ∧ i ≤ 1073741824 ∧ -1073741824 ≤ j ∧ j ≤ 1073741824 ∧ j - i ≤ 16777216 then some ⟨rangeL i (j - i).toNat, none⟩ else none
  | .enum, [.d (.lst xs)] => some ⟨enumL 0 xs, none⟩
  | .zip, [.d (.lst xs), .d (.lst ys)] => some ⟨zipL xs ys, none⟩
  | .zip, [.d (.tup xs), .d (.tup ys)] => some ⟨zipL xs ys, none⟩
  | .rev, [.d (.lst xs)] => some ⟨xs.reverse, none⟩
  | .rev, [.d (.tup xs)] => some ⟨xs.reverse, none⟩
  | _, _ => none

/-- a dict's new entry -/
def putK (k : List Nat) (v : D) (kvs : List (List Nat × D)) : List (List Nat × D) :=
  if kvs.any (fun p => p.1 == k) then kvs.map (fun p => if p.1 == k then (p.1, v) else p) else kvs ++ [(k, v)]
def dicOf : List D → Option (List (List Nat × D))
  | [] => some []
  | .str k :: v :: r => (dicOf r).map fun kvs => (k, v) :: kvs
  | _ => none

structure Ctx where
  call : String → List W → Sto → Option (W × Sto)
  glob : String → Option D

def isNop : Ex → Bool
  | .nop => true
  | _ => false
/-- an int, as a bound of a slice -/
def asI : Option (W × Sto) → Option (Option Int × Sto)
  | some (.d (.int i), M) => some (some i, M)
  | _ => none
/-- only data -/
def asD : W × Sto → Option (D × Sto)
  | (.d x, M) => some (x, M)
  | (.m _, _) => none
def asB : W × Sto → Option (Bool × Sto)
  | (.d (.bl b), M) => some (b, M)
  | _ => none

open Classical in
/-- a comprehension's turns -/
noncomputable def compGo (δ : Loc) (own : List Nat) (tg : Tg) (w : Walk) (cond : Loc → Sto → Option (Bool × Sto)) (elt : Loc → Sto → Option (D × Sto)) : List D → Sto → Option (List D × Sto)
  | [], M => some ([], M)
  | x :: r, M =>
    match bindT (wipe δ own) tg x with
    | none => none
    | some δ1 => match cond δ1 M with
      | none => none
      | some (b, M1) =>
        if b then match elt δ1 M1 with
          | none => none
          | some (y, M2) => if w.ok M2 then match compGo δ own tg w cond elt r M2 with
            | none => none
            | some (ys, M3) => some (y :: ys, M3) else none
        else if w.ok M1 then compGo δ own tg w cond elt r M1 else none

/-- keys of sorted(.., key=f) -/
def keysOf (call : String → List W → Sto → Option (W × Sto)) (f : String) : List D → Option (List (List Nat))
  | [] => some []
  | x :: r => match call f [.d x] [] with
    | some (.d (.str k), _) => (keysOf call f r).map (k :: ·)
    | _ => none
def keyLe (a b : List Nat × D) : Bool := decide (a.1 ≤ b.1)
def sortK (ks : List (List Nat)) (xs : List D) : List D := ((ks.zip xs).mergeSort keyLe).map (·.2)

def replGo (a b : Nat) (by_ : List Nat) : List Nat → List Nat := fun s => s.flatMap fun c => if c == a then by_ else [c]

mutual
noncomputable def ev (C : Ctx) : Ex → Loc → Sto → Option (W × Sto)
  | .var i, δ, M => match δ[i]? with
    | some (some w) => some (w, M)
    | _ => none
  | .frz i, δ, M => match δ[i]? with
    | some (some (.m k)) => match M[k]? with
      | some (.lst xs) => some (.d (.lst xs), M.set k .dead)
      | some (.dic xs) => some (.d (.dic xs), M.set k .dead)
      | _ => none
    | _ => none
  | .cst x, _, M => some (.d x, M)
  | .glb x, _, M => match C.glob x with
    | some v => some (.d v, M)
    | none => none
  | .tup es, δ, M => match evs C es δ M with
    | some (xs, M1) => some (.d (.tup xs), M1)
    | none => none
  | .lst mu es, δ, M => match evs C es δ M with
    | some (xs, M1) => fin mu xs M1
    | none => none
  | .mkl mu a, δ, M => match ev C a δ M with
    | some (w, M1) => match deref M1 w with
      | some (.lst xs) => fin mu xs M1
      | some (.tup xs) => fin mu xs M1
      | _ => none
    | none => none
  | .ix a b, δ, M => match ev C a δ M with
    | none => none
    | some (w, M1) => match ev C b δ M1 with
      | none => none
      | some (u, M2) => match deref M2 w, u with
        | some x, .d y => match ixE x y with
          | some z => some (.d z, M2)
          | none => none
        | _, _ => none
  | .slc mu a lo hi, δ, M => match ev C a δ M with
    | none => none
    | some (w, M1) => match (if isNop lo then some (none, M1) else asI (ev C lo δ M1)) with
      | none => none
      | some (l, M2) => match (if isNop hi then some (none, M2) else asI (ev C hi δ M2)) with
        | none => none
        | some (h, M3) => match deref M3 w with
          | some x => slE mu x l h M3
          | none => none
  | .nop, _, _ => none
  | .bin o a b, δ, M => match ev C a δ M with
    | none => none
    | some (w, M1) => match ev C b δ M1 with
      | none => none
      | some (u, M2) => match deref M2 w, deref M2 u with
        | some x, some y => match binE o x y with
          | some z => some (.d z, M2)
          | none => none
        | _, _ => none
  | .cat mu a b, δ, M => match ev C a δ M with
    | none => none
    | some (w, M1) => match ev C b δ M1 with
      | none => none
      | some (u, M2) => match deref M2 w, deref M2 u with
        | some (.lst xs), some (.lst ys) => if xs.length + ys.length ≤ line then fin mu (xs ++ ys) M2 else none
        | _, _ => none
  | .neg a, δ, M => match ev C a δ M with
    | some (.d (.int i), M1) => some (.d (.int (-i)), M1)
    | _ => none
  | .cmp o a b, δ, M => match ev C a δ M with
    | none => none
    | some (w, M1) => match ev C b δ M1 with
      | none => none
      | some (u, M2) => match deref M2 w, deref M2 u with
        | some x, some y => match cmpE o x y with
          | some r => some (.d (.bl r), M2)
          | none => none
        | _, _ => none
  | .chn o1 o2 a b c, δ, M => match ev C a δ M with
    | none => none
    | some (w, M1) => match ev C b δ M1 with
      | none => none
      | some (u, M2) => match w, u with
        | .d x, .d y => match cmpE o1 x y with
          | some true => match ev C c δ M2 with
            | some (.d z, M3) => match cmpE o2 y z with
              | some r => some (.d (.bl r), M3)
              | none => none
            | _ => none
          | some false => some (.d (.bl false), M2)
          | none => none
        | _, _ => none
  | .nt a, δ, M => match ev C a δ M with
    | some (.d (.bl b), M1) => some (.d (.bl (!b)), M1)
    | _ => none
  | .an es, δ, M => evAn C es δ M
  | .orr es, δ, M => evOr C es δ M
  | .ite c a b, δ, M => match ev C c δ M with
    | some (.d (.bl true), M1) => ev C a δ M1
    | some (.d (.bl false), M1) => ev C b δ M1
    | _ => none
  | .call f es, δ, M => match evws C es δ M with
    | some (ws, M1) => C.call f ws M1
    | none => none
  | .bi f es, δ, M => match evws C es δ M with
    | some (ws, M1) => match ws.mapM (deref M1) with
      | some xs => match biE f xs with
        | some x => some (.d x, M1)
        | none => none
      | none => none
    | none => none
  | .isi a t, δ, M => match ev C a δ M with
    | some (w, M1) => match deref M1 w with
      | some x => match isiE x t with
        | some b => some (.d (.bl b), M1)
        | none => none
      | none => none
    | none => none
  | .srt f a, δ, M => match ev C a δ M with
    | some (w, M1) => match deref M1 w with
      | some (.lst xs) => match keysOf C.call f xs with
        | some ks => some (.d (.lst (sortK ks xs)), M1)
        | none => none
      | _ => none
    | none => none
  | .join a b, δ, M => match ev C a δ M with
    | some (.d (.str s), M1) => match ev C b δ M1 with
      | some (w, M2) => match deref M2 w with
        | some (.lst xs) => match dStrs xs with
          | some ys => if (ys.map List.length).sum + ys.length * s.length ≤ 16777216 then some (.d (.str (joinL s ys)), M2) else none
          | none => none
        | _ => none
      | none => none
    | _ => none
  | .repl a b c, δ, M => match ev C a δ M with
    | some (.d (.str s), M1) => match ev C b δ M1 with
      | some (.d (.str [x]), M2) => match ev C c δ M2 with
        | some (.d (.str t), M3) => if s.length * (t.length + 1) ≤ 100000 then some (.d (.str (replGo x 0 t s)), M3) else none
        | _ => none
      | _ => none
    | _ => none
  | .dget a b c, δ, M => match ev C a δ M with
    | some (w, M1) => match deref M1 w with
      | some (.dic _) => match ev C b δ M1 with
        | some (.d (.str k), M2) => match ev C c δ M2 with
          | some (.d z, M3) => match deref M3 w with
            | some (.dic kvs) => some (.d ((kvs.lookup k).getD z), M3)
            | _ => none
          | _ => none
        | _ => none
      | _ => none
    | none => none
  | .dicd es, δ, M => match evs C es δ M with
    | some (xs, M1) => match dicOf xs with
      | some kvs => some (.d (.dic (kvs.foldl (fun acc p => putK p.1 p.2 acc) [])), M1)
      | none => none
    | none => none
  | .dicc own k v tg it, δ, M => match ev C it δ M with
    | some (w, M1) => match walkE M1 .seq [w] with
      | some wk => match compGo δ own tg wk (fun _ M => some (true, M)) (fun δ M => match ev C k δ M with
          | some (.d (.str s), M1) => match ev C v δ M1 with
            | some (.d x, M2) => some (.tup [.str s, x], M2)
            | _ => none
          | _ => none) wk.items M1 with
        | some (ps, M2) => some (.d (.dic (ps.foldl (fun acc p => match p with
            | .tup [.str s, x] => putK s x acc
            | _ => acc) [])), M2)
        | none => none
      | none => none
    | none => none
  | .mdic, _, M => some (.m M.length, M ++ [.dic []])
  | .app a b, δ, M => match ev C a δ M with
    | some (.m k, M1) => match M1[k]? with
      | some (.lst _) => match ev C b δ M1 with
        | some (.d x, M2) => match M2[k]? with
          | some (.lst xs) => if xs.length < line then some (.d .non, M2.set k (.lst (xs ++ [x]))) else none
          | _ => none
        | _ => none
      | _ => none
    | _ => none
  | .ext a b, δ, M => match ev C a δ M with
    | some (.m k, M1) => match M1[k]? with
      | some (.lst _) => match ev C b δ M1 with
        | some (.d (.lst ys), M2) => match M2[k]? with
          | some (.lst xs) => if xs.length + ys.length ≤ line then some (.d .non, M2.set k (.lst (xs ++ ys))) else none
          | _ => none
        | _ => none
      | _ => none
    | _ => none
  | .pop a, δ, M => match ev C a δ M with
    | some (.m k, M1) => match M1[k]? with
      | some (.lst xs) => match xs[xs.length - 1]? with
        | some x => some (.d x, M1.set k (.lst xs.dropLast))
        | none => none
      | _ => none
    | _ => none
  | .comp mu own elt tg k its conds, δ, M => match evws C its δ M with
    | some (ws, M1) => match walkE M1 k ws with
      | some wk => match compGo δ own tg wk (fun δ M => evc C conds δ M) (fun δ M => (ev C elt δ M).bind asD) wk.items M1 with
        | some (ys, M2) => if ys.length ≤ line then fin mu ys M2 else none
        | none => none
      | none => none
    | none => none
noncomputable def evs (C : Ctx) : List Ex → Loc → Sto → Option (List D × Sto)
  | [], _, M => some ([], M)
  | e :: es, δ, M => match ev C e δ M with
    | some (.d x, M1) => match evs C es δ M1 with
      | some (xs, M2) => some (x :: xs, M2)
      | none => none
    | _ => none
noncomputable def evws (C : Ctx) : List Ex → Loc → Sto → Option (List W × Sto)
  | [], _, M => some ([], M)
  | e :: es, δ, M => match ev C e δ M with
    | some (x, M1) => match evws C es δ M1 with
      | some (xs, M2) => some (x :: xs, M2)
      | none => none
    | none => none
noncomputable def evAn (C : Ctx) : List Ex → Loc → Sto → Option (W × Sto)
  | [], _, M => some (.d (.bl true), M)
  | e :: es, δ, M => match ev C e δ M with
    | some (.d (.bl true), M1) => evAn C es δ M1
    | some (.d (.bl false), M1) => some (.d (.bl false), M1)
    | _ => none
noncomputable def evOr (C : Ctx) : List Ex → Loc → Sto → Option (W × Sto)
  | [], _, M => some (.d (.bl false), M)
  | e :: es, δ, M => match ev C e δ M with
    | some (.d (.bl true), M1) => some (.d (.bl true), M1)
    | some (.d (.bl false), M1) => evOr C es δ M1
    | _ => none
/-- the tests of a comprehension -/
noncomputable def evc (C : Ctx) : List Ex → Loc → Sto → Option (Bool × Sto)
  | [], _, M => some (true, M)
  | e :: _, δ, M => (ev C e δ M).bind asB
end

/-! ### loops that end when their test fails -/
/-- one turn: go on, or done -/
inductive Tn (α β : Type) where
  | go (a : α)
  | done (b : β)
def loopN {α β : Type} (step : α → Option (Tn α β)) : Nat → α → Option β
  | 0, _ => none
  | n + 1, a => match step a with
    | none => none
    | some (.done b) => some b
    | some (.go a') => loopN step n a'
theorem loopN_mono {α β : Type} {step : α → Option (Tn α β)} : ∀ {n : Nat} {a : α} {b : β}, loopN step n a = some b → ∀ m, n ≤ m → loopN step m a = some b
  | 0, _, _, h, _, _ => by simp [loopN] at h
  | n + 1, a, b, h, m, hm => by
    obtain ⟨k, rfl⟩ : ∃ k, m = k + 1 := ⟨m - 1, by omega⟩
    unfold loopN at h ⊢
    cases e : step a with
    | none => rw [e] at h; simp at h
    | some t =>
      rw [e] at h
      cases t with
      | done b' => simpa using h
      | go a' => simp only at h ⊢; exact loopN_mono h k (by omega)
open Classical in
noncomputable def loopE {α β : Type} (step : α → Option (Tn α β)) (a : α) : Option β :=
  if h : ∃ n b, loopN step n a = some b then some h.choose_spec.choose else none
theorem loopE_of {α β : Type} {step : α → Option (Tn α β)} {n : Nat} {a : α} {b : β} (h : loopN step n a = some b) : loopE step a = some b := by
  have hx : ∃ n b, loopN step n a = some b := ⟨n, b, h⟩
  unfold loopE
  rw [dif_pos hx]
  have h2 := hx.choose_spec.choose_spec
  have h3 := loopN_mono h (max n hx.choose) (Nat.le_max_left _ _)
  have h4 := loopN_mono h2 (max n hx.choose) (Nat.le_max_right _ _)
  rw [h3] at h4
  exact h4.symm
theorem loopE_some {α β : Type} {step : α → Option (Tn α β)} {a : α} {b : β} (h : loopE step a = some b) : ∃ n, loopN step n a = some b := by
  unfold loopE at h
  split at h
  · rename_i hx
    refine ⟨hx.choose, ?_⟩
    have := hx.choose_spec.choose_spec
    rw [this, ← h]
  · simp at h
/-- one turn of a loop that ends -/
theorem loopE_eq {α β : Type} (step : α → Option (Tn α β)) (a : α) : loopE step a = match step a with
    | none => none
    | some (.done b) => some b
    | some (.go a') => loopE step a' := by
  cases e : step a with
  | none =>
    simp only
    cases h : loopE step a with
    | none => rfl
    | some b =>
      obtain ⟨n, h⟩ := loopE_some h
      cases n with
      | zero => simp [loopN] at h
      | succ n => simp [loopN, e] at h
  | some t =>
    cases t with
    | done b =>
      simp only
      exact loopE_of (n := 1) (by simp [loopN, e])
    | go a' =>
      simp only
      cases h : loopE step a' with
      | some b =>
        obtain ⟨n, h⟩ := loopE_some h
        exact loopE_of (n := n + 1) (by simp [loopN, e, h])
      | none =>
        cases h2 : loopE step a with
        | none => rfl
        | some b =>
          obtain ⟨n, h2⟩ := loopE_some h2
          cases n with
          | zero => simp [loopN] at h2
          | succ n =>
            simp [loopN, e] at h2
            rw [loopE_of h2] at h
            simp at h

/-! ### statements -/
inductive Fl where
  | nx (δ : Loc) (M : Sto)
  | rt (w : W) (M : Sto)

open Classical in
/-- a for's turns -/
noncomputable def forGo (tg : Tg) (w : Walk) (body : Loc → Sto → Option Fl) : List D → Loc → Sto → Option Fl
  | [], δ, M => some (.nx δ M)
  | x :: r, δ, M =>
    match bindT δ tg x with
    | none => none
    | some δ1 => match body δ1 M with
      | none => none
      | some (.rt v M1) => some (.rt v M1)
      | some (.nx δ2 M1) => if w.ok M1 then forGo tg w body r δ2 M1 else none

mutual
noncomputable def ex1 (C : Ctx) : Stm → Loc → Sto → Option Fl
  | .asg i e, δ, M => match ev C e δ M with
    | some (w, M1) => some (.nx (setL δ i w) M1)
    | none => none
  | .unp is e, δ, M => match ev C e δ M with
    | some (.d (.tup xs), M1) => match setD δ is xs with
      | some δ1 => some (.nx δ1 M1)
      | none => none
    | _ => none
  | .setix x i e, δ, M => match ev C e δ M with
    | some (.d v, M1) => match ev C x δ M1 with
      | some (.m k, M2) => match ev C i δ M2 with
        | some (.d j, M3) => match M3[k]?, j with
          | some (.lst xs), .int j => match ixN xs.length j with
            | some p => some (.nx δ (M3.set k (.lst (xs.set p v))))
            | none => none
          | some (.dic kvs), .str s => if kvs.length < line then some (.nx δ (M3.set k (.dic (putK s v kvs)))) else none
          | _, _ => none
        | _ => none
      | _ => none
    | _ => none
  | .ex e, δ, M => match ev C e δ M with
    | some (_, M1) => some (.nx δ M1)
    | none => none
  | .ret e, δ, M => match ev C e δ M with
    | some (w, M1) => some (.rt w M1)
    | none => none
  | .ifs c a b, δ, M => match ev C c δ M with
    | some (.d (.bl true), M1) => exs C a δ M1
    | some (.d (.bl false), M1) => exs C b δ M1
    | _ => none
  | .fr tg k its body, δ, M => match evws C its δ M with
    | some (ws, M1) => match walkE M1 k ws with
      | some wk => forGo tg wk (fun δ M => exs C body δ M) wk.items δ M1
      | none => none
    | none => none
  | .whl c body, δ, M => loopE (fun (s : Loc × Sto) => match ev C c s.1 s.2 with
      | some (.d (.bl true), M1) => match exs C body s.1 M1 with
        | some (.nx δ2 M2) => some (.go (δ2, M2))
        | some (.rt w M2) => some (.done (.rt w M2))
        | none => none
      | some (.d (.bl false), M1) => some (.done (.nx s.1 M1))
      | _ => none) (δ, M)
noncomputable def exs (C : Ctx) : List Stm → Loc → Sto → Option Fl
  | [], δ, M => some (.nx δ M)
  | s :: r, δ, M => match ex1 C s δ M with
    | some (.nx δ1 M1) => exs C r δ1 M1
    | some (.rt w M1) => some (.rt w M1)
    | none => none
end

/-- a def: its parameters, its slots, its body -/
structure Fn where
  np : Nat
  ns : Nat
  body : List Stm
/-- the program: its defs and its constants -/
structure Prog where
  fn : String → Option Fn
  gl : String → Option D
/-- what a call leaves: the callee's own lists are dropped, but one that it returns -/
def retE (n : Nat) (w : W) (M : Sto) : Option (W × Sto) := match w with
  | .d x => some (.d x, M.take n)
  | .m k => if k < n then some (.m k, M.take n) else match M[k]? with
    | some (.lst xs) => some (.m n, M.take n ++ [.lst xs])
    | some (.dic xs) => some (.m n, M.take n ++ [.dic xs])
    | _ => none
noncomputable def callF (P : Prog) : Nat → String → List W → Sto → Option (W × Sto)
  | 0, _, _, _ => none
  | n + 1, f, ws, M => match P.fn f with
    | none => none
    | some fn => if ws.length = fn.np then match exs ⟨callF P n, P.gl⟩ fn.body (ws.map some ++ List.replicate (fn.ns - fn.np) none) M with
      | some (.rt w M1) => retE M.length w M1
      | some (.nx _ M1) => retE M.length (.d .non) M1
      | none => none
      else none
theorem callF_eq {P : Prog} {n : Nat} {f : String} {fn : Fn} {ws : List W} {M : Sto} (h : P.fn f = some fn) (hl : ws.length = fn.np) :
    callF P (n + 1) f ws M = match exs ⟨callF P n, P.gl⟩ fn.body (ws.map some ++ List.replicate (fn.ns - fn.np) none) M with
      | some (.rt w M1) => retE M.length w M1
      | some (.nx _ M1) => retE M.length (.d .non) M1
      | none => none := by
  show (match P.fn f with
    | none => none
    | some fn => _) = _
  rw [h]
  simp only [hl, if_true]
def mkP (t : List (String × Fn)) (gt : List (String × D)) : Prog := ⟨fun f => t.lookup f, fun x => gt.lookup x⟩
end Pv

/-! PvChk: that a piece of the text is what a term of the small language says. -/
namespace Pv
open PySem L2

abbrev S (s : String) : Str := Str.ofString s
def isVis (sc : Scope) (x : Str) : Bool := match sc.names.lookup x with
  | some .local => true
  | some .cell => true
  | some .free => true
  | _ => false
def isLoc (sc : Scope) (x : Str) : Bool := match sc.names.lookup x with
  | some .local => true
  | some .cell => true
  | _ => false
def isGl (sc : Scope) (x : Str) : Bool := match sc.names.lookup x with
  | some .globalImplicit => true
  | _ => false
def isLcl (sc : Scope) (x : Str) : Bool := match sc.names.lookup x with
  | some .local => true
  | _ => false
def isCel (sc : Scope) (x : Str) : Bool := match sc.names.lookup x with
  | some .cell => true
  | _ => false
def isFun (sc : Scope) : Bool := match sc.kind with
  | .function => true
  | _ => false
def okN (x : Str) : Bool := !(x == S "__debug__") && !(x == S "__classdict__") && !(x == S "__name__")
def codesOk (s : List Nat) : Bool := s.all (· < 1114112)
def chkK : D → Const → Bool
  | .non, .none => true
  | .bl b, .bool c => b == c
  | .int i, .int j => i == j
  | .str s, .str x => s == x.cps.toList && codesOk s
  | _, _ => false
def chkO : BOp → Operator → Bool
  | .add, .Add => true
  | .sub, .Sub => true
  | .mul, .Mult => true
  | .fdiv, .FloorDiv => true
  | .mod, .Mod => true
  | .pow, .Pow => true
  | _, _ => false
def chkC : COp → CmpOp → Bool
  | .eq, .Eq => true
  | .ne, .NotEq => true
  | .lt, .Lt => true
  | .le, .LtE => true
  | .gt, .Gt => true
  | .ge, .GtE => true
  | .isN, .Is => true
  | .notN, .IsNot => true
  | .inn, .In => true
  | .notin, .NotIn => true
  | _, _ => false
/-- the names of the built-ins that we use -/
def biN : Bi → Str
  | .len => S "len"
  | .tuple => S "tuple"
  | .int => S "int"
  | .str => S "str"
  | .ord => S "ord"
  | .max2 => S "max"
  | .min2 => S "min"
  | .maxl => S "max"
  | .minl => S "min"
  | .maxd => S "max"
  | .mind => S "min"
  | .sum => S "sum"
  | .all => S "all"
  | .any => S "any"
def biPlain : Bi → Bool
  | .maxd => false
  | .mind => false
  | _ => true
/-- not a display that the machine treats apart -/
def plainX : Expr → Bool
  | .Starred _ _ => false
  | .Slice _ _ _ _ => false
  | .Set _ _ _ => false
  | _ => true
def isTest : Expr → Bool
  | .UnaryOp _ _ _ => true
  | .BoolOp _ _ _ => true
  | .IfExp _ _ _ _ => true
  | .Compare _ _ _ _ => true
  | _ => false
def noCmp : Expr → Bool
  | .ListComp _ _ _ _ => false
  | .SetComp _ _ _ _ => false
  | .DictComp _ _ _ _ _ => false
  | _ => true
/-- a target of a def's own -/
def chkNm (N : List Str) (sc : Scope) (i : Nat) : Expr → Bool
  | .Name x _ => decide (N[i]? = some x) && isLoc sc x
  | _ => false
def chkNms (N : List Str) (sc : Scope) : List Nat → List Expr → Bool
  | [], [] => true
  | i :: is, e :: es => chkNm N sc i e && chkNms N sc is es
  | _, _ => false
def chkTg (N : List Str) (sc : Scope) : Tg → Expr → Bool
  | .nm i, e => chkNm N sc i e
  | .tp is, .Tuple es _ _ => chkNms N sc is es
  | _, _ => false
/-- a target within a comprehension: scope as written, own its slots -/
def chkNmB (N : List Str) (scope sc : Scope) (own : List Nat) (i : Nat) : Expr → Bool
  | .Name x _ => decide (N[i]? = some x) && (isLcl sc x || (isCel sc x && isCel scope x)) && decide (i ∈ own)
  | _ => false
def chkNmsB (N : List Str) (scope sc : Scope) (own : List Nat) : List Nat → List Expr → Bool
  | [], [] => true
  | i :: is, e :: es => chkNmB N scope sc own i e && chkNmsB N scope sc own is es
  | _, _ => false
def chkTgB (N : List Str) (scope sc : Scope) (own : List Nat) : Tg → Expr → Bool
  | .nm i, e => chkNmB N scope sc own i e
  | .tp is, .Tuple es _ _ => chkNmsB N scope sc own is es
  | _, _ => false
def isTp : Expr → Bool
  | .Tuple _ _ _ => true
  | _ => false
/-- not a call f() -/
def noSup : Expr → Bool
  | .Call _ [] [] _ => false
  | _ => true
def ownN (N : List Str) (own : List Nat) : List (Str × Nat) := own.map fun i => (N.getD i Str.empty, i)

/-- what is walked; t: the target; f: what says of an argument list that it is its -/
def chkIt (sc : Scope) (k : IK) (its : List Ex) (f : List Expr → Bool) (x t : Expr) : Bool := match k with
  | .seq => f [x] && decide (its.length = 1)
  | .rng1 => match x with
    | .Call (.Name g _) xs [] _ => g == S "range" && isGl sc g && okN g && f xs && decide (its.length = 1)
    | _ => false
  | .rng2 => match x with
    | .Call (.Name g _) xs [] _ => g == S "range" && isGl sc g && okN g && f xs && decide (its.length = 2)
    | _ => false
  | .enum => match x with
    | .Call (.Name g _) xs [] _ => g == S "enumerate" && isGl sc g && okN g && f xs && decide (its.length = 1) && isTp t
    | _ => false
  | .zip => match x with
    | .Call (.Name g _) xs [] _ => g == S "zip" && isGl sc g && okN g && f xs && decide (its.length = 2) && isTp t
    | _ => false
  | .rev => match x with
    | .Call (.Name g _) xs [] _ => g == S "reversed" && isGl sc g && okN g && f xs && decide (its.length = 1)
    | _ => false
  | .rng3 => false

mutual
def chkE (N : List Str) : Scope → Ex → Expr → Bool
  | sc, .var i, e => match e with
    | .Name x _ => decide (N[i]? = some x) && isVis sc x && okN x
    | _ => false
  | sc, .frz i, e => match e with
    | .Name x _ => decide (N[i]? = some x) && isVis sc x && okN x
    | _ => false
  | _, .cst d, e => match e with
    | .Constant c _ _ => chkK d c
    | _ => false
  | sc, .glb g, e => match e with
    | .Name x _ => S g == x && isGl sc x && okN x
    | _ => false
  | sc, .tup es, e => match e with
    | .Tuple xs _ _ => chkEs N sc es xs && decide (es.length ≤ 1000)
    | _ => false
  | sc, .lst _ es, e => match e with
    | .List xs _ => chkEs N sc es xs && decide (es.length ≤ 1000)
    | _ => false
  | sc, .mkl _ a, e => match e with
    | .Call (.Name f _) [x] [] _ => f == S "list" && isGl sc f && okN f && chkE N sc a x
    | _ => false
  | sc, .ix a b, e => match e with
    | .Subscript x y _ => chkE N sc a x && chkE N sc b y
    | _ => false
  | sc, .slc _ a lo hi, e => match e with
    | .Subscript x (.Slice l h none _) _ => chkE N sc a x &&
      (match l with
        | none => isNop lo
        | some y => !isNop lo && chkE N sc lo y) &&
      (match h with
        | none => isNop hi
        | some y => !isNop hi && chkE N sc hi y)
    | _ => false
  | sc, .bin o a b, e => match e with
    | .BinOp x p y _ => chkO o p && chkE N sc a x && chkE N sc b y
    | _ => false
  | sc, .cat _ a b, e => match e with
    | .BinOp x .Add y _ => chkE N sc a x && chkE N sc b y
    | _ => false
  | sc, .neg a, e => match e with
    | .UnaryOp .USub x _ => chkE N sc a x
    | _ => false
  | sc, .cmp o a b, e => match e with
    | .Compare x [p] [y] _ => chkC o p && chkE N sc a x && chkE N sc b y
    | _ => false
  | sc, .chn o1 o2 a b c, e => match e with
    | .Compare x [p, q] [y, z] _ => chkC o1 p && chkC o2 q && chkE N sc a x && chkE N sc b y && chkE N sc c z
    | _ => false
  | sc, .nt a, e => match e with
    | .UnaryOp .Not x _ => chkE N sc a x
    | _ => false
  | sc, .an es, e => match e with
    | .BoolOp .And xs _ => chkEs N sc es xs && !es.isEmpty
    | _ => false
  | sc, .orr es, e => match e with
    | .BoolOp .Or xs _ => chkEs N sc es xs && !es.isEmpty
    | _ => false
  | sc, .ite c a b, e => match e with
    | .IfExp x y z _ => chkE N sc c x && chkE N sc a y && chkE N sc b z
    | _ => false
  | sc, .call f es, e => match e with
    | .Call (.Name x _) xs [] _ => S f == x && isGl sc x && okN x && chkEs N sc es xs
    | _ => false
  | sc, .bi f es, e => match e with
    | .Call (.Name x _) xs [] _ => biPlain f && x == biN f && isGl sc x && okN x && chkEs N sc es xs && !es.isEmpty
    | _ => false
  | sc, .isi a t, e => match e with
    | .Call (.Name x _) [y, .Name z _] [] _ => x == S "isinstance" && isGl sc x && okN x && chkE N sc a y && z == S t && isGl sc z && okN z
    | _ => false
  | _, .srt _ _, _ => false
  | sc, .join a b, e => match e with
    | .Call (.Attribute x m p) [y] [] q => m == S "join" && p.endLine == q.line && noSup x && chkE N sc a x && chkE N sc b y
    | _ => false
  | _, .repl _ _ _, _ => false
  | sc, .dget a b c, e => match e with
    | .Call (.Attribute x m p) [y, z] [] q => m == S "get" && p.endLine == q.line && noSup x && chkE N sc a x && chkE N sc b y && chkE N sc c z
    | _ => false
  | sc, .app a b, e => match e with
    | .Call (.Attribute x m p) [y] [] q => m == S "append" && p.endLine == q.line && noSup x && chkE N sc a x && chkE N sc b y
    | _ => false
  | sc, .ext a b, e => match e with
    | .Call (.Attribute x m p) [y] [] q => m == S "extend" && p.endLine == q.line && noSup x && chkE N sc a x && chkE N sc b y
    | _ => false
  | sc, .pop a, e => match e with
    | .Call (.Attribute x m p) [] [] q => m == S "pop" && p.endLine == q.line && noSup x && chkE N sc a x
    | _ => false
  | _, .mdic, e => match e with
    | .Dict [] [] _ => true
    | _ => false
  | sc, .comp _ own elt tg k its conds, e => match e with
    | .ListComp y [⟨t, i, cs, 0⟩] scope _ => 
      blkC N sc scope (ownN N own) && chkTgB N scope (relS scope sc) own tg t && chkIt sc k its (chkEs N sc its) i t &&
      chkEs N (relS scope sc) conds cs && decide (conds.length ≤ 1) && chkE N (relS scope sc) elt y
    | _ => false
  | _, .nop, _ => false
  | _, .dicd _, _ => false
  | _, .dicc _ _ _ _ _, _ => false
def chkEs (N : List Str) : Scope → List Ex → List Expr → Bool
  | _, [], [] => true
  | sc, e :: es, x :: xs => chkE N sc e x && chkEs N sc es xs
  | _, _, _ => false
end
mutual
def chkS (N : List Str) (sc : Scope) : Stm → Stmt → Bool
  | .asg i e, .Assign [.Name x _] y _ => decide (N[i]? = some x) && isLoc sc x && okN x && chkE N sc e y
  | .unp is e, .Assign [.Tuple ts _ _] y _ => chkNms N sc is ts && chkE N sc e y && !isTp y
  | .setix x i e, .Assign [.Subscript a b _] y _ => chkE N sc x a && chkE N sc i b && chkE N sc e y
  | .ex e, .Expr y _ => chkE N sc e y && noCmp y
  | .ret e, .Return (some y) _ => chkE N sc e y
  | .ifs c a b, .If x y z _ => chkE N sc c x && chkSs N sc a y && chkSs N sc b z
  | .fr tg k its body, .For t i y [] _ => chkTg N sc tg t && chkIt sc k its (chkEs N sc its) i t && chkSs N sc body y
  | .whl c body, .While x y [] _ => chkE N sc c x && chkSs N sc body y
  | _, _ => false
def chkSs (N : List Str) (sc : Scope) : List Stm → List Stmt → Bool
  | [], [] => true
  | a :: r, b :: s => chkS N sc a b && chkSs N sc r s
  | _, _ => false
end
end Pv

/-! PvRep: how data stand in the abstract heap of the hand layer. -/
namespace Pv
open PySem L2

def mkS (s : List Nat) : Str := ⟨s.toArray⟩
def okS (s : List Nat) : Prop := ∀ c ∈ s, c < 1114112
theorem mkS_len (s : List Nat) : (mkS s).length = s.length := by simp [mkS, Str.length]
theorem mkS_tl (s : List Nat) : (mkS s).cps.toList = s := by simp [mkS]
theorem mkS_of (x : Str) : mkS x.cps.toList = x := by simp [mkS]
theorem mkS_inj {a b : List Nat} (h : mkS a = mkS b) : a = b := by
  have := congrArg (fun x : Str => x.cps.toList) h
  simpa [mkS] using this
theorem mkS_app (a b : List Nat) : mkS a ++ mkS b = mkS (a ++ b) := by
  show Str.append _ _ = _
  simp [mkS, Str.append]
theorem strOk_mkS {s : List Nat} (h : okS s) : PyData.strOk (mkS s) = true := by
  unfold PyData.strOk mkS
  simp only [List.all_toArray, List.all_eq_true, decide_eq_true_eq]
  intro c hc
  exact Nat.lt_of_lt_of_le (h c hc) (by decide)

/-- a list that never changes again: locked, or of the written part -/
def FzL (K : PySem.W.Frag) (H : Hp) (a : Addr) (xs : List V) : Prop :=
  (∃ o, H a = some (.frz o (.lst xs))) ∨
    ∃ (o : Obj) (its : Array Value) (n : Nat), K.lookup a = some o ∧ o.cls = .type "list" ∧ o.dict = none ∧ o.data = .seq its n ∧ its.size ≤ sizeLine ∧ Vals xs its.toList
theorem FzL.sq {K : PySem.W.Frag} {H : Hp} {a : Addr} {xs : List V} (h : FzL K H a xs) : SqL K H a xs := by
  rcases h with ⟨o, h⟩ | h
  · exact .inl (.inr ⟨o, h⟩)
  · exact .inr h

mutual
/-- the value v is that data -/
def Rep (K : PySem.W.Frag) (H : Hp) : D → V → Prop
  | .non, v => v = .non
  | .bl b, v => v = .bl b
  | .int i, v => v = .int i
  | .str s, v => v = .str (mkS s) ∧ okS s
  | .tup ds, v => (∃ a xs, v = .ref a ∧ SqT K H a xs ∧ Reps K H ds xs) ∧ ds.length ≤ line
  | .lst ds, v => (∃ a xs, v = .ref a ∧ FzL K H a xs ∧ Reps K H ds xs) ∧ ds.length ≤ line
  | .dic kvs, v => ∃ a o ws, v = .ref a ∧ H a = some (.frz o (.dK ws)) ∧ RepK K H kvs ws
def Reps (K : PySem.W.Frag) (H : Hp) : List D → List V → Prop
  | [], xs => xs = []
  | d :: ds, xs => ∃ v vs, xs = v :: vs ∧ Rep K H d v ∧ Reps K H ds vs
def RepK (K : PySem.W.Frag) (H : Hp) : List (List Nat × D) → List (Key × V) → Prop
  | [], xs => xs = []
  | (k, d) :: ds, xs => ∃ v vs, xs = (.inr (mkS k), v) :: vs ∧ okS k ∧ Rep K H d v ∧ RepK K H ds vs
end

section
variable {K : PySem.W.Frag} {H H' : Hp}
/-- what never changes is kept -/
def Kp (H H' : Hp) : Prop := ∀ a, (∀ xs, H a = some (.tup xs) → H' a = some (.tup xs)) ∧ (∀ o u, H a = some (.frz o u) → H' a = some (.frz o u))
theorem Kp.refl (H : Hp) : Kp H H := fun _ => ⟨fun _ h => h, fun _ _ h => h⟩
theorem Kp.trans {H H1 H2 : Hp} (a : Kp H H1) (b : Kp H1 H2) : Kp H H2 := fun x => ⟨fun xs h => (b x).1 _ ((a x).1 _ h), fun o u h => (b x).2 _ _ ((a x).2 _ _ h)⟩
theorem Kp.sqT (k : Kp H H') {a : Addr} {xs : List V} (h : SqT K H a xs) : SqT K H' a xs := by
  rcases h with (h | ⟨o, h⟩) | h
  · exact .inl (.inl ((k a).1 _ h))
  · exact .inl (.inr ⟨o, (k a).2 _ _ h⟩)
  · exact .inr h
theorem Kp.fzL (k : Kp H H') {a : Addr} {xs : List V} (h : FzL K H a xs) : FzL K H' a xs := by
  rcases h with ⟨o, h⟩ | h
  · exact .inl ⟨o, (k a).2 _ _ h⟩
  · exact .inr h
mutual
theorem Rep.mono (k : Kp H H') : ∀ (d : D) (v : V), Rep K H d v → Rep K H' d v
  | .non, _, h => by unfold Rep at h ⊢; exact h
  | .bl b, _, h => by unfold Rep at h ⊢; exact h
  | .int i, _, h => by unfold Rep at h ⊢; exact h
  | .str s, _, h => by unfold Rep at h ⊢; exact h
  | .tup ds, _, h => by
    unfold Rep at h ⊢
    obtain ⟨⟨a, xs, e, q, r⟩, hl⟩ := h
    exact ⟨⟨a, xs, e, k.sqT q, Reps.mono k ds xs r⟩, hl⟩
  | .lst ds, _, h => by
    unfold Rep at h ⊢
    obtain ⟨⟨a, xs, e, q, r⟩, hl⟩ := h
    exact ⟨⟨a, xs, e, k.fzL q, Reps.mono k ds xs r⟩, hl⟩
  | .dic kvs, _, h => by
    unfold Rep at h ⊢
    obtain ⟨a, o, ws, e, q, r⟩ := h
    exact ⟨a, o, ws, e, (k a).2 _ _ q, RepK.mono k kvs ws r⟩
theorem Reps.mono (k : Kp H H') : ∀ (ds : List D) (vs : List V), Reps K H ds vs → Reps K H' ds vs
  | [], _, h => by unfold Reps at h ⊢; exact h
  | d :: ds, _, h => by
    unfold Reps at h ⊢
    obtain ⟨v, vs, e, q, r⟩ := h
    exact ⟨v, vs, e, Rep.mono k d v q, Reps.mono k ds vs r⟩
theorem RepK.mono (k : Kp H H') : ∀ (ds : List (List Nat × D)) (vs : List (Key × V)), RepK K H ds vs → RepK K H' ds vs
  | [], _, h => by unfold RepK at h ⊢; exact h
  | (k1, d) :: ds, _, h => by
    unfold RepK at h ⊢
    obtain ⟨v, vs, e, o, q, r⟩ := h
    exact ⟨v, vs, e, o, Rep.mono k d v q, RepK.mono k ds vs r⟩
end
theorem rep_non {v : V} (h : Rep K H .non v) : v = .non := by unfold Rep at h; exact h
theorem rep_bl {b : Bool} {v : V} (h : Rep K H (.bl b) v) : v = .bl b := by unfold Rep at h; exact h
theorem rep_int {b : Int} {v : V} (h : Rep K H (.int b) v) : v = .int b := by unfold Rep at h; exact h
theorem rep_str {b : List Nat} {v : V} (h : Rep K H (.str b) v) : v = .str (mkS b) ∧ okS b := by unfold Rep at h; exact h
theorem rep_tup {b : List D} {v : V} (h : Rep K H (.tup b) v) : ∃ a xs, v = .ref a ∧ SqT K H a xs ∧ Reps K H b xs := by unfold Rep at h; exact h.1
theorem len_tup {b : List D} {v : V} (h : Rep K H (.tup b) v) : b.length ≤ line := by unfold Rep at h; exact h.2
theorem len_lst {b : List D} {v : V} (h : Rep K H (.lst b) v) : b.length ≤ line := by unfold Rep at h; exact h.2
theorem rep_lst {b : List D} {v : V} (h : Rep K H (.lst b) v) : ∃ a xs, v = .ref a ∧ FzL K H a xs ∧ Reps K H b xs := by unfold Rep at h; exact h.1
theorem rep_dic {b : List (List Nat × D)} {v : V} (h : Rep K H (.dic b) v) : ∃ a o ws, v = .ref a ∧ H a = some (.frz o (.dK ws)) ∧ RepK K H b ws := by unfold Rep at h; exact h
theorem mk_non : Rep K H .non .non := by unfold Rep; rfl
theorem mk_bl (b : Bool) : Rep K H (.bl b) (.bl b) := by unfold Rep; rfl
theorem mk_int (b : Int) : Rep K H (.int b) (.int b) := by unfold Rep; rfl
theorem mk_str {b : List Nat} (h : okS b) : Rep K H (.str b) (.str (mkS b)) := by unfold Rep; exact ⟨rfl, h⟩
theorem mk_tup {a : Addr} {ds : List D} {xs : List V} (h : SqT K H a xs) (r : Reps K H ds xs) (hl : ds.length ≤ line) : Rep K H (.tup ds) (.ref a) := by unfold Rep; exact ⟨⟨a, xs, rfl, h, r⟩, hl⟩
theorem mk_lst {a : Addr} {ds : List D} {xs : List V} (h : FzL K H a xs) (r : Reps K H ds xs) (hl : ds.length ≤ line) : Rep K H (.lst ds) (.ref a) := by unfold Rep; exact ⟨⟨a, xs, rfl, h, r⟩, hl⟩
theorem mk_dic {a : Addr} {o : Obj} {ds : List (List Nat × D)} {xs : List (Key × V)} (h : H a = some (.frz o (.dK xs))) (r : RepK K H ds xs) : Rep K H (.dic ds) (.ref a) := by unfold Rep; exact ⟨a, o, xs, rfl, h, r⟩
theorem reps_nil {xs : List V} (h : Reps K H [] xs) : xs = [] := by unfold Reps at h; exact h
theorem reps_cons {d : D} {ds : List D} {xs : List V} (h : Reps K H (d :: ds) xs) : ∃ v vs, xs = v :: vs ∧ Rep K H d v ∧ Reps K H ds vs := by unfold Reps at h; exact h
theorem mk_nil : Reps K H [] [] := by unfold Reps; rfl
theorem mk_cons {d : D} {ds : List D} {v : V} {vs : List V} (h : Rep K H d v) (r : Reps K H ds vs) : Reps K H (d :: ds) (v :: vs) := by unfold Reps; exact ⟨v, vs, rfl, h, r⟩
theorem Reps.len : ∀ {ds : List D} {xs : List V}, Reps K H ds xs → ds.length = xs.length
  | [], _, h => by rw [reps_nil h]; rfl
  | d :: ds, _, h => by
    obtain ⟨v, vs, rfl, _, r⟩ := reps_cons h
    rw [List.length_cons, List.length_cons, Reps.len r]
theorem Reps.get : ∀ {ds : List D} {xs : List V} {i : Nat} {d : D}, Reps K H ds xs → ds[i]? = some d → ∃ v, xs[i]? = some v ∧ Rep K H d v
  | [], _, _, _, _, h => by simp at h
  | d :: ds, _, 0, e, h, q => by
    obtain ⟨v, vs, rfl, r, _⟩ := reps_cons h
    simp at q
    subst q
    exact ⟨v, rfl, r⟩
  | d :: ds, _, i + 1, e, h, q => by
    obtain ⟨v, vs, rfl, _, r⟩ := reps_cons h
    simp at q
    obtain ⟨u, h1, h2⟩ := Reps.get r q
    exact ⟨u, by simpa using h1, h2⟩
theorem Reps.get' : ∀ {ds : List D} {xs : List V} {i : Nat} {v : V}, Reps K H ds xs → xs[i]? = some v → ∃ d, ds[i]? = some d ∧ Rep K H d v := fun {ds xs i v} h q => by
  have hl := h.len
  have hi : i < xs.length := (List.getElem?_eq_some_iff.mp q).1
  have hi2 : i < ds.length := by omega
  obtain ⟨u, h1, h2⟩ := h.get (List.getElem?_eq_getElem hi2)
  rw [q] at h1
  cases h1
  exact ⟨_, List.getElem?_eq_getElem hi2, h2⟩
theorem Reps.app : ∀ {ds es : List D} {xs ys : List V}, Reps K H ds xs → Reps K H es ys → Reps K H (ds ++ es) (xs ++ ys)
  | [], _, _, _, h, r => by rw [reps_nil h]; exact r
  | d :: ds, _, _, _, h, r => by
    obtain ⟨v, vs, rfl, q, t⟩ := reps_cons h
    exact mk_cons q (Reps.app t r)
theorem Reps.drop : ∀ {ds : List D} {xs : List V} (n : Nat), Reps K H ds xs → Reps K H (ds.drop n) (xs.drop n)
  | _, _, 0, h => h
  | [], _, n + 1, h => by rw [reps_nil h]; exact mk_nil
  | d :: ds, _, n + 1, h => by
    obtain ⟨v, vs, rfl, q, t⟩ := reps_cons h
    exact Reps.drop n t
theorem Reps.take : ∀ {ds : List D} {xs : List V} (n : Nat), Reps K H ds xs → Reps K H (ds.take n) (xs.take n)
  | _, _, 0, h => by rw [List.take_zero, List.take_zero]; exact mk_nil
  | [], _, n + 1, h => by rw [reps_nil h]; exact mk_nil
  | d :: ds, _, n + 1, h => by
    obtain ⟨v, vs, rfl, q, t⟩ := reps_cons h
    exact mk_cons q (Reps.take n t)
theorem Reps.set : ∀ {ds : List D} {xs : List V} (n : Nat) {d : D} {v : V}, Reps K H ds xs → Rep K H d v → Reps K H (ds.set n d) (xs.set n v)
  | [], _, _, _, _, h, _ => by rw [reps_nil h]; exact mk_nil
  | d :: ds, _, 0, _, _, h, r => by
    obtain ⟨v, vs, rfl, q, t⟩ := reps_cons h
    exact mk_cons r t
  | d :: ds, _, n + 1, _, _, h, r => by
    obtain ⟨v, vs, rfl, q, t⟩ := reps_cons h
    exact mk_cons q (Reps.set n t r)
theorem Reps.snoc {ds : List D} {xs : List V} {d : D} {v : V} (h : Reps K H ds xs) (r : Rep K H d v) : Reps K H (ds ++ [d]) (xs ++ [v]) := h.app (mk_cons r mk_nil)
theorem Reps.reverse : ∀ {ds : List D} {xs : List V}, Reps K H ds xs → Reps K H ds.reverse xs.reverse
  | [], _, h => by rw [reps_nil h]; exact mk_nil
  | d :: ds, _, h => by
    obtain ⟨v, vs, rfl, q, t⟩ := reps_cons h
    rw [List.reverse_cons, List.reverse_cons]
    exact (Reps.reverse t).snoc q
theorem Reps.dropLast {ds : List D} {xs : List V} (h : Reps K H ds xs) : Reps K H ds.dropLast xs.dropLast := by
  rw [List.dropLast_eq_take, List.dropLast_eq_take, ← h.len]
  exact h.take _
end

/-! ### the store -/
/-- a list (dict) that may change -/
def MRep (K : PySem.W.Frag) (H : Hp) (a : Addr) : MO → Prop
  | .lst ds => ∃ xs, H a = some (.lst xs) ∧ Reps K H ds xs ∧ ds.length ≤ line
  | .dic kvs => ∃ ws, H a = some (.dK ws) ∧ RepK K H kvs ws
  | .dead => True
structure SOk (K : PySem.W.Frag) (H : Hp) (M : Sto) (ι : List Addr) : Prop where
  len : ι.length = M.length
  nd : ι.Nodup
  mo : ∀ (k : Nat) (o : MO) (a : Addr), M[k]? = some o → ι[k]? = some a → MRep K H a o
  tr : ∀ a ∈ ι, H a ≠ none
def RepW (K : PySem.W.Frag) (H : Hp) (ι : List Addr) : W → V → Prop
  | .d x, v => Rep K H x v
  | .m k, v => ∃ a, ι[k]? = some a ∧ v = .ref a
def RepWs (K : PySem.W.Frag) (H : Hp) (ι : List Addr) : List W → List V → Prop
  | [], xs => xs = []
  | w :: ws, xs => ∃ v vs, xs = v :: vs ∧ RepW K H ι w v ∧ RepWs K H ι ws vs
def live : MO → Bool
  | .dead => false
  | _ => true
def Live (M : Sto) (ι : List Addr) (a : Addr) : Prop := ∃ (k : Nat) (o : MO), M[k]? = some o ∧ live o = true ∧ ι[k]? = some a
/-- from one moment to a later one -/
structure Aft (H : Hp) (M : Sto) (ι : List Addr) (H' : Hp) (M' : Sto) (ι' : List Addr) : Prop where
  ext : ∃ t, ι' = ι ++ t
  fr : ∀ a o, H a = some o → ¬ Live M ι a → H' a = some o
  lv : ∀ a, Live M' ι' a → Live M ι a ∨ H a = none
  nw : ∀ a ∈ ι', a ∈ ι ∨ H a = none
section
variable {K : PySem.W.Frag} {H H1 H2 : Hp} {M M1 M2 : Sto} {ι ι1 ι2 : List Addr}
theorem Aft.refl : Aft H M ι H M ι := ⟨⟨[], by simp⟩, fun _ _ h _ => h, fun _ h => .inl h, fun _ h => .inl h⟩
theorem Aft.trans (a : Aft H M ι H1 M1 ι1) (b : Aft H1 M1 ι1 H2 M2 ι2) : Aft H M ι H2 M2 ι2 := by
  refine ⟨?_, fun x o h n => ?_, fun x h => ?_, fun x h => ?_⟩
  · obtain ⟨t, rfl⟩ := a.ext
    obtain ⟨u, rfl⟩ := b.ext
    exact ⟨t ++ u, by simp⟩
  · refine b.fr x o (a.fr x o h n) fun l => ?_
    rcases a.lv x l with q | q
    · exact n q
    · rw [h] at q; cases q
  · rcases b.lv x h with q | q
    · exact a.lv x q
    · cases e : H x with
      | none => exact .inr rfl
      | some o =>
        by_cases l : Live M ι x
        · exact .inl l
        · rw [a.fr x o e l] at q; cases q
  · rcases b.nw x h with q | q
    · exact a.nw x q
    · cases e : H x with
      | none => exact .inr rfl
      | some o =>
        by_cases l : Live M ι x
        · obtain ⟨k, _, _, _, h3⟩ := l
          exact .inl (List.mem_of_getElem? h3)
        · rw [a.fr x o e l] at q; cases q
theorem SOk.live_not (s : SOk K H M ι) {a : Addr} (l : Live M ι a) : (∀ xs, H a ≠ some (.tup xs)) ∧ (∀ o u, H a ≠ some (.frz o u)) ∧ H a ≠ none := by
  obtain ⟨k, o, h1, h2, h3⟩ := l
  have m := s.mo k o a h1 h3
  cases o with
  | lst ds =>
    obtain ⟨xs, e, _⟩ := m
    exact ⟨fun ys z => (by rw [e] at z; cases z), fun o u z => (by rw [e] at z; cases z), fun z => (by rw [e] at z; cases z)⟩
  | dic ds =>
    obtain ⟨xs, e, _⟩ := m
    exact ⟨fun ys z => (by rw [e] at z; cases z), fun o u z => (by rw [e] at z; cases z), fun z => (by rw [e] at z; cases z)⟩
  | dead => cases h2
theorem Aft.kp (a : Aft H M ι H1 M1 ι1) (s : SOk K H M ι) : Kp H H1 := fun x =>
  ⟨fun xs h => a.fr x _ h fun l => (s.live_not l).1 _ h, fun o u h => a.fr x _ h fun l => (s.live_not l).2.1 _ _ h⟩
theorem RepW.mono {w : W} {v : V} (k : Kp H H1) (e : ∃ t, ι1 = ι ++ t) (h : RepW K H ι w v) : RepW K H1 ι1 w v := by
  cases w with
  | d x => exact Rep.mono k x v h
  | m n =>
    obtain ⟨a, h1, rfl⟩ := h
    obtain ⟨t, rfl⟩ := e
    refine ⟨a, ?_, rfl⟩
    rw [List.getElem?_append_left (List.getElem?_eq_some_iff.mp h1).1]
    exact h1
theorem RepWs.mono (k : Kp H H1) (e : ∃ t, ι1 = ι ++ t) : ∀ {ws : List W} {vs : List V}, RepWs K H ι ws vs → RepWs K H1 ι1 ws vs
  | [], _, h => h
  | w :: ws, _, h => by
    obtain ⟨v, vs, rfl, h1, h2⟩ := h
    exact ⟨v, vs, rfl, h1.mono k e, RepWs.mono k e h2⟩
theorem RepWs.len : ∀ {ws : List W} {vs : List V}, RepWs K H ι ws vs → ws.length = vs.length
  | [], _, h => by rw [show _ = [] from h]; rfl
  | w :: ws, _, h => by
    obtain ⟨v, vs, rfl, _, h2⟩ := h
    rw [List.length_cons, List.length_cons, RepWs.len h2]
end
/-- the slots -/
structure LOk (K : PySem.W.Frag) (H : Hp) (ι : List Addr) (δ : Loc) (σ : L2.St) : Prop where
  len : δ.length = σ.length
  sl : ∀ (i : Nat) (w : W), δ[i]? = some (some w) → ∃ v, σ[i]? = some (some v) ∧ RepW K H ι w v
section
variable {K : PySem.W.Frag} {H H1 H2 : Hp} {M M1 M2 : Sto} {ι ι1 ι2 : List Addr} {δ : Loc} {σ : L2.St}
theorem LOk.mono (l : LOk K H ι δ σ) (k : Kp H H1) (e : ∃ t, ι1 = ι ++ t) : LOk K H1 ι1 δ σ := ⟨l.len, fun i w h => let ⟨v, h1, h2⟩ := l.sl i w h; ⟨v, h1, h2.mono k e⟩⟩
theorem LOk.set (l : LOk K H ι δ σ) (i : Nat) {w : W} {v : V} (r : RepW K H ι w v) : LOk K H ι (δ.set i (some w)) (σ.set i (some v)) := by
  refine ⟨by simpa using l.len, fun j u h => ?_⟩
  by_cases e : i = j
  · subst e
    have hi : i < δ.length := by
      have := (List.getElem?_eq_some_iff.mp h).1
      simpa using this
    rw [List.getElem?_set_self hi] at h
    cases h
    exact ⟨v, by rw [List.getElem?_set_self (by rw [← l.len]; exact hi)], r⟩
  · rw [List.getElem?_set_ne e] at h
    obtain ⟨u', h1, h2⟩ := l.sl j u h
    exact ⟨u', by rw [List.getElem?_set_ne e]; exact h1, h2⟩
end
end Pv

/-! PvExp: the evaluator's expressions, by the hand layer's rules. -/
namespace Pv
open PySem L2

/-! ### freezing what was just made -/
def fzv (Q : VK) : VK := fun v H => Q v H ∨ ∃ a u, v = .ref a ∧ H a = some u ∧ Mut (some u) ∧ ∀ od, Q v (upd H a (.frz od u))
section
variable {X : Cx} {pins : List (Addr × Obj)} {σ : L2.St} {H : Hp} {s : Shared} {Q : VK} {u : Value}
theorem ep_fz (h : EP X pins σ (fzv Q) u s) : EP X pins σ Q u s := by
  obtain ⟨v, H', I, r, q | ⟨a, o, rfl, ha, mu, q⟩⟩ := h
  · exact ⟨v, H', I, r, q⟩
  · obtain ⟨od, I2⟩ := I.lock ha mu
    exact ⟨_, _, I2, r, q od⟩
theorem pe_fz {e : Expr} {t : TE} (h : PE X e t) : PE X e (fun σ H Q => t σ H (fzv Q)) := ⟨fun pins s σ H Q I q => thn (h.run pins s σ H _ I q) fun _ _ p => ep_fz p⟩
theorem op_fz {f : Value → Value → Sem Value} {r : R2} (h : OpR X f r) : OpR X f (fun x y H Q => r x y H (fzv Q)) := by
  intro pins s σ H x y v u Q I rx ry q
  exact thn (h pins s σ H x y v u _ I rx ry q) fun _ _ p => ep_fz p
theorem call_fz {f : Value} {r : List V → Hp → VK → Prop} (h : CallR X f r) : CallR X f (fun xs H Q => r xs H (fzv Q)) := by
  intro pins s σ H xs us Q I rs q
  exact thn (h pins s σ H xs us _ I rs q) fun _ _ p => ep_fz p
theorem sl_fz {r : V → Option Int → Option Int → Hp → VK → Prop} (h : SlR X r) : SlR X (fun x lo hi H Q => r x lo hi H (fzv Q)) := by
  intro pins s σ H x lo hi v vl vh b Q I rx r1 r2 hs q
  obtain ⟨T, id, h1, h2, h3⟩ := h pins s σ H x lo hi v vl vh b _ I rx r1 r2 hs q
  exact ⟨T, id, h1, h2, thn h3 fun _ _ p => ep_fz p⟩
theorem pe_of {e : Expr} {t t' : TE} (h : PE X e t) (w : ∀ σ H Q, t' σ H Q → t σ H Q) : PE X e t' := ⟨fun pins s σ H Q I q => h.run pins s σ H Q I (w σ H Q q)⟩
theorem pt_of {e : Expr} {t t' : TT} (h : PT X e t) (w : ∀ σ H Q, t' σ H Q → t σ H Q) : PT X e t' := ⟨fun pins s σ H Q I q => h.run pins s σ H Q I (w σ H Q q)⟩
theorem pa_of {e : List Expr} {t t' : TA} (h : PA X e t) (w : ∀ σ H Q, t' σ H Q → t σ H Q) : PA X e t' := ⟨fun ps pins s σ H Q I q => h.run ps pins s σ H Q I (w σ H Q q)⟩
theorem ps_of {e : Stmt} {t t' : TS} (h : PS X e t) (w : ∀ D σ H, t' D σ H → t D σ H) : PS X e t' := ⟨fun pins s σ H D I q => h.run pins s σ H D I (w D σ H q)⟩
theorem pss_of {e : List Stmt} {t t' : TS} (h : PSs X e t) (w : ∀ D σ H, t' D σ H → t D σ H) : PSs X e t' := ⟨fun pins s σ H D I q => h.run pins s σ H D I (w D σ H q)⟩
end

/-! ### what expressions promise -/
section
variable (K : PySem.W.Frag) (C : Ctx)
def tE (ex : Ex) : TE := fun σ H Q => ∃ δ M ι w M', LOk K H ι δ σ ∧ SOk K H M ι ∧ ev C ex δ M = some (w, M') ∧
  ∀ v H' ι', Aft H M ι H' M' ι' → SOk K H' M' ι' → RepW K H' ι' w v → Q v H'
def tB (ex : Ex) : TT := fun σ H Q => ∃ δ M ι b M', LOk K H ι δ σ ∧ SOk K H M ι ∧ ev C ex δ M = some (.d (.bl b), M') ∧
  ∀ H' ι', Aft H M ι H' M' ι' → SOk K H' M' ι' → Q b H'
def tEs (es : List Ex) : TA := fun σ H Q => ∃ δ M ι ds M', LOk K H ι δ σ ∧ SOk K H M ι ∧ evs C es δ M = some (ds, M') ∧
  ∀ vs H' ι', Aft H M ι H' M' ι' → SOk K H' M' ι' → Reps K H' ds vs → Q vs H'
def tWs (es : List Ex) : TA := fun σ H Q => ∃ δ M ι ds M', LOk K H ι δ σ ∧ SOk K H M ι ∧ evws C es δ M = some (ds, M') ∧
  ∀ vs H' ι', Aft H M ι H' M' ι' → SOk K H' M' ι' → RepWs K H' ι' ds vs → Q vs H'
end
section
variable {K : PySem.W.Frag} {C : Ctx} {H H1 H2 : Hp} {M M1 M2 : Sto} {ι ι1 ι2 : List Addr} {δ : Loc} {σ : L2.St}
/-- only new things -/
theorem Aft.same (h : L2.Same H H1) : Aft H M ι H1 M ι := ⟨⟨[], by simp⟩, fun a o q _ => h a o q, fun _ l => .inl l, fun _ l => .inl l⟩
theorem Kp.same (h : L2.Same H H1) : Kp H H1 := fun a => ⟨fun _ q => h _ _ q, fun _ _ q => h _ _ q⟩
theorem MRep.mono {a : Addr} {o : MO} (h : L2.Same H H1) (m : MRep K H a o) : MRep K H1 a o := by
  cases o with
  | lst ds => obtain ⟨xs, e, r, hl⟩ := m; exact ⟨xs, h _ _ e, Reps.mono (Kp.same h) _ _ r, hl⟩
  | dic ds => obtain ⟨xs, e, r⟩ := m; exact ⟨xs, h _ _ e, RepK.mono (Kp.same h) _ _ r⟩
  | dead => exact True.intro
theorem SOk.same (s : SOk K H M ι) (h : L2.Same H H1) : SOk K H1 M ι := ⟨s.len, s.nd, fun k o a h1 h2 => (s.mo k o a h1 h2).mono h, fun a ha e => by
  cases q : H a with
  | none => exact s.tr a ha q
  | some o => rw [h _ _ q] at e; cases e⟩
theorem same_upd {p : Addr} (o : HO) (h : H p = none) : L2.Same H (upd H p o) := fun b u q => by rw [upd_ne (ne_of_none q h)]; exact q
/-- a new thing, frozen -/
theorem same_upd2 {p : Addr} (o u : HO) (h : H p = none) : L2.Same H (upd (upd H p o) p u) := by rw [upd_upd]; exact same_upd u h
theorem LOk.aft (l : LOk K H ι δ σ) (s : SOk K H M ι) (a : Aft H M ι H1 M1 ι1) : LOk K H1 ι1 δ σ := l.mono (a.kp s) a.ext
/-- a new list of the store -/
theorem SOk.push {p : Addr} {o : MO} {u : HO} (s : SOk K H M ι) (h : H p = none) (m : MRep K (upd H p u) p o) : SOk K (upd H p u) (M ++ [o]) (ι ++ [p]) := by
  have hp : p ∉ ι := fun z => s.tr p z h
  refine ⟨by simp [s.len], ?_, fun k o' a h1 h2 => ?_, fun a ha => ?_⟩
  · rw [List.nodup_append]
    exact ⟨s.nd, by simp, fun a ha b hb => by rintro rfl; simp at hb; subst hb; exact hp ha⟩
  · by_cases hk : k < M.length
    · rw [List.getElem?_append_left hk] at h1
      rw [List.getElem?_append_left (by rw [s.len]; exact hk)] at h2
      exact (s.mo k o' a h1 h2).mono (same_upd u h)
    · have hk' : k = M.length := by
        have := (List.getElem?_eq_some_iff.mp h1).1
        simp at this
        omega
      subst hk'
      rw [List.getElem?_append_right (Nat.le_refl _)] at h1
      simp at h1
      subst h1
      rw [List.getElem?_append_right (by rw [s.len]; exact Nat.le_refl _)] at h2
      simp [s.len] at h2
      subst h2
      exact m
  · rcases List.mem_append.mp ha with z | z
    · intro e
      have ne : a ≠ p := fun e => hp (e ▸ z)
      rw [upd_ne ne] at e
      exact s.tr a z e
    · simp at z
      subst z
      rw [upd_same]
      simp
theorem Aft.push {p : Addr} {o : MO} {u : HO} (s : SOk K H M ι) (h : H p = none) : Aft H M ι (upd H p u) (M ++ [o]) (ι ++ [p]) := by
  refine ⟨⟨[p], rfl⟩, fun a o' q _ => by rw [upd_ne (ne_of_none q h)]; exact q, fun a ⟨k, o', h1, h2, h3⟩ => ?_, fun a ha => by
    rcases List.mem_append.mp ha with z | z
    · exact .inl z
    · simp at z; subst z; exact .inr h⟩
  by_cases hk : k < M.length
  · rw [List.getElem?_append_left hk] at h1
    rw [List.getElem?_append_left (by rw [s.len]; exact hk)] at h3
    exact .inl ⟨k, o', h1, h2, h3⟩
  · have hk' : k = M.length := by
      have := (List.getElem?_eq_some_iff.mp h1).1
      simp at this
      omega
    subst hk'
    rw [List.getElem?_append_right (by rw [s.len]; exact Nat.le_refl _)] at h3
    simp [s.len] at h3
    subst h3
    exact .inr h
/-- a list of the store is written -/
theorem Aft.write {k : Nat} {a : Addr} {o : MO} {u : HO} (s : SOk K H M ι) (hk : ι[k]? = some a) (l : Live M ι a) : Aft H M ι (upd H a u) (M.set k o) ι := by
  refine ⟨⟨[], by simp⟩, fun b o' q n => by rw [upd_ne (fun e => n (by rw [e]; exact l))]; exact q, fun b ⟨j, o', h1, h2, h3⟩ => ?_, fun _ z => .inl z⟩
  by_cases e : k = j
  · subst e
    rw [hk] at h3
    cases h3
    exact .inl l
  · rw [List.getElem?_set_ne e] at h1
    exact .inl ⟨j, o', h1, h2, h3⟩
theorem nodup_inj {α : Type} {l : List α} (hN : l.Nodup) {i j : Nat} {x : α} (a : l[i]? = some x) (b : l[j]? = some x) : i = j := by
  obtain ⟨h1, e1⟩ := List.getElem?_eq_some_iff.mp a
  obtain ⟨h2, e2⟩ := List.getElem?_eq_some_iff.mp b
  exact (List.getElem_inj hN).mp (e1.trans e2.symm)
theorem SOk.write {k : Nat} {a : Addr} {o : MO} {u : HO} (s : SOk K H M ι) (hk : ι[k]? = some a) (l : Live M ι a) (m : MRep K (upd H a u) a o) : SOk K (upd H a u) (M.set k o) ι := by
  have kp : Kp H (upd H a u) := (Aft.write (o := o) (u := u) s hk l).kp s
  refine ⟨by simp [s.len], s.nd, fun j o' b h1 h2 => ?_, fun b hb e => ?_⟩
  · by_cases e : k = j
    · subst e
      rw [hk] at h2
      cases h2
      have hl : k < M.length := by
        have := (List.getElem?_eq_some_iff.mp h1).1
        simpa using this
      rw [List.getElem?_set_self hl] at h1
      cases h1
      exact m
    · rw [List.getElem?_set_ne e] at h1
      have ne : b ≠ a := fun z => e (nodup_inj s.nd hk (z ▸ h2))
      have m2 := s.mo j o' b h1 h2
      cases o' with
      | lst ds => obtain ⟨xs, e1, r, hl⟩ := m2; exact ⟨xs, by rw [upd_ne ne]; exact e1, Reps.mono kp _ _ r, hl⟩
      | dic ds => obtain ⟨xs, e1, r⟩ := m2; exact ⟨xs, by rw [upd_ne ne]; exact e1, RepK.mono kp _ _ r⟩
      | dead => exact True.intro
  · by_cases e2 : b = a
    · subst e2; rw [upd_same] at e; cases e
    · rw [upd_ne e2] at e; exact s.tr b hb e
theorem live_of {k : Nat} {a : Addr} {o : MO} (h : M[k]? = some o) (hl : live o = true) (hk : ι[k]? = some a) : Live M ι a := ⟨k, o, h, hl, hk⟩

/-- what may be read as that data now -/
def RepT (K : PySem.W.Frag) (H : Hp) (d : D) (v : V) : Prop :=
  Rep K H d v ∨ (∃ ds xs a, d = .lst ds ∧ v = .ref a ∧ H a = some (.lst xs) ∧ Reps K H ds xs ∧ ds.length ≤ line) ∨ ∃ ds xs a, d = .dic ds ∧ v = .ref a ∧ H a = some (.dK xs) ∧ RepK K H ds xs
theorem rept_of {w : W} {v : V} {d : D} (s : SOk K H M ι) (r : RepW K H ι w v) (h : deref M w = some d) : RepT K H d v := by
  cases w with
  | d x => cases h; exact .inl r
  | m k =>
    obtain ⟨a, h1, rfl⟩ := r
    simp only [deref] at h
    cases e : M[k]? with
    | none => rw [e] at h; cases h
    | some o =>
      rw [e] at h
      cases o with
      | lst xs =>
        cases h
        obtain ⟨ws, q, r⟩ := s.mo k _ a e h1
        exact .inr (.inl ⟨_, ws, a, rfl, rfl, q, r⟩)
      | dic xs =>
        cases h
        obtain ⟨ws, q, r⟩ := s.mo k _ a e h1
        exact .inr (.inr ⟨_, ws, a, rfl, rfl, q, r⟩)
      | dead => cases h
theorem rept_lst {ds : List D} {v : V} (h : RepT K H (.lst ds) v) : ∃ a xs, v = .ref a ∧ SqL K H a xs ∧ Reps K H ds xs := by
  rcases h with h | ⟨ds', xs, a, e, rfl, q, r⟩ | ⟨_, _, _, e, _⟩
  · obtain ⟨a, xs, e, q, r⟩ := rep_lst h
    exact ⟨a, xs, e, q.sq, r⟩
  · cases e
    exact ⟨a, xs, rfl, SqL.of q, r.1⟩
  · cases e
theorem rept_len {ds : List D} {v : V} (h : RepT K H (.lst ds) v) : ds.length ≤ line := by
  rcases h with h | ⟨ds', xs, a, e, rfl, q, r⟩ | ⟨_, _, _, e, _⟩
  · exact len_lst h
  · cases e
    exact r.2
  · cases e
theorem rept_rep {d : D} {v : V} (h : RepT K H d v) (n1 : ∀ x, d ≠ .lst x) (n2 : ∀ x, d ≠ .dic x) : Rep K H d v := by
  rcases h with h | ⟨_, _, _, e, _⟩ | ⟨_, _, _, e, _⟩
  · exact h
  · exact absurd e (n1 _)
  · exact absurd e (n2 _)
theorem rept_tup {ds : List D} {v : V} (h : RepT K H (.tup ds) v) : ∃ a xs, v = .ref a ∧ SqT K H a xs ∧ Reps K H ds xs := rep_tup (rept_rep h (by intro x e; cases e) (by intro x e; cases e))
theorem rept_tlen {ds : List D} {v : V} (h : RepT K H (.tup ds) v) : ds.length ≤ line := len_tup (rept_rep h (by intro x e; cases e) (by intro x e; cases e))
theorem rept_int {i : Int} {v : V} (h : RepT K H (.int i) v) : v = .int i := rep_int (rept_rep h (by intro x e; cases e) (by intro x e; cases e))
theorem rept_bl {i : Bool} {v : V} (h : RepT K H (.bl i) v) : v = .bl i := rep_bl (rept_rep h (by intro x e; cases e) (by intro x e; cases e))
theorem rept_non {v : V} (h : RepT K H .non v) : v = .non := rep_non (rept_rep h (by intro x e; cases e) (by intro x e; cases e))
theorem rept_str {i : List Nat} {v : V} (h : RepT K H (.str i) v) : v = .str (mkS i) ∧ okS i := rep_str (rept_rep h (by intro x e; cases e) (by intro x e; cases e))
theorem RepT.mono {d : D} {v : V} (k : L2.Same H H1) (h : RepT K H d v) : RepT K H1 d v := by
  rcases h with h | ⟨ds, xs, a, e, e2, q, r⟩ | ⟨ds, xs, a, e, e2, q, r⟩
  · exact .inl (Rep.mono (Kp.same k) _ _ h)
  · exact .inr (.inl ⟨ds, xs, a, e, e2, k _ _ q, Reps.mono (Kp.same k) _ _ r.1, r.2⟩)
  · exact .inr (.inr ⟨ds, xs, a, e, e2, k _ _ q, RepK.mono (Kp.same k) _ _ r⟩)

/-! ### a fresh list -/
/-- a new list at p, as data or as a list of the store -/
theorem fin_ok {mu : Bool} {ds : List D} {w : W} {M' : Sto} {p : Addr} {xs : List V} {Q : VK} (s : SOk K H M ι) (hf : fin mu ds M = some (w, M')) (hp : H p = none) (r : Reps K H ds xs) (hl : ds.length ≤ line)
    (h : ∀ v H' ι', Aft H M ι H' M' ι' → SOk K H' M' ι' → RepW K H' ι' w v → Q v H') : fzv Q (.ref p) (upd H p (.lst xs)) := by
  have sm := same_upd (.lst xs) hp
  have r2 : Reps K (upd H p (.lst xs)) ds xs := Reps.mono (Kp.same sm) _ _ r
  unfold fin at hf
  cases mu with
  | true =>
    simp only [if_true, Option.some.injEq, Prod.mk.injEq] at hf
    obtain ⟨rfl, rfl⟩ := hf
    refine .inl (h _ _ (ι ++ [p]) (Aft.push s hp) (s.push hp ⟨xs, upd_same, r2, hl⟩) ⟨p, ?_, rfl⟩)
    rw [List.getElem?_append_right (by rw [s.len]; exact Nat.le_refl _), s.len]
    simp
  | false =>
    simp only [Bool.false_eq_true, if_false, Option.some.injEq, Prod.mk.injEq] at hf
    obtain ⟨rfl, rfl⟩ := hf
    refine .inr ⟨p, .lst xs, rfl, upd_same, True.intro, fun od => ?_⟩
    have sm2 := same_upd2 (.lst xs) (.frz od (.lst xs)) hp
    exact h _ _ ι (Aft.same sm2) (s.same sm2) (mk_lst (.inl ⟨od, upd_same⟩) (Reps.mono (Kp.same sm2) _ _ r) hl)
end
end Pv

/-! PvOps: operators by values. -/
namespace Pv
open PySem L2 PyProof.Rows

/-- an operator of two values, by its data -/
def rW (K : PySem.W.Frag) (g : D → D → Option D) : R2 := fun x y H Q => ∃ dx dy dz, RepT K H dx x ∧ RepT K H dy y ∧ g dx dy = some dz ∧ ∀ v H', L2.Same H H' → Rep K H' dz v → Q v H'
section
variable {X : Cx}
theorem line_eq : sizeLine = 16777216 := rfl
theorem same_rfl (H : Hp) : L2.Same H H := L2.Same.refl H

theorem cat_tup0 {prog : Program} {w : World} {A : Around} {E : Value → Shared → Prop} {s : Shared} {t b : Addr} {vs ws : List Value} {Q : Value → Shared → Prop} (ht : IsTup s.heap t vs.toArray) (hb : IsTup s.heap b ws.toArray) (hv : vs = [])
    (h1 : Q (.ref b) s) : wpAny (model prog w) A (binaryOp .Add (.ref t) (.ref b)) Q E s := by
  obtain ⟨⟨cls, dd, data, sl⟩, ho, hc, n, hd⟩ := id ht
  obtain ⟨⟨cls2, dd2, data2, sl2⟩, ho2, hc2, n2, hd2⟩ := id hb
  simp only at hc hd hc2 hd2
  subst hc hd hc2 hd2
  exact concat_meets ⟨_, ho, rfl⟩ ⟨_, ho2, rfl⟩ noFill_tuple_add seq_tuple_add PySem.F.slot_tuple_add PySem.F.entry_tuple_add (PySem.F.args_tuple_add_2 _ _)
      (tuple_addW0 t b vs.toArray ws.toArray n n2 dd dd2 sl sl2 (by simp [hv])) ⟨ho, ho2, h1⟩
theorem op_addT : OpR X (binaryOp .Add) (fun x y H Q => ∃ a b xs ys, x = .ref a ∧ y = .ref b ∧ SqT X.K H a xs ∧ SqT X.K H b ys ∧ xs.length + ys.length ≤ sizeLine ∧
    (xs = [] → Q (.ref b) H) ∧ (ys = [] → Q (.ref a) H) ∧ ∀ p, H p = none → Q (.ref p) (upd H p (.tup (xs ++ ys)))) := by
  intro pins s σ H x y v u Q I rx ry h
  obtain ⟨a, b, xs, ys, rfl, rfl, ha, hb, hz, q0, q1, q2⟩ := h
  by_cases hx : xs = []
  · cases rx
    cases ry
    obtain ⟨its, r1, p1, _⟩ := I.tuple ha
    obtain ⟨its2, r2, p2, _⟩ := I.tuple hb
    exact cat_tup0 p1 p2 (r1.nil_iff.mpr hx) ⟨.ref b, H, I, rfl, q0 hx⟩
  · exact op_catT pins s σ H _ _ v u Q I rx ry ⟨a, b, xs, ys, rfl, rfl, ha, hb, hx, hz, q1, fun _ => q2⟩
theorem op_addL : OpR X (binaryOp .Add) (fun x y H Q => ∃ l b xs zs, x = .ref l ∧ y = .ref b ∧ SqL X.K H l xs ∧ SqL X.K H b zs ∧ xs.length + zs.length ≤ sizeLine ∧ ∀ p, H p = none → Q (.ref p) (upd H p (.lst (xs ++ zs)))) := by
  intro pins s σ H x y v u Q I rx ry h
  obtain ⟨l, b, xs, zs, rfl, rfl, hH, hB, hz, q⟩ := h
  cases rx
  cases ry
  obtain ⟨its, r, ⟨⟨c1, dd1, da1, sl1⟩, n, e, hc, hdd, hd⟩, z⟩ := I.list hH
  obtain ⟨its2, r2, ⟨⟨c2, dd2, da2, sl2⟩, n2, e2, hc2, hdd2, hd2⟩, z2⟩ := I.list hB
  simp only at hc hdd hd hc2 hdd2 hd2
  subst hc hdd hd hc2 hdd2 hd2
  refine concat_meets ⟨_, e, rfl⟩ ⟨_, e2, rfl⟩ noFill_list_add seq_list_add PySem.F.slot_list_add PySem.F.entry_list_add (PySem.F.args_list_add_2 _ _)
    (list_addW l b its.toArray its2.toArray n n2 none none sl1 sl2 (by rw [List.size_toArray, List.size_toArray, ← r.length, ← r2.length]; exact hz)) ⟨e, e2, ?_⟩
  have ea : its.toArray ++ its2.toArray = (its ++ its2).toArray := by simp
  rw [ea]
  exact ⟨.ref _, _, I.lnew (t' := s.toks) (r.append r2) (by rw [List.length_append]; omega), rfl, q _ I.fresh⟩
theorem foldl_repN (its : List Nat) : ∀ (k : Nat) (acc : List Nat),
    List.foldl (fun x1 x2 => x1 ++ x2) acc.toArray (List.replicate k its.toArray) = (acc ++ (List.replicate k its).flatten).toArray
  | 0, acc => by simp
  | k + 1, acc => by
    have e : acc.toArray ++ its.toArray = (acc ++ its).toArray := by simp
    have e2 : (acc ++ its) ++ (List.replicate k its).flatten = acc ++ (List.replicate (k + 1) its).flatten := by
      rw [List.replicate_succ, List.flatten_cons, List.append_assoc]
    rw [← e2, ← foldl_repN its k (acc ++ its), ← e, List.replicate_succ, List.foldl_cons]
theorem len_rep (a : List Nat) (k : Nat) : ((List.replicate k a).flatten).length = a.length * k := by
  induction k with
  | zero => simp
  | succ k ih => rw [List.replicate_succ, List.flatten_cons, List.length_append, ih, Nat.mul_succ, Nat.add_comm]
theorem op_mulS : OpR X (binaryOp .Mult) (fun x y H Q => ∃ a j, x = .str (mkS a) ∧ y = .int j ∧ a.length * j.toNat ≤ 16777216 ∧ -4611686018427387904 ≤ j ∧ j ≤ 4611686018427387904 ∧ Q (.str (mkS (List.replicate j.toNat a).flatten)) H) := by
  intro pins s σ H x y v u Q I rx ry h
  obtain ⟨a, j, rfl, rfl, hz, h1, h2, q⟩ := h
  obtain ⟨t, rfl⟩ := rx
  obtain ⟨t', rfl⟩ := ry
  have hl : (mkS a).length = a.length := mkS_len a
  have g1 : ¬ j < -(2 ^ 63 : Int) := by
    have e : (-(2 ^ 63 : Int)) = -9223372036854775808 := by decide
    rw [e]; omega
  have g2 : ¬ j ≥ (2 ^ 63 : Int) := by
    have e : ((2 ^ 63 : Int)) = 9223372036854775808 := by decide
    rw [e]; omega
  by_cases hj : j < 1
  · refine PySem.P.mul_str_none hj g1 ⟨.str (mkS []), H, I.tok _, ⟨s.toks, rfl⟩, ?_⟩
    have e : j.toNat = 0 := by omega
    rw [e] at q
    exact q
  · refine PySem.P.mul_str (by rw [decide_eq_false g1, decide_eq_false g2]; rfl) (fun _ _ => ?_) (fun _ _ => ?_) ?_
    · rw [hl]
      have hj0 : (0 : Int) < j := by omega
      have h5 : (a.length : Int) * j ≤ 16777216 := by
        have e : ((j.toNat : Nat) : Int) = j := by omega
        have h7 : ((a.length * j.toNat : Nat) : Int) ≤ ((16777216 : Nat) : Int) := Int.ofNat_le.mpr hz
        rw [Int.natCast_mul, e] at h7
        exact h7
      have h6 : (a.length : Int) ≤ (2 ^ 63 - 1) / j := by
        rw [Int.le_ediv_iff_mul_le hj0]
        have e : ((2 ^ 63 - 1 : Int)) = 9223372036854775807 := by decide
        rw [e]; omega
      omega
    · rw [hl]
      show decide _ = false
      rw [decide_eq_false]
      rw [line_eq]
      omega
    · rw [if_neg hj]
      split
      · rename_i hc
        refine ⟨.str (mkS a), H, I, ⟨t, rfl⟩, ?_⟩
        rw [Bool.or_eq_true, beq_iff_eq, beq_iff_eq, hl] at hc
        rcases hc with hc | hc
        · subst hc
          have e : (List.replicate (1 : Int).toNat a).flatten = a := by
            show a ++ [] = a
            rw [List.append_nil]
          rw [e] at q
          exact q
        · have : a = [] := List.length_eq_zero_iff.mp hc
          subst this
          have e : (List.replicate j.toNat ([] : List Nat)).flatten = [] := List.length_eq_zero_iff.mp (by rw [len_rep]; simp)
          rw [e] at q
          exact q
      · have e : (⟨(List.replicate j.toNat (mkS a).cps).foldl (· ++ ·) #[]⟩ : Str) = mkS (List.replicate j.toNat a).flatten := by
          have := foldl_repN a j.toNat []
          rw [List.nil_append] at this
          exact congrArg Str.mk this
        rw [e]
        refine ⟨?_, .str (mkS (List.replicate j.toNat a).flatten), H, I.tok _, ⟨s.toks, rfl⟩, q⟩
        rw [mkS_len, len_rep, line_eq]
        exact hz

def toOp : BOp → Operator
  | .add => .Add
  | .sub => .Sub
  | .mul => .Mult
  | .fdiv => .FloorDiv
  | .mod => .Mod
  | .pow => .Pow
theorem ite_some {α : Type} {c : Prop} [Decidable c] {a b : α} (h : (if c then some a else none) = some b) : c ∧ a = b := by
  by_cases hc : c
  · rw [if_pos hc] at h; exact ⟨hc, Option.some.inj h⟩
  · rw [if_neg hc] at h; cases h
theorem okS_app {a b : List Nat} (h1 : okS a) (h2 : okS b) : okS (a ++ b) := fun c hc => (List.mem_append.mp hc).elim (h1 c) (h2 c)
theorem okS_rep {a : List Nat} (h1 : okS a) (k : Nat) : okS (List.replicate k a).flatten := fun c hc => by
  obtain ⟨l, hl, hc⟩ := List.mem_flatten.mp hc
  rw [List.mem_replicate] at hl
  rw [hl.2] at hc
  exact h1 c hc
theorem int_lt_200 {j : Int} (h0 : 0 < j) (h : j < 2 ^ 200) (i : Int) : CDivW i j := wide_div h0 (b := 200) (by
  have e : ((j.natAbs : Nat) : Int) = j := by omega
  have e2 : (((2 : Nat) ^ 200 : Nat) : Int) = (2 : Int) ^ 200 := by decide
  have : ((j.natAbs : Nat) : Int) < (((2 : Nat) ^ 200 : Nat) : Int) := by rw [e, e2]; exact h
  exact Int.ofNat_lt.mp this) (by decide) (by decide)
theorem op_binW (o : BOp) : OpR X (binaryOp (toOp o)) (rW X.K (binE o)) := by
  intro pins s σ H x y v u Q I rx ry h
  obtain ⟨dx, dy, dz, r1, r2, g, q⟩ := h
  have fint : ∀ {i : Int}, dz = .int i → Q (.int i) H := fun {i} e => q _ H (same_rfl H) (by rw [e]; exact mk_int i)
  cases o with
  | add =>
    cases dx <;> cases dy <;> simp only [binE] at g <;> first | (cases g; done) | skip
    · cases g
      exact op_add pins s σ H x y v u Q I rx ry ⟨_, _, rept_int r1, rept_int r2, fint rfl⟩
    · obtain ⟨hl, rfl⟩ := ite_some g
      obtain ⟨e1, o1⟩ := rept_str r1
      obtain ⟨e2, o2⟩ := rept_str r2
      refine op_add_str pins s σ H x y v u Q I rx ry ⟨_, _, e1, e2, by rw [mkS_len, mkS_len, line_eq]; exact hl, ?_⟩
      rw [mkS_app]
      exact q _ H (same_rfl H) (mk_str (okS_app o1 o2))
    · obtain ⟨hl, rfl⟩ := ite_some g
      obtain ⟨a, xs, e1, h1, p1⟩ := rept_tup r1
      obtain ⟨b, ys, e2, h2, p2⟩ := rept_tup r2
      subst e1 e2
      refine op_addT pins s σ H _ _ v u Q I rx ry ⟨a, b, xs, ys, rfl, rfl, h1, h2, by rw [← p1.len, ← p2.len, line_eq]; exact hl, fun e => ?_, fun e => ?_, fun p hp => ?_⟩
      · subst e
        have e3 := p1.len
        rw [List.length_nil] at e3
        rw [List.length_eq_zero_iff.mp e3, List.nil_append] at q
        exact q _ H (same_rfl H) (mk_tup h2 p2 (rept_tlen r2))
      · subst e
        have e3 := p2.len
        rw [List.length_nil] at e3
        rw [List.length_eq_zero_iff.mp e3, List.append_nil] at q
        exact q _ H (same_rfl H) (mk_tup h1 p1 (rept_tlen r1))
      · have sm := same_upd (.tup (xs ++ ys)) hp
        exact q _ _ sm (mk_tup (SqT.of upd_same) (Reps.mono (Kp.same sm) _ _ (p1.app p2)) (by rw [List.length_append]; exact hl))
    · obtain ⟨hl, rfl⟩ := ite_some g
      obtain ⟨a, xs, e1, h1, p1⟩ := rept_lst r1
      obtain ⟨b, ys, e2, h2, p2⟩ := rept_lst r2
      subst e1 e2
      refine op_fz op_addL pins s σ H _ _ v u Q I rx ry ⟨a, b, xs, ys, rfl, rfl, h1, h2, by rw [← p1.len, ← p2.len, line_eq]; exact hl, fun p hp => .inr ⟨p, _, rfl, upd_same, True.intro, fun od => ?_⟩⟩
      have sm := same_upd2 (.lst (xs ++ ys)) (.frz od (.lst (xs ++ ys))) hp
      exact q _ _ sm (mk_lst (.inl ⟨od, upd_same⟩) (Reps.mono (Kp.same sm) _ _ (p1.app p2)) (by rw [List.length_append]; exact hl))
  | sub =>
    cases dx <;> cases dy <;> simp only [binE] at g <;> first | (cases g; done) | skip
    cases g
    exact op_sub pins s σ H x y v u Q I rx ry ⟨_, _, rept_int r1, rept_int r2, fint rfl⟩
  | mul =>
    cases dx <;> cases dy <;> simp only [binE] at g <;> first | (cases g; done) | skip
    · obtain ⟨hl, rfl⟩ := ite_some g
      refine op_mul pins s σ H x y v u Q I rx ry ⟨_, _, rept_int r1, rept_int r2, ?_, fint rfl⟩
      unfold mulOk at hl
      simp only [Bool.or_eq_true, Bool.and_eq_true, decide_eq_true_eq] at hl
      exact hl
    · obtain ⟨⟨h1, h2, h3⟩, rfl⟩ := ite_some g
      obtain ⟨e1, o1⟩ := rept_str r1
      exact op_mulS pins s σ H x y v u Q I rx ry ⟨_, _, e1, rept_int r2, h1, h2, h3, q _ H (same_rfl H) (mk_str (okS_rep o1 _))⟩
  | fdiv =>
    cases dx <;> cases dy <;> simp only [binE] at g <;> first | (cases g; done) | skip
    obtain ⟨⟨h1, h2⟩, rfl⟩ := ite_some g
    exact op_fdivW pins s σ H x y v u Q I rx ry ⟨_, _, rept_int r1, rept_int r2, int_lt_200 h1 h2 _, fint rfl⟩
  | mod =>
    cases dx <;> cases dy <;> simp only [binE] at g <;> first | (cases g; done) | skip
    obtain ⟨h1, rfl⟩ := ite_some g
    exact op_mod pins s σ H x y v u Q I rx ry ⟨_, _, rept_int r1, rept_int r2, h1, fint rfl⟩
  | pow =>
    cases dx <;> cases dy <;> simp only [binE] at g <;> first | (cases g; done) | skip
    obtain ⟨⟨h1, h2, h3⟩, rfl⟩ := ite_some g
    refine op_pow pins s σ H x y v u Q I rx ry ⟨_, _, rept_int r1, rept_int r2, ⟨h1, by omega, ?_⟩, fint rfl⟩
    exact Nat.lt_trans h3 (by decide)
end
end Pv

/-! PvCmp: comparisons by values. -/
namespace Pv
open PySem L2 PyProof.Rows

mutual
def toPy : D → PyData
  | .non => .none
  | .bl b => .bool b
  | .int i => .int i
  | .str s => .str (mkS s)
  | .tup xs => .tuple (toPys xs)
  | .lst xs => .list (toPys xs)
  | .dic _ => .dict []
def toPys : List D → List PyData
  | [] => []
  | x :: xs => toPy x :: toPys xs
end
mutual
theorem depth_toPy : ∀ d : D, nodic d = true → (toPy d).depth = ddep d
  | .non, _ => by simp only [toPy, PyData.depth, ddep]
  | .bl _, _ => by simp only [toPy, PyData.depth, ddep]
  | .int _, _ => by simp only [toPy, PyData.depth, ddep]
  | .str _, _ => by simp only [toPy, PyData.depth, ddep]
  | .tup xs, h => by
    simp only [toPy, PyData.depth, ddep]
    rw [depth_toPys xs (by simpa [nodic] using h)]
  | .lst xs, h => by
    simp only [toPy, PyData.depth, ddep]
    rw [depth_toPys xs (by simpa [nodic] using h)]
  | .dic _, h => by simp [nodic] at h
theorem depth_toPys : ∀ d : List D, nodics d = true → PyData.depthAll (toPys d) = ddeps d
  | [], _ => by simp only [toPys, PyData.depthAll, ddeps]
  | x :: xs, h => by
    simp only [nodics, Bool.and_eq_true] at h
    simp only [toPys, PyData.depthAll, ddeps]
    rw [depth_toPy x h.1, depth_toPys xs h.2]
end
theorem mkS_beq (a b : List Nat) : (mkS a == mkS b) = (a == b) := by
  have := (PyProof.Rows.toList_beq (mkS a) (mkS b)).symm
  rw [mkS_tl, mkS_tl] at this
  exact this
mutual
theorem eqv_toPy : ∀ a b : D, nodic a = true → nodic b = true → PyData.eqv (toPy a) (toPy b) = deq a b
  | .non, b, _, hb => by cases b <;> simp [toPy, PyData.eqv, deq, nodic] at hb ⊢
  | .bl x, b, _, hb => by cases b <;> simp [toPy, PyData.eqv, deq, nodic, b2i] at hb ⊢
  | .int x, b, _, hb => by cases b <;> simp [toPy, PyData.eqv, deq, nodic, b2i] at hb ⊢
  | .str x, b, _, hb => by cases b <;> simp [toPy, PyData.eqv, deq, nodic, mkS_beq] at hb ⊢
  | .tup xs, b, ha, hb => by
    cases b with
    | tup ys =>
      simp only [toPy, PyData.eqv, deq]
      exact eqv_toPys xs ys (by simpa [nodic] using ha) (by simpa [nodic] using hb)
    | _ => simp [toPy, PyData.eqv, deq, nodic] at hb ⊢
  | .lst xs, b, ha, hb => by
    cases b with
    | lst ys =>
      simp only [toPy, PyData.eqv, deq]
      exact eqv_toPys xs ys (by simpa [nodic] using ha) (by simpa [nodic] using hb)
    | _ => simp [toPy, PyData.eqv, deq, nodic] at hb ⊢
  | .dic _, _, ha, _ => by simp [nodic] at ha
theorem eqv_toPys : ∀ a b : List D, nodics a = true → nodics b = true → PyData.eqvAll (toPys a) (toPys b) = deqs a b
  | [], [], _, _ => by simp only [toPys, PyData.eqvAll, deqs]
  | [], _ :: _, _, _ => by simp only [toPys, PyData.eqvAll, deqs]
  | _ :: _, [], _, _ => by simp only [toPys, PyData.eqvAll, deqs]
  | x :: xs, y :: ys, ha, hb => by
    simp only [nodics, Bool.and_eq_true] at ha hb
    simp only [toPys, PyData.eqvAll, deqs]
    rw [eqv_toPy x y ha.1 hb.1, eqv_toPys xs ys ha.2 hb.2]
end
section
variable {K : PySem.W.Frag} {H : Hp}
mutual
theorem dp_of : ∀ (d : D) (v : V), nodic d = true → Rep K H d v → Dp K H v (toPy d) ∧ (toPy d).canLay0 = true
  | .non, _, _, h => by rw [rep_non h]; exact ⟨.non, by simp [toPy, PyData.canLay0]⟩
  | .bl _, _, _, h => by rw [rep_bl h]; exact ⟨.bl _, by simp [toPy, PyData.canLay0]⟩
  | .int _, _, _, h => by rw [rep_int h]; exact ⟨.int _, by simp [toPy, PyData.canLay0]⟩
  | .str s, _, _, h => by
    obtain ⟨e, o⟩ := rep_str h
    rw [e]
    exact ⟨.str _, by simp only [toPy, PyData.canLay0]; exact strOk_mkS o⟩
  | .tup xs, _, n, h => by
    obtain ⟨a, vs, rfl, q, r⟩ := rep_tup h
    obtain ⟨h1, h2⟩ := dps_of xs vs (by simpa [nodic] using n) r
    exact ⟨.tup q h1, by simp only [toPy, PyData.canLay0]; exact h2⟩
  | .lst xs, _, n, h => by
    obtain ⟨a, vs, rfl, q, r⟩ := rep_lst h
    obtain ⟨h1, h2⟩ := dps_of xs vs (by simpa [nodic] using n) r
    exact ⟨.lst q.sq h1, by simp only [toPy, PyData.canLay0]; exact h2⟩
  | .dic _, _, n, _ => by simp [nodic] at n
theorem dps_of : ∀ (d : List D) (v : List V), nodics d = true → Reps K H d v → DpAll K H v (toPys d) ∧ PyData.canLayAll0 (toPys d) = true
  | [], _, _, h => by rw [reps_nil h]; exact ⟨.nil, by simp [toPys, PyData.canLayAll0]⟩
  | x :: xs, _, n, h => by
    obtain ⟨v, vs, rfl, q, r⟩ := reps_cons h
    simp only [nodics, Bool.and_eq_true] at n
    obtain ⟨h1, h2⟩ := dp_of x v n.1 q
    obtain ⟨h3, h4⟩ := dps_of xs vs n.2 r
    exact ⟨.cons h1 h3, by simp only [toPys, PyData.canLayAll0, h2, h4, Bool.and_self]⟩
end
theorem dpt_of {d : D} {v : V} (n : nodic d = true) (h : RepT K H d v) : Dp K H v (toPy d) ∧ (toPy d).canLay0 = true := by
  rcases h with h | ⟨ds, xs, a, rfl, rfl, q, r⟩ | ⟨ds, xs, a, rfl, rfl, q, r⟩
  · exact dp_of d v n h
  · obtain ⟨h1, h2⟩ := dps_of ds xs (by simpa [nodic] using n) r.1
    exact ⟨.lst (SqL.of q) h1, by simp only [toPy, PyData.canLay0]; exact h2⟩
  · simp [nodic] at n
end
theorem eqOk_iff {d : D} (h : eqOk d = true) : nodic d = true ∧ ddep d ≤ 180 := by
  unfold eqOk at h
  simpa using h
section
variable {X : Cx}
/-- == at one pair, at the level of the library -/
theorem eqAt_D {pins : List (Addr × Obj)} {σ : L2.St} {H : Hp} {s : Shared} {A : Around} (hu : A.units + 181 < cLine) (I : Inv X pins σ H s) {a b : D} {x y : V} {u w : Value} (ha : eqOk a = true) (hb : eqOk b = true) (r1 : RepT X.K H a x) (r2 : RepT X.K H b y) (q1 : RelV x u) (q2 : RelV y w) :
    SeqAt.EqAt A s u w (deq a b) := by
  obtain ⟨n1, d1⟩ := eqOk_iff ha
  obtain ⟨n2, d2⟩ := eqOk_iff hb
  obtain ⟨p1, c1⟩ := dpt_of n1 r1
  obtain ⟨p2, c2⟩ := dpt_of n2 r2
  obtain ⟨as, e1⟩ := Dp.reads I _ _ _ p1 q1
  obtain ⟨bs, e2⟩ := Dp.reads I _ _ _ p2 q2
  rw [← eqv_toPy a b n1 n2]
  refine SeqAt.eqAt_reads _ _ A s u w as bs e1 e2 c1 c2 ?_
  rw [depth_toPy a n1, depth_toPy b n2]
  have := Nat.min_le_left (ddep a) (ddep b)
  omega
def toC : COp → CmpOp
  | .eq => .Eq
  | .ne => .NotEq
  | .lt => .Lt
  | .le => .LtE
  | .gt => .Gt
  | .ge => .GtE
  | .isN => .Is
  | .notN => .IsNot
  | .inn => .In
  | .notin => .NotIn
/-- a comparison of two values, by its data -/
def rC (K : PySem.W.Frag) (g : D → D → Option Bool) : R2 := fun x y H Q => ∃ dx dy b, RepT K H dx x ∧ RepT K H dy y ∧ g dx dy = some b ∧ Q (.bl b) H
theorem any_in {pins : List (Addr × Obj)} {σ : L2.St} {H : Hp} {s : Shared} {A : Around} (hu : A.units + 181 < cLine) (I : Inv X pins σ H s) {a : D} {x : V} {u : Value} (ha : eqOk a = true) (r1 : RepT X.K H a x) (q1 : RelV x u) :
    ∀ {ds : List D} {vs : List V} {us : List Value}, ds.all eqOk = true → Reps X.K H ds vs → Vals vs us → ∃ e : Value → Bool, (∀ w ∈ us, SeqAt.EqAt A s w u (e w)) ∧ us.any e = inD a ds := by
  intro ds vs us hd hr hv
  obtain ⟨na, da⟩ := eqOk_iff ha
  have key : ∀ {ds : List D} {vs : List V} {us : List Value}, ds.all eqOk = true → Reps X.K H ds vs → Vals vs us → Paired (fun (d : D) (w : Value) => SeqAt.EqAt A s w u (deq d a) ∧ nodic d = true ∧ ∃ as, Reads s.heap w (toPy d) as) ds us := by
    intro ds
    induction ds with
    | nil => intro vs us _ hr hv; rw [reps_nil hr] at hv; cases hv; exact .nil
    | cons d ds ih =>
      intro vs us hd hr hv
      obtain ⟨v, vs', rfl, r, rs⟩ := reps_cons hr
      cases hv with
      | cons q qs =>
        rw [List.all_cons, Bool.and_eq_true] at hd
        obtain ⟨n1, d1⟩ := eqOk_iff hd.1
        exact .cons ⟨eqAt_D hu I hd.1 ha (.inl r) r1 q q1, n1, Dp.reads I _ _ _ (dp_of _ _ n1 r).1 q⟩ (ih hd.2 rs qs)
  have P := key hd hr hv
  open Classical in
  let e : Value → Bool := fun w => if h : ∃ (p : PyData) (as : List Addr), Reads s.heap w p as then PyData.eqv h.choose (toPy a) else false
  have he : ∀ (d : D) (w : Value), nodic d = true → (∃ as, Reads s.heap w (toPy d) as) → e w = deq d a := by
    intro d w n ⟨as, h⟩
    have hx : ∃ (p : PyData) (as : List Addr), Reads s.heap w p as := ⟨_, as, h⟩
    show (if h : ∃ (p : PyData) (as : List Addr), Reads s.heap w p as then PyData.eqv h.choose (toPy a) else false) = _
    rw [dif_pos hx]
    obtain ⟨bs, h2⟩ := hx.choose_spec
    rw [(h2.unique _ _ h).1]
    exact eqv_toPy d a n na
  refine ⟨e, ?_, ?_⟩
  · clear hd hr hv key
    induction P with
    | nil => intro w hw; cases hw
    | @cons d w ds us h _ ih =>
      intro w' hw
      rcases List.mem_cons.mp hw with rfl | hw
      · rw [he d _ h.2.1 h.2.2]; exact h.1
      · exact ih w' hw
  · clear hd hr hv key
    unfold inD
    induction P with
    | nil => rfl
    | @cons d w ds us h _ ih => rw [List.any_cons, List.any_cons, ih, he d _ h.2.1 h.2.2]

theorem repK_any {K : PySem.W.Frag} {H : Hp} (z : List Nat) : ∀ {kvs : List (List Nat × D)} {ws : List (Key × V)}, RepK K H kvs ws → (ws.any fun kv => decide (kv.1 = .inr (mkS z))) = kvs.any fun p => p.1 == z
  | [], ws, r => by rw [show ws = [] from by unfold RepK at r; exact r]; rfl
  | (k, d) :: kvs, ws, r => by
    unfold RepK at r
    obtain ⟨v, vs, rfl, o, q, r⟩ := r
    rw [List.any_cons, List.any_cons, repK_any z r]
    congr 1
    by_cases hk : k = z
    · subst hk; simp
    · have : ¬ (Sum.inr (mkS k) : Key) = Sum.inr (mkS z) := fun e => hk (mkS_inj (Sum.inr.inj e))
      simp [hk, this]
theorem repK_look {K : PySem.W.Frag} {H : Hp} (z : List Nat) : ∀ {kvs : List (List Nat × D)} {ws : List (Key × V)}, RepK K H kvs ws → (kvs.lookup z = none ∧ valV ws (.inr (mkS z)) = none) ∨ ∃ d v, kvs.lookup z = some d ∧ valV ws (.inr (mkS z)) = some v ∧ Rep K H d v
  | [], ws, r => by rw [show ws = [] from by unfold RepK at r; exact r]; exact .inl ⟨rfl, rfl⟩
  | (k, d) :: kvs, ws, r => by
    unfold RepK at r
    obtain ⟨v, vs, rfl, o, q, r⟩ := r
    by_cases hk : k = z
    · subst hk
      exact .inr ⟨d, v, by simp [List.lookup_cons], valV_pos rfl, q⟩
    · have h1 : ¬ (Sum.inr (mkS k) : Key) = Sum.inr (mkS z) := fun e => hk (mkS_inj (Sum.inr.inj e))
      have h2 : (z == k) = false := by simpa using fun e : z = k => hk e.symm
      rcases repK_look z r with ⟨a, b⟩ | ⟨d', v', a, b, c⟩
      · exact .inl ⟨by rw [List.lookup_cons, h2]; exact a, by rw [valV_neg h1]; exact b⟩
      · exact .inr ⟨d', v', by rw [List.lookup_cons, h2]; exact a, by rw [valV_neg h1]; exact b, c⟩
theorem opc_in {neg : Bool} {pins : List (Addr × Obj)} {s : Shared} {σ : L2.St} {H : Hp} {x y : V} {v u : Value} {Q : Value → Shared → Prop} (hu : X.A.units + 190 < cLine) (I : Inv X pins σ H s) (rx : RelV x v) (ry : RelV y u) {dx dy : D} {b : Bool} (r1 : RepT X.K H dx x) (r2 : RepT X.K H dy y) (g : inE dx dy = some b)
    (q : ∀ s', Inv X pins σ H s' → Q (.bool (if neg then !b else b)) s') : wpAny (model X.prog X.w) X.A (compareOp (if neg then .NotIn else .In) v u) Q X.xe s := by
  have hA : X.A.in1.units + 181 < cLine := by show X.A.units + 1 + 181 < cLine; omega
  cases dy with
  | lst xs =>
    simp only [inE] at g
    by_cases c : (eqOk dx && xs.all eqOk) = true
    · rw [if_pos c] at g
      cases g
      rw [Bool.and_eq_true] at c
      obtain ⟨a, vs, rfl, h2, p2⟩ := rept_lst r2
      cases ry
      obtain ⟨its, r, pl, _⟩ := I.list h2
      obtain ⟨e, e1, e2⟩ := any_in hA I c.1 r1 rx c.2 p2 r
      cases neg with
      | false => exact SeqAt.in_listAt e pl.isList (fun w hw => e1 w (by simpa using hw)) (by have := q s I; simp only [Bool.false_eq_true, if_false] at this; rw [← e2] at this; simpa using this)
      | true => exact SeqAt.notIn_listAt e pl.isList (fun w hw => e1 w (by simpa using hw)) (by have := q s I; simp only [if_true] at this; rw [← e2] at this; simpa using this)
    · rw [if_neg c] at g; cases g
  | tup xs =>
    simp only [inE] at g
    by_cases c : (eqOk dx && xs.all eqOk) = true
    · rw [if_pos c] at g
      cases g
      rw [Bool.and_eq_true] at c
      obtain ⟨a, vs, rfl, h2, p2⟩ := rept_tup r2
      cases ry
      obtain ⟨its, r, pl, _⟩ := I.tuple h2
      obtain ⟨e, e1, e2⟩ := any_in hA I c.1 r1 rx c.2 p2 r
      cases neg with
      | false => exact SeqAt.in_tupleAt e pl (fun w hw => e1 w (by simpa using hw)) (by have := q s I; simp only [Bool.false_eq_true, if_false] at this; rw [← e2] at this; simpa using this)
      | true => exact SeqAt.notIn_tupleAt e pl (fun w hw => e1 w (by simpa using hw)) (by have := q s I; simp only [if_true] at this; rw [← e2] at this; simpa using this)
    · rw [if_neg c] at g; cases g
  | str t =>
    simp only [inE] at g
    cases dx with
    | str z =>
      match z, g with
      | [c], g =>
        cases g
        obtain ⟨rfl, _⟩ := rept_str r1
        obtain ⟨rfl, _⟩ := rept_str r2
        obtain ⟨t1, rfl⟩ := rx
        obtain ⟨t2, rfl⟩ := ry
        have e : (!(Builtin.Str.occurrences (mkS t) (mkS [c]) 0 (mkS t).length 1).isEmpty) = decide (c ∈ t) := by
          have := StrLaws.found_one (mkS t) c
          rw [mkS_tl] at this
          exact this
        cases neg with
        | false => exact in_str (by rw [e]; exact q s I)
        | true => exact notIn_str (by rw [e]; exact q s I)
    | _ => cases g
  | dic kvs =>
    simp only [inE] at g
    cases dx with
    | str z =>
      cases g
      obtain ⟨rfl, oz⟩ := rept_str r1
      have hd : ∃ a ws, y = .ref a ∧ Rd H a (.dK ws) ∧ RepK X.K H kvs ws := by
        rcases r2 with h | ⟨_, _, _, e, _⟩ | ⟨ds, xs, a, e, e2, q, r⟩
        · obtain ⟨a, o, ws, e, h, r⟩ := rep_dic h
          exact ⟨a, ws, e, .inr ⟨o, h⟩, r⟩
        · cases e
        · cases e; exact ⟨a, xs, e2, .inl q, r⟩
      obtain ⟨a, ws, rfl, h, r⟩ := hd
      cases ry
      have dg : DGet H a (kV (.inr (mkS z))) (valV ws (.inr (mkS z))) := .inl ⟨ws, _, h, rfl, rfl⟩
      have e : (valV ws (.inr (mkS z))).isSome = kvs.any fun p => p.1 == z := by
        rw [← valV_any]
        exact repK_any z r
      cases neg with
      | false => exact d_in (by omega) I dg rx fun s' I' => by rw [e]; exact q s' I'
      | true => exact d_notIn (by omega) I dg rx fun s' I' => by rw [e]; exact q s' I'
    | _ => cases g
  | _ => cases g
theorem op_cmpW (o : COp) (hu : X.A.units + 190 < cLine) : OpR X (compareOp (toC o)) (rC X.K (cmpE o)) := by
  intro pins s σ H x y v u Q I rx ry h
  obtain ⟨dx, dy, b, r1, r2, g, q⟩ := h
  have hk : (toC o = .Eq ∨ toC o = .NotEq) → eqOk dx = true ∧ eqOk dy = true → ∃ as bs, Reads s.heap v (toPy dx) as ∧ Reads s.heap u (toPy dy) bs ∧ (toPy dx).canLay0 = true ∧ (toPy dy).canLay0 = true ∧ X.A.units + min (toPy dx).depth (toPy dy).depth < cLine ∧ PyData.eqv (toPy dx) (toPy dy) = deq dx dy := by
    intro _ ⟨h1, h2⟩
    obtain ⟨n1, d1⟩ := eqOk_iff h1
    obtain ⟨n2, d2⟩ := eqOk_iff h2
    obtain ⟨p1, c1⟩ := dpt_of n1 r1
    obtain ⟨p2, c2⟩ := dpt_of n2 r2
    obtain ⟨as, e1⟩ := Dp.reads I _ _ _ p1 rx
    obtain ⟨bs, e2⟩ := Dp.reads I _ _ _ p2 ry
    refine ⟨as, bs, e1, e2, c1, c2, ?_, eqv_toPy _ _ n1 n2⟩
    rw [depth_toPy _ n1, depth_toPy _ n2]
    have := Nat.min_le_left (ddep dx) (ddep dy)
    omega
  have fb : ∀ {c : Bool}, some c = some b → Q (.bl c) H := fun {c} e => by cases e; exact q
  cases o with
  | eq =>
    simp only [cmpE] at g
    obtain ⟨hc, rfl⟩ := ite_some g
    rw [Bool.and_eq_true] at hc
    obtain ⟨as, bs, e1, e2, c1, c2, hm, e⟩ := hk (.inl rfl) hc
    exact SeqAt.compareEq_reads e1 e2 c1 c2 hm ⟨.bl _, H, I, by rw [e]; rfl, q⟩
  | ne =>
    simp only [cmpE] at g
    obtain ⟨hc, rfl⟩ := ite_some g
    rw [Bool.and_eq_true] at hc
    obtain ⟨as, bs, e1, e2, c1, c2, hm, e⟩ := hk (.inr rfl) hc
    exact SeqAt.compareNe_reads e1 e2 c1 c2 hm ⟨.bl _, H, I, by rw [e]; rfl, q⟩
  | lt =>
    cases dx <;> cases dy <;> simp only [cmpE] at g <;> first | (cases g; done) | skip
    · exact op_lt pins s σ H x y v u Q I rx ry ⟨_, _, rept_int r1, rept_int r2, fb g⟩
    · exact op_lt_str pins s σ H x y v u Q I rx ry ⟨_, _, (rept_str r1).1, (rept_str r2).1, by rw [mkS_tl, mkS_tl]; exact fb g⟩
  | le =>
    cases dx <;> cases dy <;> simp only [cmpE] at g <;> first | (cases g; done) | skip
    · exact op_le pins s σ H x y v u Q I rx ry ⟨_, _, rept_int r1, rept_int r2, fb g⟩
    · exact op_le_str pins s σ H x y v u Q I rx ry ⟨_, _, (rept_str r1).1, (rept_str r2).1, by
        rw [mkS_tl, mkS_tl]
        refine fb (Eq.trans ?_ g)
        congr 1
        rw [← decide_not]
        rfl⟩
  | gt =>
    cases dx <;> cases dy <;> simp only [cmpE] at g <;> first | (cases g; done) | skip
    · exact op_gt pins s σ H x y v u Q I rx ry ⟨_, _, rept_int r1, rept_int r2, fb g⟩
    · exact op_gt_str pins s σ H x y v u Q I rx ry ⟨_, _, (rept_str r1).1, (rept_str r2).1, by rw [mkS_tl, mkS_tl]; exact fb g⟩
  | ge =>
    cases dx <;> cases dy <;> simp only [cmpE] at g <;> first | (cases g; done) | skip
    · exact op_ge pins s σ H x y v u Q I rx ry ⟨_, _, rept_int r1, rept_int r2, fb g⟩
    · exact op_ge_str pins s σ H x y v u Q I rx ry ⟨_, _, (rept_str r1).1, (rept_str r2).1, by
        rw [mkS_tl, mkS_tl]
        refine fb (Eq.trans ?_ g)
        congr 1
        rw [← decide_not]
        rfl⟩
  | isN =>
    cases dy <;> simp only [cmpE] at g <;> first | (cases g; done) | skip
    refine op_isN pins s σ H x y v u Q I rx ry ⟨rept_non r2, ?_⟩
    have e : decide (x = V.non) = b := by
      cases g
      cases dx with
      | non => rw [rept_non r1]; rfl
      | bl _ => rw [rept_bl r1]; rfl
      | int _ => rw [rept_int r1]; rfl
      | str _ => rw [(rept_str r1).1]; rfl
      | tup _ => obtain ⟨_, _, e, _⟩ := rept_tup r1; rw [e]; rfl
      | lst _ => obtain ⟨_, _, e, _⟩ := rept_lst r1; rw [e]; rfl
      | dic _ =>
        rcases r1 with h | ⟨_, _, _, e, _⟩ | ⟨_, _, _, _, e, _⟩
        · obtain ⟨_, _, _, e, _⟩ := rep_dic h; rw [e]; rfl
        · cases e
        · rw [e]; rfl
    rw [e]
    exact q
  | notN =>
    cases dy <;> simp only [cmpE] at g <;> first | (cases g; done) | skip
    refine op_notN pins s σ H x y v u Q I rx ry ⟨rept_non r2, ?_⟩
    have e : (!decide (x = V.non)) = b := by
      cases g
      cases dx with
      | non => rw [rept_non r1]; rfl
      | bl _ => rw [rept_bl r1]; rfl
      | int _ => rw [rept_int r1]; rfl
      | str _ => rw [(rept_str r1).1]; rfl
      | tup _ => obtain ⟨_, _, e, _⟩ := rept_tup r1; rw [e]; rfl
      | lst _ => obtain ⟨_, _, e, _⟩ := rept_lst r1; rw [e]; rfl
      | dic _ =>
        rcases r1 with h | ⟨_, _, _, e, _⟩ | ⟨_, _, _, _, e, _⟩
        · obtain ⟨_, _, _, e, _⟩ := rep_dic h; rw [e]; rfl
        · cases e
        · rw [e]; rfl
    rw [e]
    exact q
  | inn =>
    simp only [cmpE] at g
    exact opc_in (neg := false) hu I rx ry r1 r2 g fun s' I' => ⟨.bl b, H, I', rfl, q⟩
  | notin =>
    simp only [cmpE] at g
    cases e : inE dx dy with
    | none => rw [e] at g; cases g
    | some c =>
      rw [e] at g
      cases g
      exact opc_in (neg := true) hu I rx ry r1 r2 e fun s' I' => ⟨.bl _, H, I', rfl, q⟩
end
end Pv

/-! PvIx: subscripts, slices, by values. -/
namespace Pv
open PySem L2 PyProof.Rows

section
variable {X : Cx}
theorem ixN_eq (n : Nat) (i : Int) : Pv.ixN n i = L2.ixN n i := rfl
theorem atI_eq {α : Type} (xs : List α) (i : Int) : Pv.atI xs i = L2.atI xs i := rfl
theorem reps_at {K : PySem.W.Frag} {H : Hp} {ds : List D} {vs : List V} {i : Int} {d : D} (r : Reps K H ds vs) (h : Pv.atI ds i = some d) : ∃ v, L2.atI vs i = some v ∧ Rep K H d v := by
  unfold Pv.atI at h
  unfold L2.atI
  rw [← r.len, ← ixN_eq]
  cases e : Pv.ixN ds.length i with
  | none => rw [e] at h; cases h
  | some j =>
    rw [e] at h
    exact r.get h
theorem rd_dic {K : PySem.W.Frag} {H : Hp} {kvs : List (List Nat × D)} {v : V} (h : RepT K H (.dic kvs) v) : ∃ a ws, v = .ref a ∧ Rd H a (.dK ws) ∧ RepK K H kvs ws := by
  rcases h with h | ⟨_, _, _, e, _⟩ | ⟨ds, xs, a, e, e2, q, r⟩
  · obtain ⟨a, o, ws, e, h, r⟩ := rep_dic h
    exact ⟨a, ws, e, .inr ⟨o, h⟩, r⟩
  · cases e
  · cases e; exact ⟨a, xs, e2, .inl q, r⟩
theorem ix_dict (hu : X.A.units + 1 < cLine) : IxR X (fun x y H Q => ∃ a v, x = .ref a ∧ DGet H a y (some v) ∧ Q v H) := by
  intro value slice pins s σ H x y v u Q I rx ry h hs
  obtain ⟨a, z, rfl, g, q⟩ := h
  obtain rfl : v = Value.ref a := rx
  have hT := dict_typeIs I g
  unfold subscriptTail
  refine wpAny_bind ?_
  rw [getitemInPython_of_ne hT.not_modules]
  refine wpAny_bind (wpAny_specialOf hT PySem.F.slot_dict_getitem.lookup ?_)
  have fin : wpAny (model X.prog X.w) X.A (subscripted slice false (.ref a) u) (fun r s₃ => wpAny (model X.prog X.w) X.A (letTemporaryGo value (.ref a) r >>= fun _ => pure r) (EP X pins σ Q) X.xe s₃) X.xe s := by
    rw [hs]
    exact wpAny_operating (d_getItem hu I g ry fun w' s3 I3 rw' => wpAny_bind (wpAny_letTemporaryGo (wpAny_pure ⟨z, H, I3, rw', q⟩)))
  first
    | exact wpAny_pure (wpAny_bind fin)
    | exact wpAny_bind (wpAny_pure (wpAny_bind fin))
    | exact wpAny_bind fin
theorem ix_W (hu : X.A.units + 1 < cLine) : IxR X (rW X.K ixE) := by
  intro value slice pins s σ H x y v u Q I rx ry h hs
  obtain ⟨dx, dy, dz, r1, r2, g, q⟩ := h
  cases dx with
  | lst xs =>
    cases dy <;> simp only [ixE] at g <;> first | (cases g; done) | skip
    obtain ⟨a, vs, rfl, h1, p⟩ := rept_lst r1
    obtain ⟨z, h2, h3⟩ := reps_at p g
    exact ix_list value slice pins s σ H _ _ v u Q I rx ry ⟨a, vs, _, z, rfl, rept_int r2, h1, h2, q z H (same_rfl H) h3⟩ hs
  | tup xs =>
    cases dy <;> simp only [ixE] at g <;> first | (cases g; done) | skip
    obtain ⟨a, vs, rfl, h1, p⟩ := rept_tup r1
    obtain ⟨z, h2, h3⟩ := reps_at p g
    exact ix_tup value slice pins s σ H _ _ v u Q I rx ry ⟨a, vs, _, z, rfl, rept_int r2, h1, h2, q z H (same_rfl H) h3⟩ hs
  | str t =>
    cases dy <;> simp only [ixE] at g <;> first | (cases g; done) | skip
    rename_i i
    by_cases c : t.length ≤ line
    · rw [if_pos c] at g
      cases e : Pv.atI t i with
      | none => rw [e] at g; cases g
      | some k =>
        rw [e] at g
        cases g
        obtain ⟨rfl, o⟩ := rept_str r1
        have hk : k ∈ t := by
          unfold Pv.atI at e
          cases e2 : Pv.ixN t.length i with
          | none => rw [e2] at e; cases e
          | some j => rw [e2] at e; exact List.mem_of_getElem? e
        refine ix_str value slice pins s σ H _ _ v u Q I rx ry ⟨mkS t, i, k, rfl, rept_int r2, by rw [mkS_len, line_eq]; exact c, by rw [mkS_tl]; exact e, ?_⟩ hs
        exact q _ H (same_rfl H) (mk_str (b := [k]) fun c hc => by rw [List.mem_singleton.mp hc]; exact o k hk)
    · rw [if_neg c] at g; cases g
  | dic kvs =>
    cases dy <;> simp only [ixE] at g <;> first | (cases g; done) | skip
    rename_i z
    obtain ⟨a, ws, rfl, h1, p⟩ := rd_dic r1
    obtain ⟨rfl, oz⟩ := rept_str r2
    rcases repK_look z p with ⟨e, _⟩ | ⟨d, w, e1, e2, e3⟩
    · rw [e] at g; cases g
    · rw [e1] at g
      cases g
      exact ix_dict hu value slice pins s σ H _ _ v u Q I rx ry ⟨a, w, rfl, .inl ⟨ws, .inr (mkS z), h1, rfl, e2.symm⟩, q w H (same_rfl H) e3⟩ hs
  | _ => cases dy <;> simp only [ixE] at g <;> cases g
theorem sIx_eq (n d : Nat) (o : Option Int) : Pv.sIx n d o = HT.sIx n d o := by cases o <;> rfl
theorem cutV_eq {K : PySem.W.Frag} {H : Hp} {ds : List D} {vs : List V} (r : Reps K H ds vs) (lo hi : Option Int) : Reps K H (cut ds lo hi) (cutV vs lo hi) := by
  unfold cut cutV
  rw [sIx_eq, sIx_eq, r.len]
  exact (r.drop _).take _
theorem cutS_eq (t : List Nat) (lo hi : Option Int) : cutS (mkS t) lo hi = mkS (cut t lo hi) := by
  unfold cutS cut
  rw [mkS_len, mkS_tl, sIx_eq, sIx_eq]
  rfl
theorem okS_cut {t : List Nat} (o : okS t) (lo hi : Option Int) : okS (cut t lo hi) := fun c hc => o c (List.mem_of_mem_drop (List.mem_of_mem_take hc))
end
end Pv

/-! PvSl: slices; built-ins by values. -/
namespace HT
open PySem PySem.Spec PyProof.Rows
section
variable {prog : Program} {w : World} {A : Around} {E : Value → Shared → Prop} {s : Shared}
theorem getItem_tuple_whole {t sl : Addr} {items : Array Value} {vl vu : Value} {lo hi : Option Int} {Q : Value → Shared → Prop} (ht : IsTup s.heap t items) (hs : s.heap.IsSliceOf sl vl vu .none) (pl : IsPart vl lo) (pu : IsPart vu hi)
    (hw : sIx items.size 0 lo = 0 ∧ sIx items.size items.size hi = items.size) (h : Q (.ref t) s) : wpAny (model prog w) A (getItem (.ref t) (.ref sl)) Q E s := by
  obtain ⟨os, hos, hcs, hds⟩ := id hs
  have hTs : s.TypeIs (.ref sl) "slice" := ⟨os, hos, hcs⟩
  unfold getItem
  try with_reducible refine wpAny_holding ?_
  first | refine wpAny_bind (wpAny_pure ?_) | skip
  refine wpAny_bind (wpAny_sequenceKey ht.typeIs (by decide) ?_)
  refine wpAny_bind (wpAny_callSpecial?_slot (name := Str.ofString "__getitem__") ht.typeIs PyProof.Rows.slot_tuple_getitem
    (wpAny_call_entry PyProof.Rows.slot_tuple_getitem ht.typeIs entry_tuple_getitem ?_ (args_tuple_getitem _ _)))
  show wpAny _ _ (Builtin.Tuple.tupleItemsOf (.ref t) >>= _) _ _ s
  refine wpAny_bind (tupleItemsOf_ ht ?_)
  refine wpAny_bind (wpAny_typeOf hTs ?_)
  rw [if_pos (by decide)]
  refine wpAny_bind (sliceApplied_gen hs pl pu ?_)
  have hyes : ((((sIx items.size 0 lo : Nat) : Int) == 0 && (1 : Int) == 1 && (sIx items.size items.size hi - sIx items.size 0 lo) == items.size) = true) := by
    rw [hw.1, hw.2]
    simp
  show wpAny _ _ (if (((sIx items.size 0 lo : Nat) : Int) == 0 && (1 : Int) == 1 && (sIx items.size items.size hi - sIx items.size 0 lo) == items.size) = true then _ else _) _ _ s
  rw [if_pos hyes]
  first
    | exact wpAny_bind (wpAny_bind (m := Builtin.Tuple.tupleIsExact _) (wpAny_bind (wpAny_typeOf ht.typeIs (wpAny_pure (wpAny_bind (wpAny_rule (wpAny_bind (wpAny_pure ⟨_, rfl, wpAny_pure h⟩))))))))
    | exact wpAny_bind (m := Builtin.Tuple.tupleIsExact _) (wpAny_bind (wpAny_typeOf ht.typeIs (wpAny_pure (wpAny_bind (wpAny_rule (wpAny_bind (wpAny_pure ⟨_, rfl, wpAny_pure h⟩)))))))
    | exact wpAny_bind (m := Builtin.Tuple.tupleIsExact _) (wpAny_bind (wpAny_typeOf ht.typeIs (wpAny_pure (wpAny_bind (wpAny_rule (wpAny_pure ⟨_, rfl, wpAny_pure h⟩))))))
    | trace_state
end
end HT

namespace Pv
open PySem L2 PyProof.Rows
section
variable {X : Cx}
theorem cut_len {α : Type} {ds : List α} {m : Nat} (h : ds.length ≤ m) (lo hi : Option Int) : (cut ds lo hi).length ≤ m := by
  unfold cut
  rw [List.length_take, List.length_drop]
  omega
theorem sl_tupW : SlR X (fun x lo hi H Q => ∃ a xs, x = .ref a ∧ SqT X.K H a xs ∧ HT.sIx xs.length 0 lo = 0 ∧ HT.sIx xs.length xs.length hi = xs.length ∧ Q (.ref a) H) := by
  intro pins s σ H x v vl vu lo hi sl Q I rx hs pl pu h
  obtain ⟨a, xs, rfl, hx, h1, h2, q⟩ := h
  cases rx
  obtain ⟨its, r, ht, hz⟩ := I.tuple hx
  have hlen : its.toArray.size = xs.length := by rw [List.size_toArray]; exact r.length.symm
  refine ⟨"tuple", _, PyProof.Rows.slot_tuple_getitem.lookup, ht.typeIs, ?_⟩
  exact HT.getItem_tuple_whole ht hs pl pu (by rw [hlen]; exact ⟨h1, h2⟩) ⟨.ref a, H, I, rfl, q⟩
def rSl (K : PySem.W.Frag) (mu : Bool) : V → Option Int → Option Int → Hp → VK → Prop := fun x lo hi H Q => ∃ M ι d w M', SOk K H M ι ∧ RepT K H d x ∧ slE mu d lo hi M = some (w, M') ∧
  ∀ v H' ι', Aft H M ι H' M' ι' → SOk K H' M' ι' → RepW K H' ι' w v → Q v H'
theorem sl_W (mu : Bool) : SlR X (rSl X.K mu) := by
  intro pins s σ H x v vl vu lo hi sl Q I rx hs pl pu h
  obtain ⟨M, ι, d, w, M', sk, r, g, q⟩ := h
  cases d with
  | lst ds =>
    simp only [slE] at g
    obtain ⟨a, xs, rfl, h1, p⟩ := rept_lst r
    exact sl_fz sl_list pins s σ H _ v vl vu lo hi sl Q I rx hs pl pu ⟨a, xs, rfl, h1, fun p' hp => fin_ok sk g hp (cutV_eq p lo hi) (cut_len (rept_len r) lo hi) q⟩
  | tup ds =>
    simp only [slE] at g
    cases g
    obtain ⟨a, xs, rfl, h1, p⟩ := rept_tup r
    by_cases c : HT.sIx xs.length 0 lo = 0 ∧ HT.sIx xs.length xs.length hi = xs.length
    · refine sl_tupW pins s σ H _ v vl vu lo hi sl Q I rx hs pl pu ⟨a, xs, rfl, h1, c.1, c.2, q _ H ι Aft.refl sk ?_⟩
      have e : cut ds lo hi = ds := by
        unfold cut
        rw [sIx_eq, sIx_eq, p.len, c.1, c.2, List.drop_zero, Nat.sub_zero, ← p.len, List.take_length]
      show Rep X.K H (.tup (cut ds lo hi)) (.ref a)
      rw [e]
      exact mk_tup h1 p (rept_tlen r)
    · refine sl_tup pins s σ H _ v vl vu lo hi sl Q I rx hs pl pu ⟨a, xs, rfl, h1, c, fun p' hp => ?_⟩
      have sm := same_upd (.tup (cutV xs lo hi)) hp
      exact q _ _ ι (Aft.same sm) (sk.same sm) (mk_tup (SqT.of upd_same) (Reps.mono (Kp.same sm) _ _ (cutV_eq p lo hi)) (cut_len (rept_tlen r) lo hi))
  | str t =>
    simp only [slE] at g
    obtain ⟨c, e⟩ := ite_some g
    cases e
    obtain ⟨rfl, o⟩ := rept_str r
    refine sl_str pins s σ H _ v vl vu lo hi sl Q I rx hs pl pu ⟨mkS t, rfl, by rw [mkS_len, line_eq]; exact c, ?_⟩
    rw [cutS_eq]
    exact q _ H ι Aft.refl sk (show Rep X.K H (.str (cut t lo hi)) _ from mk_str (okS_cut o lo hi))
  | _ => simp only [slE] at g; cases g

/-! ### built-ins -/
def RepTs (K : PySem.W.Frag) (H : Hp) : List D → List V → Prop
  | [], vs => vs = []
  | d :: ds, vs => ∃ v r, vs = v :: r ∧ RepT K H d v ∧ RepTs K H ds r
def rBi (K : PySem.W.Frag) (g : List D → Option D) : List V → Hp → VK → Prop := fun vs H Q => ∃ ds z, RepTs K H ds vs ∧ g ds = some z ∧ ∀ v H', L2.Same H H' → Rep K H' z v → Q v H'
theorem repTs1 {K : PySem.W.Frag} {H : Hp} {d : D} {vs : List V} (h : RepTs K H [d] vs) : ∃ v, vs = [v] ∧ RepT K H d v := by
  obtain ⟨v, r, rfl, h1, h2⟩ := h
  exact ⟨v, by rw [show r = [] from h2], h1⟩
theorem repTs2 {K : PySem.W.Frag} {H : Hp} {d e : D} {vs : List V} (h : RepTs K H [d, e] vs) : ∃ v w, vs = [v, w] ∧ RepT K H d v ∧ RepT K H e w := by
  obtain ⟨v, r, rfl, h1, h2⟩ := h
  obtain ⟨w, rfl, h3⟩ := repTs1 h2
  exact ⟨v, w, rfl, h1, h3⟩
theorem ints_V {K : PySem.W.Frag} {H : Hp} : ∀ {ds : List D} {ns : List Int} {vs : List V}, dInts ds = some ns → Reps K H ds vs → vs = ns.map V.int
  | [], ns, vs, h, r => by
    cases h
    exact reps_nil r
  | d :: ds, ns, vs, h, r => by
    obtain ⟨v, vs', rfl, q, rr⟩ := reps_cons r
    cases d with
    | int i =>
      simp only [dInts] at h
      cases e : dInts ds with
      | none => rw [e] at h; cases h
      | some ms =>
        rw [e] at h
        cases h
        rw [rep_int q, ints_V e rr]
        rfl
    | _ => cases h
theorem bools_V {K : PySem.W.Frag} {H : Hp} : ∀ {ds : List D} {ns : List Bool} {vs : List V}, dBools ds = some ns → Reps K H ds vs → vs = ns.map V.bl
  | [], ns, vs, h, r => by
    cases h
    exact reps_nil r
  | d :: ds, ns, vs, h, r => by
    obtain ⟨v, vs', rfl, q, rr⟩ := reps_cons r
    cases d with
    | bl i =>
      simp only [dBools] at h
      cases e : dBools ds with
      | none => rw [e] at h; cases h
      | some ms =>
        rw [e] at h
        cases h
        rw [rep_bl q, bools_V e rr]
        rfl
    | _ => cases h
theorem strs_V {K : PySem.W.Frag} {H : Hp} : ∀ {ds : List D} {ns : List (List Nat)} {vs : List V}, dStrs ds = some ns → Reps K H ds vs → vs = (ns.map mkS).map V.str ∧ ∀ n ∈ ns, okS n
  | [], ns, vs, h, r => by
    cases h
    exact ⟨reps_nil r, fun n hn => by cases hn⟩
  | d :: ds, ns, vs, h, r => by
    obtain ⟨v, vs', rfl, q, rr⟩ := reps_cons r
    cases d with
    | str i =>
      simp only [dStrs] at h
      cases e : dStrs ds with
      | none => rw [e] at h; cases h
      | some ms =>
        rw [e] at h
        cases h
        obtain ⟨e1, o1⟩ := rep_str q
        obtain ⟨e2, o2⟩ := strs_V e rr
        rw [e1, e2]
        refine ⟨rfl, fun n hn => ?_⟩
        rcases List.mem_cons.mp hn with rfl | hn
        · exact o1
        · exact o2 n hn
    | _ => cases h
theorem maxI_spec : ∀ (r : List Int) (a : Int), maxI a r ∈ a :: r ∧ ∀ y ∈ a :: r, y ≤ maxI a r
  | [], a => ⟨List.mem_cons_self, fun y hy => by rw [List.mem_singleton.mp hy]; exact Int.le_refl _⟩
  | b :: r, a => by
    unfold maxI
    obtain ⟨h1, h2⟩ := maxI_spec r (if b > a then b else a)
    by_cases c : b > a
    · rw [if_pos c] at h1 h2 ⊢
      refine ⟨List.mem_cons_of_mem _ h1, fun y hy => ?_⟩
      rcases List.mem_cons.mp hy with rfl | hy
      · have := h2 b List.mem_cons_self; omega
      · exact h2 y hy
    · rw [if_neg c] at h1 h2 ⊢
      refine ⟨?_, fun y hy => ?_⟩
      · rcases List.mem_cons.mp h1 with e | h1
        · rw [e]; exact List.mem_cons_self
        · exact List.mem_cons_of_mem _ (List.mem_cons_of_mem _ h1)
      · rcases List.mem_cons.mp hy with rfl | hy
        · exact h2 _ List.mem_cons_self
        · rcases List.mem_cons.mp hy with rfl | hy
          · have := h2 a List.mem_cons_self; omega
          · exact h2 y (List.mem_cons_of_mem _ hy)
theorem minI_spec : ∀ (r : List Int) (a : Int), minI a r ∈ a :: r ∧ ∀ y ∈ a :: r, minI a r ≤ y
  | [], a => ⟨List.mem_cons_self, fun y hy => by rw [List.mem_singleton.mp hy]; exact Int.le_refl _⟩
  | b :: r, a => by
    unfold minI
    obtain ⟨h1, h2⟩ := minI_spec r (if b < a then b else a)
    by_cases c : b < a
    · rw [if_pos c] at h1 h2 ⊢
      refine ⟨List.mem_cons_of_mem _ h1, fun y hy => ?_⟩
      rcases List.mem_cons.mp hy with rfl | hy
      · have := h2 b List.mem_cons_self; omega
      · exact h2 y hy
    · rw [if_neg c] at h1 h2 ⊢
      refine ⟨?_, fun y hy => ?_⟩
      · rcases List.mem_cons.mp h1 with e | h1
        · rw [e]; exact List.mem_cons_self
        · exact List.mem_cons_of_mem _ (List.mem_cons_of_mem _ h1)
      · rcases List.mem_cons.mp hy with rfl | hy
        · exact h2 _ List.mem_cons_self
        · rcases List.mem_cons.mp hy with rfl | hy
          · have := h2 a List.mem_cons_self; omega
          · exact h2 y (List.mem_cons_of_mem _ hy)
theorem repK_len {K : PySem.W.Frag} {H : Hp} : ∀ {xs : List (List Nat × D)} {ws : List (Key × V)}, RepK K H xs ws → ws.length = xs.length
  | [], ws, p => by rw [show ws = [] from by unfold RepK at p; exact p]; rfl
  | (k, d) :: xs, ws, p => by
    unfold RepK at p
    obtain ⟨_, _, rfl, _, _, p⟩ := p
    rw [List.length_cons, List.length_cons, repK_len p]
/-- the value a built-in's name stands for -/
def biV : Bi → Value
  | .len => .builtin "len"
  | .tuple => .type "tuple"
  | .int => .type "int"
  | .str => .type "str"
  | .ord => .builtin "ord"
  | .max2 => .builtin "max"
  | .min2 => .builtin "min"
  | .maxl => .builtin "max"
  | .minl => .builtin "min"
  | .maxd => .builtin "max"
  | .mind => .builtin "min"
  | .sum => .builtin "sum"
  | .all => .builtin "all"
  | .any => .builtin "any"
def plainBi : Bi → Bool
  | .maxd => false
  | .mind => false
  | _ => true
theorem okS_strInt (i : Int) : okS (strInt i) := by
  intro c hc
  unfold strInt codes at hc
  obtain ⟨k, _, rfl⟩ := List.mem_map.mp hc
  have := k.valid
  simp only [UInt32.isValidChar, Nat.isValidChar] at this
  show k.val.toNat < _
  omega
theorem mkS_strInt (i : Int) : Str.ofString (toString i) = mkS (strInt i) := Str.ofString_eq_toList _
theorem call_bi (hc : X.calm = true) : ∀ (b : Bi), plainBi b = true → CallR X (biV b) (rBi X.K (biE b)) := by
  intro b hb pins s σ H vs us Q I rs h
  obtain ⟨ds, z, r, g, q⟩ := h
  cases b with
  | len =>
    match ds, g with
    | [.str t], g =>
      simp only [biE] at g
      obtain ⟨c, rfl⟩ := ite_some g
      obtain ⟨v, rfl, rr⟩ := repTs1 r
      obtain ⟨rfl, o⟩ := rept_str rr
      exact call_len_str pins s σ H _ us Q I rs ⟨mkS t, rfl, by rw [mkS_len, line_eq]; exact c, by rw [mkS_len]; exact q _ H (same_rfl H) (mk_int _)⟩
    | [.tup xs], g =>
      cases g
      obtain ⟨v, rfl, rr⟩ := repTs1 r
      obtain ⟨a, ws, rfl, h1, p⟩ := rept_tup rr
      exact call_len_seq pins s σ H _ us Q I rs ⟨a, ws, rfl, .inr h1, by rw [← p.len]; exact q _ H (same_rfl H) (mk_int _)⟩
    | [.lst xs], g =>
      cases g
      obtain ⟨v, rfl, rr⟩ := repTs1 r
      obtain ⟨a, ws, rfl, h1, p⟩ := rept_lst rr
      exact call_len_seq pins s σ H _ us Q I rs ⟨a, ws, rfl, .inl h1, by rw [← p.len]; exact q _ H (same_rfl H) (mk_int _)⟩
    | [.dic xs], g =>
      cases g
      obtain ⟨v, rfl, rr⟩ := repTs1 r
      obtain ⟨a, ws, rfl, h1, p⟩ := rd_dic rr
      obtain ⟨u, rfl, rx⟩ := vals1 rs
      cases rx
      have hl : ws.length = xs.length := repK_len p
      exact d_len I h1 fun t s' I' => ⟨.int ws.length, H, I', ⟨t, rfl⟩, by rw [hl]; exact q _ H (same_rfl H) (mk_int _)⟩
    | [], g => cases g
    | [.non], g => cases g
    | [.bl _], g => cases g
    | [.int _], g => cases g
    | d :: e :: r, g => cases d <;> cases g
  | tuple =>
    match ds, g with
    | [.tup xs], g =>
      cases g
      obtain ⟨v, rfl, rr⟩ := repTs1 r
      obtain ⟨a, ws, rfl, h1, p⟩ := rept_tup rr
      exact call_tuple_of pins s σ H _ us Q I rs ⟨a, ws, rfl, .inr ⟨h1, q _ H (same_rfl H) (mk_tup h1 p (rept_tlen rr))⟩⟩
    | [.lst xs], g =>
      cases g
      obtain ⟨v, rfl, rr⟩ := repTs1 r
      obtain ⟨a, ws, rfl, h1, p⟩ := rept_lst rr
      refine call_tuple_of pins s σ H _ us Q I rs ⟨a, ws, rfl, .inl ⟨h1, fun l hl => ?_⟩⟩
      have sm := same_upd (.tup ws) hl
      exact q _ _ sm (mk_tup (SqT.of upd_same) (Reps.mono (Kp.same sm) _ _ p) (rept_len rr))
    | [], g => cases g
    | [.non], g => cases g
    | [.bl _], g => cases g
    | [.int _], g => cases g
    | [.str _], g => cases g
    | [.dic _], g => cases g
    | d :: e :: r, g => cases d <;> cases g
  | int =>
    match ds, g with
    | [.int i], g =>
      cases g
      obtain ⟨v, rfl, rr⟩ := repTs1 r
      rw [rept_int rr] at rs
      exact call_int1 pins s σ H _ us Q I rs (.inl ⟨i, rfl, q _ H (same_rfl H) (mk_int _)⟩)
    | [.bl i], g =>
      cases g
      obtain ⟨v, rfl, rr⟩ := repTs1 r
      rw [rept_bl rr] at rs
      exact call_int1 pins s σ H _ us Q I rs (.inr ⟨i, rfl, q _ H (same_rfl H) (mk_int _)⟩)
    | [], g => cases g
    | [.non], g => cases g
    | [.tup _], g => cases g
    | [.lst _], g => cases g
    | [.str _], g => cases g
    | [.dic _], g => cases g
    | d :: e :: r, g => cases d <;> cases g
  | str =>
    match ds, g with
    | [.int i], g =>
      simp only [biE] at g
      obtain ⟨c, rfl⟩ := ite_some g
      obtain ⟨v, rfl, rr⟩ := repTs1 r
      rw [rept_int rr] at rs
      refine call_str_int pins s σ H _ us Q I rs ⟨i, rfl, c, ?_⟩
      rw [mkS_strInt]
      exact q _ H (same_rfl H) (mk_str (okS_strInt i))
    | [], g => cases g
    | [.non], g => cases g
    | [.bl _], g => cases g
    | [.tup _], g => cases g
    | [.lst _], g => cases g
    | [.str _], g => cases g
    | [.dic _], g => cases g
    | d :: e :: r, g => cases d <;> cases g
  | ord =>
    match ds, g with
    | [.str [c]], g =>
      cases g
      obtain ⟨v, rfl, rr⟩ := repTs1 r
      obtain ⟨rfl, o⟩ := rept_str rr
      exact call_ord pins s σ H _ us Q I rs ⟨mkS [c], rfl, rfl, q _ H (same_rfl H) (mk_int _)⟩
    | [], g => cases g
    | [.str []], g => cases g
    | [.str (a :: b :: r)], g => cases g
    | [.non], g => cases g
    | [.bl _], g => cases g
    | [.int _], g => cases g
    | [.tup _], g => cases g
    | [.lst _], g => cases g
    | [.dic _], g => cases g
    | d :: e :: r, g => simp only [biE] at g; cases g
  | max2 =>
    match ds, g with
    | [], g => cases g
    | [d], g => simp only [biE] at g; cases g
    | d :: e :: f :: r, g => simp only [biE] at g; cases g
    | [d, e], g =>
      cases d <;> first | (cases g; done) | (cases e <;> first | (cases g; done) | skip)
      rename_i i j
      cases g
      obtain ⟨v, w, rfl, r1, r2⟩ := repTs2 r
      rw [rept_int r1, rept_int r2] at rs
      exact call_max2 hc pins s σ H _ us Q I rs ⟨i, j, rfl, q _ H (same_rfl H) (mk_int _)⟩
  | min2 =>
    match ds, g with
    | [], g => cases g
    | [d], g => simp only [biE] at g; cases g
    | d :: e :: f :: r, g => simp only [biE] at g; cases g
    | [d, e], g =>
      cases d <;> first | (cases g; done) | (cases e <;> first | (cases g; done) | skip)
      rename_i i j
      cases g
      obtain ⟨v, w, rfl, r1, r2⟩ := repTs2 r
      rw [rept_int r1, rept_int r2] at rs
      exact call_min2 hc pins s σ H _ us Q I rs ⟨i, j, rfl, q _ H (same_rfl H) (mk_int _)⟩
  | maxl =>
    match ds, g with
    | [.lst xs], g =>
      simp only [biE] at g
      obtain ⟨v, rfl, rr⟩ := repTs1 r
      obtain ⟨a, ws, rfl, h1, p⟩ := rept_lst rr
      cases e : dInts xs with
      | none => rw [e] at g; cases g
      | some ns =>
        rw [e] at g
        cases ns with
        | nil => cases g
        | cons b t =>
          cases g
          have e2 := ints_V e p
          subst e2
          refine cr_max hc pins s σ H _ us Q I rs ⟨a, b :: t, rfl, h1, by simp, fun m hm hle => ?_⟩
          obtain ⟨k1, k2⟩ := maxI_spec t b
          have : m = maxI b t := Int.le_antisymm (k2 m hm) (hle _ k1)
          rw [this]
          exact q _ H (same_rfl H) (mk_int _)
    | [], g => cases g
    | [.str _], g => cases g
    | [.non], g => cases g
    | [.bl _], g => cases g
    | [.int _], g => cases g
    | [.tup _], g => cases g
    | [.dic _], g => cases g
    | d :: e :: r, g => simp only [biE] at g; cases g
  | minl =>
    match ds, g with
    | [.lst xs], g =>
      simp only [biE] at g
      obtain ⟨v, rfl, rr⟩ := repTs1 r
      obtain ⟨a, ws, rfl, h1, p⟩ := rept_lst rr
      cases e : dInts xs with
      | none => rw [e] at g; cases g
      | some ns =>
        rw [e] at g
        cases ns with
        | nil => cases g
        | cons b t =>
          cases g
          have e2 := ints_V e p
          subst e2
          refine cr_min hc pins s σ H _ us Q I rs ⟨a, b :: t, rfl, h1, by simp, fun m hm hle => ?_⟩
          obtain ⟨k1, k2⟩ := minI_spec t b
          have : m = minI b t := Int.le_antisymm (hle _ k1) (k2 m hm)
          rw [this]
          exact q _ H (same_rfl H) (mk_int _)
    | [], g => cases g
    | [.str _], g => cases g
    | [.non], g => cases g
    | [.bl _], g => cases g
    | [.int _], g => cases g
    | [.tup _], g => cases g
    | [.dic _], g => cases g
    | d :: e :: r, g => simp only [biE] at g; cases g
  | sum =>
    match ds, g with
    | [.lst xs], g =>
      simp only [biE] at g
      obtain ⟨v, rfl, rr⟩ := repTs1 r
      obtain ⟨a, ws, rfl, h1, p⟩ := rept_lst rr
      cases e : dInts xs with
      | none => rw [e] at g; cases g
      | some ns =>
        rw [e] at g
        cases g
        have e2 := ints_V e p
        subst e2
        exact cr_sum hc pins s σ H _ us Q I rs ⟨a, ns, rfl, h1, q _ H (same_rfl H) (mk_int _)⟩
    | [], g => cases g
    | [.str _], g => cases g
    | [.non], g => cases g
    | [.bl _], g => cases g
    | [.int _], g => cases g
    | [.tup _], g => cases g
    | [.dic _], g => cases g
    | d :: e :: r, g => simp only [biE] at g; cases g
  | all =>
    match ds, g with
    | [.lst xs], g =>
      simp only [biE] at g
      obtain ⟨v, rfl, rr⟩ := repTs1 r
      obtain ⟨a, ws, rfl, h1, p⟩ := rept_lst rr
      cases e : dBools xs with
      | none => rw [e] at g; cases g
      | some ns =>
        rw [e] at g
        cases g
        have e2 := bools_V e p
        subst e2
        exact cr_all hc pins s σ H _ us Q I rs ⟨a, ns, rfl, h1, q _ H (same_rfl H) (mk_bl _)⟩
    | [], g => cases g
    | [.str _], g => cases g
    | [.non], g => cases g
    | [.bl _], g => cases g
    | [.int _], g => cases g
    | [.tup _], g => cases g
    | [.dic _], g => cases g
    | d :: e :: r, g => simp only [biE] at g; cases g
  | any =>
    match ds, g with
    | [.lst xs], g =>
      simp only [biE] at g
      obtain ⟨v, rfl, rr⟩ := repTs1 r
      obtain ⟨a, ws, rfl, h1, p⟩ := rept_lst rr
      cases e : dBools xs with
      | none => rw [e] at g; cases g
      | some ns =>
        rw [e] at g
        cases g
        have e2 := bools_V e p
        subst e2
        exact cr_any hc pins s σ H _ us Q I rs ⟨a, ns, rfl, h1, q _ H (same_rfl H) (mk_bl _)⟩
    | [], g => cases g
    | [.str _], g => cases g
    | [.non], g => cases g
    | [.bl _], g => cases g
    | [.int _], g => cases g
    | [.tup _], g => cases g
    | [.dic _], g => cases g
    | d :: e :: r, g => simp only [biE] at g; cases g
  | maxd => cases hb
  | mind => cases hb
end
end Pv

/-! PvCx: the whole program's facts, the context of a body, the expressions without comprehensions. -/
namespace Pv
open PySem L2 PyProof.Rows

/-- what a program is: the text's run, and our terms -/
structure GP where
  P : Program
  w : World
  K : PySem.W.Frag
  mg : Str → Option Value
  base : Heap
  pr : Prog
noncomputable def GP.C (g : GP) (n : Nat) : Ctx := ⟨callF g.pr n, g.pr.gl⟩
/-- a def's promise: what the evaluator gives -/
def spOf (g : GP) (n : Nat) (f : String) : Sp := fun vs H Q _ => ∃ M ι ws w M', SOk g.K H M ι ∧ RepWs g.K H ι ws vs ∧ callF g.pr n f ws M = some (w, M') ∧
  ∀ v H' ι', Aft H M ι H' M' ι' → SOk g.K H' M' ι' → RepW g.K H' ι' w v → Q v H'
def bltNames : List Str := [S "len", S "range", S "isinstance", S "tuple", S "list", S "int", S "str", S "bool", S "ord", S "max", S "min", S "sum", S "all", S "any", S "sorted", S "enumerate", S "zip", S "reversed"]
structure GOk (g : GP) (n : Nat) : Prop where
  call : ∀ f fn, g.pr.fn f = some fn → ∃ a fd ps, g.mg (S f) = some (.ref a) ∧ PySem.W.keepIn g.K (.ref a) = true ∧ Binds g.K fd ps [] ∧ FnOk g.P g.w g.K g.mg g.base CX0 n a fd ps (spOf g n f)
  glob : ∀ x d, g.pr.gl x = some d → ∃ u v, g.mg (S x) = some u ∧ RelV v u ∧ Rep g.K (fun _ => none) d v
  blt : ∀ x ∈ bltNames, g.mg x = none
/-- the context of a body (a comprehension's block) -/
structure XOk (g : GP) (n : Nat) (N : List Str) (X : Cx) (sc : Scope) : Prop where
  prog : X.prog = g.P
  w : X.w = g.w
  K : X.K = g.K
  mg : X.mg = g.mg
  base : X.base = g.base
  calm : X.calm = true
  nm : X.N = N
  nd : N.Nodup
  sc : X.env.scope = sc
  room : Room n X.A
  xe : X.xe = fun _ _ => False
section
variable {g : GP} {n : Nat} {N : List Str} {X : Cx} {sc : Scope}
theorem XOk.u1 (x : XOk g n N X sc) : X.A.units + 1 < cLine := by have := x.room.un; omega
theorem XOk.u190 (x : XOk g n N X sc) : X.A.units + 190 < cLine := by have := x.room.un; omega
theorem vis_of {sc : Scope} {x : Str} (h : isVis sc x = true) : Vis sc x := by
  unfold isVis at h
  split at h <;> first | exact .inl (by assumption) | exact .inr (.inl (by assumption)) | exact .inr (.inr (by assumption)) | cases h
theorem loc_of {sc : Scope} {x : Str} (h : isLoc sc x = true) : L2.Loc sc x := by
  unfold isLoc at h
  split at h <;> first | exact .inl (by assumption) | exact .inr (by assumption) | cases h
theorem gl_of (x : XOk g n N X sc) {y : Str} (h : isGl sc y = true) : Gl X y := by
  unfold isGl at h
  split at h
  · show X.env.scope.names.lookup y = _
    rw [x.sc]; assumption
  · cases h
theorem okN_of {y : Str} (h : okN y = true) : (y == S "__debug__") = false ∧ (y == S "__classdict__") = false ∧ y ≠ S "__name__" := by
  unfold okN at h
  simp only [Bool.and_eq_true, Bool.not_eq_true'] at h
  exact ⟨h.1.1, h.1.2, fun e => by rw [e] at h; simp at h⟩

/-! ### leaves -/
theorem s_var (x : XOk g n N X sc) {i : Nat} {y : Str} {pos : Pos} (hN : N[i]? = some y) (hv : isVis sc y = true) (ho : okN y = true) : PE X (.Name y pos) (tE X.K (g.C n) (.var i)) := by
  obtain ⟨h1, h2, _⟩ := okN_of ho
  refine pe_of (pe_var (i := i) (by rw [x.nm]; exact hN) (by rw [x.sc]; exact vis_of hv) h1 h2) fun σ H Q h => ?_
  obtain ⟨δ, M, ι, w, M', l, s, e, q⟩ := h
  unfold ev at e
  split at e
  · rename_i u hu
    cases e
    obtain ⟨v, h1, h2⟩ := l.sl i _ hu
    exact ⟨v, h1, q v H ι Aft.refl s h2⟩
  · cases e
theorem s_cst {d : D} {c : Const} {k : Nat} {pos : Pos} (h : chkK d c = true) : PE X (.Constant c k pos) (tE X.K (g.C n) (.cst d)) := by
  have go : ∀ v, (∀ H : Hp, Rep X.K H d v) → PE X (.Constant c k pos) (tC v) → PE X (.Constant c k pos) (tE X.K (g.C n) (.cst d)) := fun v hr hp =>
    pe_of hp fun σ H Q h => by
      obtain ⟨δ, M, ι, w, M', l, s, e, q⟩ := h
      unfold ev at e
      cases e
      exact q v H ι Aft.refl s (hr H)
  cases d <;> cases c <;> simp only [chkK] at h <;> first | (cases h; done) | skip
  · exact go .non (fun H => mk_non) pe_non
  · rw [beq_iff_eq] at h; subst h; exact go _ (fun H => mk_bl _) pe_bl
  · rw [beq_iff_eq] at h; subst h; exact go _ (fun H => mk_int _) pe_int
  · rename_i s x
    rw [Bool.and_eq_true, beq_iff_eq] at h
    obtain ⟨rfl, h2⟩ := h
    refine go (.str (mkS x.cps.toList)) (fun H => mk_str fun c hc => ?_) (by rw [mkS_of]; exact pe_str)
    unfold codesOk at h2
    have := List.all_eq_true.mp h2 c hc
    simpa using this
theorem s_glb (G : GOk g n) (x : XOk g n N X sc) {z : String} {pos : Pos} (hg : isGl sc (S z) = true) (ho : okN (S z) = true) : PE X (.Name (S z) pos) (tE X.K (g.C n) (.glb z)) := by
  obtain ⟨h1, h2, _⟩ := okN_of ho
  refine ⟨fun pins s σ H Q I h => ?_⟩
  obtain ⟨δ, M, ι, w, M', l, sk, e, q⟩ := h
  unfold ev at e
  split at e
  · rename_i d hd
    cases e
    obtain ⟨u, v, e1, e2, e3⟩ := G.glob z d hd
    refine (pe_glob (v := v) (gl_of x hg) (by rw [x.mg]; exact e1) e2 h1).run pins s σ H Q I (q v H ι Aft.refl sk ?_)
    show Rep X.K H d v
    rw [x.K]
    exact Rep.mono (fun a => ⟨fun _ z => (by cases z), fun _ _ z => (by cases z)⟩) d v e3
  · cases e
theorem s_frz (x : XOk g n N X sc) {i : Nat} {y : Str} {pos : Pos} (hN : N[i]? = some y) (hv : isVis sc y = true) (ho : okN y = true) : PE X (.Name y pos) (tE X.K (g.C n) (.frz i)) := by
  obtain ⟨h1, h2, _⟩ := okN_of ho
  refine pe_of (pe_fz (pe_var (i := i) (by rw [x.nm]; exact hN) (by rw [x.sc]; exact vis_of hv) h1 h2)) fun σ H Q h => ?_
  obtain ⟨δ, M, ι, w, M', l, s, e, q⟩ := h
  unfold ev at e
  split at e
  · rename_i k hu
    obtain ⟨v, h1, a, h2, rfl⟩ := l.sl i _ hu
    refine ⟨_, h1, ?_⟩
    split at e
    · rename_i xs hx
      cases e
      obtain ⟨ws, e1, r, hl⟩ := s.mo k _ a hx h2
      refine .inr ⟨a, .lst ws, rfl, e1, True.intro, fun od => ?_⟩
      have lv := live_of hx rfl h2
      have kp := (Aft.write (o := .dead) (u := .frz od (.lst ws)) s h2 lv).kp s
      exact q _ _ ι (Aft.write s h2 lv) (s.write h2 lv True.intro) (mk_lst (.inl ⟨od, upd_same⟩) (Reps.mono kp _ _ r) hl)
    · rename_i xs hx
      cases e
      obtain ⟨ws, e1, r⟩ := s.mo k _ a hx h2
      refine .inr ⟨a, .dK ws, rfl, e1, True.intro, fun od => ?_⟩
      have lv := live_of hx rfl h2
      have kp := (Aft.write (o := .dead) (u := .frz od (.dK ws)) s h2 lv).kp s
      exact q _ _ ι (Aft.write s h2 lv) (s.write h2 lv True.intro) (mk_dic upd_same (RepK.mono kp _ _ r))
    · cases e
  · cases e

/-! ### argument lists -/
theorem star_of {e : Expr} {es : List Expr} (h : plainX e = true) (env : Env) : starEach (e :: es) env = (false, eval e env) :: starEach es env := by
  cases e <;> first | rfl | cases h
theorem chk_plain {ex : Ex} {e : Expr} (h : chkE N sc ex e = true) : plainX e = true := by
  cases e <;> first | rfl | (exfalso; cases ex <;> unfold chkE at h <;> first | (cases h; done) | (simp at h; done) | skip)
end
end Pv

/-! PvEx2: lists of expressions, displays, operators. -/
namespace Pv
open PySem L2 PyProof.Rows
section
variable {g : GP} {n : Nat} {N : List Str} {X : Cx} {sc : Scope} {C : Ctx}
theorem mkw {K : PySem.W.Frag} {H : Hp} {ι : List Addr} {x : D} {v : V} (h : Rep K H x v) : RepW K H ι (.d x) v := h
theorem repw {K : PySem.W.Frag} {H : Hp} {ι : List Addr} {x : D} {v : V} (h : RepW K H ι (.d x) v) : Rep K H x v := h
theorem repw_bl {K : PySem.W.Frag} {H : Hp} {ι : List Addr} {b : Bool} {v : V} (h : RepW K H ι (.d (.bl b)) v) : v = .bl b := rep_bl (repw h)
theorem repw_int {K : PySem.W.Frag} {H : Hp} {ι : List Addr} {b : Int} {v : V} (h : RepW K H ι (.d (.int b)) v) : v = .int b := rep_int (repw h)
theorem a_nil : PA X [] (tEs X.K C []) := pa_of pa_nil fun σ H Q h => by
  obtain ⟨δ, M, ι, ds, M', l, s, e, q⟩ := h
  unfold evs at e
  cases e
  exact q _ H ι Aft.refl s mk_nil
theorem a_cons {ex : Ex} {exs : List Ex} {e : Expr} {es : List Expr} (he : PE X e (tE X.K C ex)) (hr : PA X es (tEs X.K C exs)) (hp : plainX e = true) : PA X (e :: es) (tEs X.K C (ex :: exs)) := by
  refine pa_of (pa_cons he hr (star_of hp _)) fun σ H Q h => ?_
  obtain ⟨δ, M, ι, ds, M', l, s, e, q⟩ := h
  unfold evs at e
  cases e1 : ev C ex δ M with
  | none => rw [e1] at e; cases e
  | some p =>
    obtain ⟨w, M1⟩ := p
    rw [e1] at e
    cases w with
    | m k => cases e
    | d x =>
      simp only at e
      cases e2 : evs C exs δ M1 with
      | none => rw [e2] at e; cases e
      | some p =>
        obtain ⟨xs, M2⟩ := p
        rw [e2] at e
        cases e
        exact ⟨δ, M, ι, .d x, _, l, s, e1, fun v H1 ι1 a1 s1 r1 => ⟨δ, _, ι1, xs, _, l.aft s a1, s1, e2, fun vs H2 ι2 a2 s2 r2 => q _ H2 ι2 (a1.trans a2) s2 (mk_cons (Rep.mono (a2.kp s1) _ _ r1) r2)⟩⟩
theorem w_nil : PA X [] (tWs X.K C []) := pa_of pa_nil fun σ H Q h => by
  obtain ⟨δ, M, ι, ds, M', l, s, e, q⟩ := h
  unfold evws at e
  cases e
  exact q _ H ι Aft.refl s rfl
theorem w_cons {ex : Ex} {exs : List Ex} {e : Expr} {es : List Expr} (he : PE X e (tE X.K C ex)) (hr : PA X es (tWs X.K C exs)) (hp : plainX e = true) : PA X (e :: es) (tWs X.K C (ex :: exs)) := by
  refine pa_of (pa_cons he hr (star_of hp _)) fun σ H Q h => ?_
  obtain ⟨δ, M, ι, ds, M', l, s, e, q⟩ := h
  unfold evws at e
  cases e1 : ev C ex δ M with
  | none => rw [e1] at e; cases e
  | some p =>
    obtain ⟨w, M1⟩ := p
    rw [e1] at e
    simp only at e
    cases e2 : evws C exs δ M1 with
    | none => rw [e2] at e; cases e
    | some p =>
      obtain ⟨xs, M2⟩ := p
      rw [e2] at e
      cases e
      exact ⟨δ, M, ι, _, _, l, s, e1, fun v H1 ι1 a1 s1 r1 => ⟨δ, _, ι1, xs, _, l.aft s a1, s1, e2, fun vs H2 ι2 a2 s2 r2 => q _ H2 ι2 (a1.trans a2) s2 ⟨v, vs, rfl, r1.mono (a2.kp s1) a2.ext, r2⟩⟩⟩
theorem len_evs : ∀ {es : List Ex} {δ : Loc} {M M' : Sto} {ds : List D}, evs C es δ M = some (ds, M') → ds.length = es.length
  | [], _, _, _, _, h => by unfold evs at h; cases h; rfl
  | e :: es, δ, M, M', ds, h => by
    unfold evs at h
    cases e1 : ev C e δ M with
    | none => rw [e1] at h; cases h
    | some p =>
      obtain ⟨w, M1⟩ := p
      rw [e1] at h
      cases w with
      | m k => cases h
      | d x =>
        simp only at h
        cases e2 : evs C es δ M1 with
        | none => rw [e2] at h; cases h
        | some p =>
          obtain ⟨xs, M2⟩ := p
          rw [e2] at h
          cases h
          rw [List.length_cons, List.length_cons, len_evs e2]
theorem s_tup {es : List Ex} {xs : List Expr} {k : Nat} {pos : Pos} (h : PA X xs (tEs X.K C es)) (hl : es.length ≤ 1000) : PE X (.Tuple xs k pos) (tE X.K C (.tup es)) := by
  refine pe_of (pe_tup h) fun σ H Q hq => ?_
  obtain ⟨δ, M, ι, w, M', l, s, e, q⟩ := hq
  unfold ev at e
  cases e1 : evs C es δ M with
  | none => rw [e1] at e; cases e
  | some p =>
    obtain ⟨ds, M1⟩ := p
    rw [e1] at e
    cases e
    refine ⟨δ, M, ι, ds, _, l, s, e1, fun vs H1 ι1 a1 s1 r1 => ⟨?_, fun p hp => ?_⟩⟩
    · rw [← r1.len, len_evs e1, line_eq]; omega
    · have sm := same_upd (.tup vs) hp
      exact q _ _ ι1 (a1.trans (Aft.same sm)) (s1.same sm) (mk_tup (SqT.of upd_same) (Reps.mono (Kp.same sm) _ _ r1) (by rw [len_evs e1]; exact Nat.le_trans hl (by decide)))
theorem s_lst {mu : Bool} {es : List Ex} {xs : List Expr} {pos : Pos} (h : PA X xs (tEs X.K C es)) (hl : es.length ≤ 1000) : PE X (.List xs pos) (tE X.K C (.lst mu es)) := by
  refine pe_of (pe_fz (pe_lst h)) fun σ H Q hq => ?_
  obtain ⟨δ, M, ι, w, M', l, s, e, q⟩ := hq
  unfold ev at e
  cases e1 : evs C es δ M with
  | none => rw [e1] at e; cases e
  | some p =>
    obtain ⟨ds, M1⟩ := p
    rw [e1] at e
    simp only at e
    refine ⟨δ, M, ι, ds, _, l, s, e1, fun vs H1 ι1 a1 s1 r1 => ⟨?_, fun p hp => ?_⟩⟩
    · rw [← r1.len, len_evs e1, line_eq]; omega
    · exact fin_ok s1 e hp r1 (by rw [len_evs e1]; exact Nat.le_trans hl (by decide)) fun v H' ι' a2 s2 r2 => q v H' ι' (a1.trans a2) s2 r2

/-- two operands -/
theorem op2_of {ex xa xb : Ex} {r : R2} (hev : ∀ δ M w M', ev C ex δ M = some (w, M') → ∃ w1 M1 w2 M2, ev C xa δ M = some (w1, M1) ∧ ev C xb δ M1 = some (w2, M2) ∧
      ∀ H ι x y Q, SOk X.K H M2 ι → RepW X.K H ι w1 x → RepW X.K H ι w2 y → (∀ v H' ι', Aft H M2 ι H' M' ι' → SOk X.K H' M' ι' → RepW X.K H' ι' w v → Q v H') → r x y H Q) :
    ∀ σ H Q, tE X.K C ex σ H Q → tOp r (tE X.K C xa) (tE X.K C xb) σ H Q := by
  intro σ H Q h
  obtain ⟨δ, M, ι, w, M', l, s, e, q⟩ := h
  obtain ⟨w1, M1, w2, M2, e1, e2, k⟩ := hev δ M w M' e
  exact ⟨δ, M, ι, w1, M1, l, s, e1, fun x H1 ι1 a1 s1 r1 => ⟨δ, M1, ι1, w2, M2, l.aft s a1, s1, e2, fun y H2 ι2 a2 s2 r2 =>
    k H2 ι2 x y Q s2 (r1.mono (a2.kp s1) a2.ext) r2 fun v H' ι' a3 s3 r3 => q v H' ι' ((a1.trans a2).trans a3) s3 r3⟩⟩
/-- .. from data to data -/
theorem rw_of {K : PySem.W.Frag} {f : D → D → Option D} {w1 w2 : W} {M2 : Sto} {dx dy dz : D} (h1 : deref M2 w1 = some dx) (h2 : deref M2 w2 = some dy) (hf : f dx dy = some dz) :
    ∀ H ι x y Q, SOk K H M2 ι → RepW K H ι w1 x → RepW K H ι w2 y → (∀ v H' ι', Aft H M2 ι H' M2 ι' → SOk K H' M2 ι' → RepW K H' ι' (.d dz) v → Q v H') → rW K f x y H Q :=
  fun H ι x y Q s r1 r2 q => ⟨dx, dy, dz, rept_of s r1 h1, rept_of s r2 h2, hf, fun v H' sm r => q v H' ι (Aft.same sm) (s.same sm) r⟩
theorem inv2 {xa xb : Ex} {δ : Loc} {M : Sto} {α : Type} {k : W → W → Sto → Option α} {z : α} (h : (match ev C xa δ M with
      | none => none
      | some (w, M1) => match ev C xb δ M1 with
        | none => none
        | some (u, M2) => k w u M2) = some z) : ∃ w M1 u M2, ev C xa δ M = some (w, M1) ∧ ev C xb δ M1 = some (u, M2) ∧ k w u M2 = some z := by
  cases e1 : ev C xa δ M with
  | none => rw [e1] at h; cases h
  | some p =>
    obtain ⟨w, M1⟩ := p
    rw [e1] at h
    simp only at h
    cases e2 : ev C xb δ M1 with
    | none => rw [e2] at h; cases h
    | some p =>
      obtain ⟨u, M2⟩ := p
      rw [e2] at h
      exact ⟨w, M1, u, M2, rfl, e2, h⟩
theorem s_bin {o : BOp} {xa xb : Ex} {a b : Expr} {p : Operator} {pos : Pos} (ho : chkO o p = true) (ha : PE X a (tE X.K C xa)) (hb : PE X b (tE X.K C xb)) : PE X (.BinOp a p b pos) (tE X.K C (.bin o xa xb)) := by
  have ep : p = toOp o := by cases o <;> cases p <;> first | rfl | cases ho
  subst ep
  refine pe_of (pe_op (op_binW o) ha hb) (op2_of fun δ M w M' e => ?_)
  unfold ev at e
  obtain ⟨w1, M1, w2, M2, e1, e2, e⟩ := inv2 e
  refine ⟨w1, M1, w2, M2, e1, e2, ?_⟩
  cases d1 : deref M2 w1 with
  | none => rw [d1] at e; cases e
  | some x =>
    cases d2 : deref M2 w2 with
    | none => rw [d1, d2] at e; cases e
    | some y =>
      rw [d1, d2] at e
      simp only at e
      cases d3 : binE o x y with
      | none => rw [d3] at e; cases e
      | some z =>
        rw [d3] at e
        cases e
        exact rw_of d1 d2 d3
theorem s_ix (hu : X.A.units + 1 < cLine) {xa xb : Ex} {a b : Expr} {pos : Pos} (hp : plainX b = true) (ha : PE X a (tE X.K C xa)) (hb : PE X b (tE X.K C xb)) : PE X (.Subscript a b pos) (tE X.K C (.ix xa xb)) := by
  have hi : PlainIx b := fun o i => by cases b <;> first | rfl | cases hp
  refine pe_of (pe_ix (ix_W hu) ha hb hi) (op2_of fun δ M w M' e => ?_)
  unfold ev at e
  obtain ⟨w1, M1, w2, M2, e1, e2, e⟩ := inv2 e
  refine ⟨w1, M1, w2, M2, e1, e2, ?_⟩
  cases d1 : deref M2 w1 with
  | none => rw [d1] at e; cases e
  | some x =>
    rw [d1] at e
    cases w2 with
    | m k => cases e
    | d y =>
      simp only at e
      cases d3 : ixE x y with
      | none => rw [d3] at e; cases e
      | some z =>
        rw [d3] at e
        cases e
        exact rw_of d1 rfl d3
theorem rc_of {K : PySem.W.Frag} {f : D → D → Option Bool} {w1 w2 : W} {M2 : Sto} {dx dy : D} {b : Bool} (h1 : deref M2 w1 = some dx) (h2 : deref M2 w2 = some dy) (hf : f dx dy = some b) :
    ∀ H ι x y Q, SOk K H M2 ι → RepW K H ι w1 x → RepW K H ι w2 y → (∀ v H' ι', Aft H M2 ι H' M2 ι' → SOk K H' M2 ι' → RepW K H' ι' (.d (.bl b)) v → Q v H') → rC K f x y H Q :=
  fun H ι x y Q s r1 r2 q => ⟨dx, dy, b, rept_of s r1 h1, rept_of s r2 h2, hf, q _ H ι Aft.refl s (show Rep K H (.bl b) (.bl b) from mk_bl b)⟩
theorem mark_of {b : Expr} (hp : plainX b = true) (op : CmpOp) : behindInMarks op b = false := by
  cases b <;> first | rfl | cases hp
theorem cmp_hev {o : COp} {xa xb : Ex} : ∀ δ M w M', ev C (.cmp o xa xb) δ M = some (w, M') → ∃ w1 M1 w2 M2, ev C xa δ M = some (w1, M1) ∧ ev C xb δ M1 = some (w2, M2) ∧
      ∀ H ι x y Q, SOk X.K H M2 ι → RepW X.K H ι w1 x → RepW X.K H ι w2 y → (∀ v H' ι', Aft H M2 ι H' M' ι' → SOk X.K H' M' ι' → RepW X.K H' ι' w v → Q v H') → rC X.K (cmpE o) x y H Q := by
  intro δ M w M' e
  unfold ev at e
  obtain ⟨w1, M1, w2, M2, e1, e2, e⟩ := inv2 e
  refine ⟨w1, M1, w2, M2, e1, e2, ?_⟩
  cases d1 : deref M2 w1 with
  | none => rw [d1] at e; cases e
  | some x =>
    cases d2 : deref M2 w2 with
    | none => rw [d1, d2] at e; cases e
    | some y =>
      rw [d1, d2] at e
      simp only at e
      cases d3 : cmpE o x y with
      | none => rw [d3] at e; cases e
      | some z =>
        rw [d3] at e
        cases e
        exact rc_of d1 d2 d3
theorem toC_of {o : COp} {p : CmpOp} (ho : chkC o p = true) : p = toC o := by cases o <;> cases p <;> first | rfl | cases ho
theorem s_cmp (hu : X.A.units + 190 < cLine) {o : COp} {xa xb : Ex} {a b : Expr} {p : CmpOp} {pos : Pos} (ho : chkC o p = true) (hp : plainX b = true) (ha : PE X a (tE X.K C xa)) (hb : PE X b (tE X.K C xb)) : PE X (.Compare a [p] [b] pos) (tE X.K C (.cmp o xa xb)) := by
  obtain rfl := toC_of ho
  exact pe_of (pe_cmpR (op_cmpW o hu) ha hb (mark_of hp _)) (op2_of cmp_hev)
/-- a test, from the expression as a value -/
theorem tb_of {ex : Ex} : ∀ σ H Q, tB X.K C ex σ H Q → L2.tB (tE X.K C ex) σ H Q := fun σ H Q h => by
  obtain ⟨δ, M, ι, b, M', l, s, e, q⟩ := h
  refine ⟨δ, M, ι, _, M', l, s, e, fun v H' ι' a s' r => ⟨b, repw_bl r, q H' ι' a s'⟩⟩
theorem t_val {ex : Ex} {e : Expr} (h : PE X e (tE X.K C ex)) (hp : isTest e = false) : PT X e (tB X.K C ex) :=
  pt_of (pt_val h (fun whole => by cases e <;> first | rfl | cases hp)) tb_of
theorem t_cmp (hu : X.A.units + 190 < cLine) {o : COp} {xa xb : Ex} {a b : Expr} {p : CmpOp} {pos : Pos} (ho : chkC o p = true) (hp : plainX b = true) (ha : PE X a (tE X.K C xa)) (hb : PE X b (tE X.K C xb)) : PT X (.Compare a [p] [b] pos) (tB X.K C (.cmp o xa xb)) := by
  obtain rfl := toC_of ho
  refine pt_of (pt_cmpR (op_cmpW o hu) ha hb (mark_of hp _)) fun σ H Q h => ?_
  obtain ⟨δ, M, ι, b, M', l, s, e, q⟩ := h
  exact op2_of cmp_hev σ H _ ⟨δ, M, ι, _, M', l, s, e, fun v H' ι' a s' r => ⟨b, repw_bl r, q H' ι' a s'⟩⟩
/-- one operand -/
theorem inv1 {xa : Ex} {δ : Loc} {M : Sto} {w : W} {M' : Sto} {f : Bool → Bool} (h : (match ev C xa δ M with
      | some (.d (.bl b), M1) => some (W.d (.bl (f b)), M1)
      | _ => none) = some (w, M')) : ∃ b, ev C xa δ M = some (.d (.bl b), M') ∧ w = .d (.bl (f b)) := by
  split at h
  · rename_i b M1 e
    cases h
    exact ⟨b, e, rfl⟩
  · cases h
theorem s_nt {xa : Ex} {a : Expr} {pos : Pos} (ha : PE X a (tE X.K C xa)) : PE X (.UnaryOp .Not a pos) (tE X.K C (.nt xa)) := by
  refine pe_of (pe_not ha) fun σ H Q h => ?_
  obtain ⟨δ, M, ι, w, M', l, s, e, q⟩ := h
  unfold ev at e
  obtain ⟨b, e1, rfl⟩ := inv1 (f := fun b => !b) e
  exact ⟨δ, M, ι, _, M', l, s, e1, fun v H' ι' a s' r => ⟨b, repw_bl r, q _ H' ι' a s' (mkw (mk_bl _))⟩⟩
theorem t_nt {xa : Ex} {a : Expr} {pos : Pos} (ha : PT X a (tB X.K C xa)) : PT X (.UnaryOp .Not a pos) (tB X.K C (.nt xa)) := by
  refine pt_of (pt_not ha) fun σ H Q h => ?_
  obtain ⟨δ, M, ι, c, M', l, s, e, q⟩ := h
  unfold ev at e
  obtain ⟨b, e1, e2⟩ := inv1 (f := fun b => !b) e
  cases e2
  exact ⟨δ, M, ι, b, M', l, s, e1, fun H' ι' a s' => q H' ι' a s'⟩
theorem s_neg {xa : Ex} {a : Expr} {pos : Pos} (ha : PE X a (tE X.K C xa)) : PE X (.UnaryOp .USub a pos) (tE X.K C (.neg xa)) := by
  refine pe_of (pe_un un_neg ha) fun σ H Q h => ?_
  obtain ⟨δ, M, ι, w, M', l, s, e, q⟩ := h
  unfold ev at e
  split at e
  · rename_i i M1 e1
    cases e
    exact ⟨δ, M, ι, _, _, l, s, e1, fun v H' ι' a s' r => ⟨i, repw_int r, q _ H' ι' a s' (mkw (mk_int _))⟩⟩
  · cases e

/-! ### and, or -/
theorem inv_an {x : Ex} {xs : List Ex} {δ : Loc} {M : Sto} {w : W} {M' : Sto} (h : evAn C (x :: xs) δ M = some (w, M')) :
    (∃ M1, ev C x δ M = some (.d (.bl true), M1) ∧ evAn C xs δ M1 = some (w, M')) ∨ (ev C x δ M = some (.d (.bl false), M') ∧ w = .d (.bl false)) := by
  unfold evAn at h
  split at h
  · rename_i M1 e; exact .inl ⟨M1, e, h⟩
  · rename_i M1 e; cases h; exact .inr ⟨e, rfl⟩
  · cases h
theorem inv_or {x : Ex} {xs : List Ex} {δ : Loc} {M : Sto} {w : W} {M' : Sto} (h : evOr C (x :: xs) δ M = some (w, M')) :
    (∃ M1, ev C x δ M = some (.d (.bl false), M1) ∧ evOr C xs δ M1 = some (w, M')) ∨ (ev C x δ M = some (.d (.bl true), M') ∧ w = .d (.bl true)) := by
  unfold evOr at h
  split at h
  · rename_i M1 e; cases h; exact .inr ⟨e, rfl⟩
  · rename_i M1 e; exact .inl ⟨M1, e, h⟩
  · cases h
/-- each expression of the list is what the term says -/
def PEs (X : Cx) (C : Ctx) : List Ex → List Expr → Prop
  | [], [] => True
  | ex :: exs, e :: es => PE X e (tE X.K C ex) ∧ PT X e (tB X.K C ex) ∧ PEs X C exs es
  | _, _ => False
theorem s_an {op : Unit} : ∀ {exs : List Ex} {es : List Expr} {pos : Pos}, PEs X C exs es → exs ≠ [] → PE X (.BoolOp .And es pos) (tE X.K C (.an exs))
  | [], _, _, _, h => absurd rfl h
  | [ex], [], _, h, _ => h.elim
  | [ex], e :: e2 :: es, _, h, _ => h.2.2.elim
  | [ex], [e], pos, h, _ => by
    refine pe_of (pe_one h.1) fun σ H Q hq => ?_
    obtain ⟨δ, M, ι, w, M', l, s, e, q⟩ := hq
    unfold ev at e
    rcases inv_an e with ⟨M1, e1, e2⟩ | ⟨e1, rfl⟩
    · unfold evAn at e2
      cases e2
      exact ⟨δ, M, ι, _, _, l, s, e1, q⟩
    · exact ⟨δ, M, ι, _, _, l, s, e1, q⟩
  | ex :: ex2 :: exs, [], _, h, _ => h.elim
  | ex :: ex2 :: exs, [e], _, h, _ => h.2.2.elim
  | ex :: ex2 :: exs, e :: e2 :: es, pos, h, _ => by
    have ih := s_an (op := op) (exs := ex2 :: exs) (es := e2 :: es) (pos := pos) h.2.2 (by simp)
    refine pe_of (pe_and h.1 ih) fun σ H Q hq => ?_
    obtain ⟨δ, M, ι, w, M', l, s, e, q⟩ := hq
    unfold ev at e
    rcases inv_an e with ⟨M1, e1, e2⟩ | ⟨e1, rfl⟩
    · refine ⟨δ, M, ι, _, M1, l, s, e1, fun v H1 ι1 a1 s1 r1 => ⟨true, repw_bl r1, ?_⟩⟩
      rw [if_pos rfl]
      exact ⟨δ, M1, ι1, w, M', l.aft s a1, s1, by unfold ev; exact e2, fun v H' ι' a2 s2 r => q v H' ι' (a1.trans a2) s2 r⟩
    · refine ⟨δ, M, ι, _, _, l, s, e1, fun v H1 ι1 a1 s1 r1 => ⟨false, repw_bl r1, ?_⟩⟩
      rw [if_neg Bool.false_ne_true]
      exact q _ H1 ι1 a1 s1 (mkw (mk_bl _))
theorem s_or {op : Unit} : ∀ {exs : List Ex} {es : List Expr} {pos : Pos}, PEs X C exs es → exs ≠ [] → PE X (.BoolOp .Or es pos) (tE X.K C (.orr exs))
  | [], _, _, _, h => absurd rfl h
  | [ex], [], _, h, _ => h.elim
  | [ex], e :: e2 :: es, _, h, _ => h.2.2.elim
  | [ex], [e], pos, h, _ => by
    refine pe_of (pe_one h.1) fun σ H Q hq => ?_
    obtain ⟨δ, M, ι, w, M', l, s, e, q⟩ := hq
    unfold ev at e
    rcases inv_or e with ⟨M1, e1, e2⟩ | ⟨e1, rfl⟩
    · unfold evOr at e2
      cases e2
      exact ⟨δ, M, ι, _, _, l, s, e1, q⟩
    · exact ⟨δ, M, ι, _, _, l, s, e1, q⟩
  | ex :: ex2 :: exs, [], _, h, _ => h.elim
  | ex :: ex2 :: exs, [e], _, h, _ => h.2.2.elim
  | ex :: ex2 :: exs, e :: e2 :: es, pos, h, _ => by
    have ih := s_or (op := op) (exs := ex2 :: exs) (es := e2 :: es) (pos := pos) h.2.2 (by simp)
    refine pe_of (pe_or h.1 ih) fun σ H Q hq => ?_
    obtain ⟨δ, M, ι, w, M', l, s, e, q⟩ := hq
    unfold ev at e
    rcases inv_or e with ⟨M1, e1, e2⟩ | ⟨e1, rfl⟩
    · refine ⟨δ, M, ι, _, M1, l, s, e1, fun v H1 ι1 a1 s1 r1 => ⟨false, repw_bl r1, ?_⟩⟩
      rw [if_neg Bool.false_ne_true]
      exact ⟨δ, M1, ι1, w, M', l.aft s a1, s1, by unfold ev; exact e2, fun v H' ι' a2 s2 r => q v H' ι' (a1.trans a2) s2 r⟩
    · refine ⟨δ, M, ι, _, _, l, s, e1, fun v H1 ι1 a1 s1 r1 => ⟨true, repw_bl r1, ?_⟩⟩
      rw [if_pos rfl]
      exact q _ H1 ι1 a1 s1 (mkw (mk_bl _))
theorem w_an {op : Unit} : ∀ {exs : List Ex} {es : List Expr} {pos : Pos}, PEs X C exs es → exs ≠ [] → PW X (.BoolOp .And es pos) (tB X.K C (.an exs))
  | [], _, _, _, h => absurd rfl h
  | [ex], [], _, h, _ => h.elim
  | [ex], e :: e2 :: es, _, h, _ => h.2.2.elim
  | [ex], [e], pos, h, _ => ⟨fun wh pins s σ H Q I hq => by
    refine (pw_and1 h.2.1).run wh pins s σ H Q I ?_
    obtain ⟨δ, M, ι, w, M', l, s, e, q⟩ := hq
    unfold ev at e
    rcases inv_an e with ⟨M1, e1, e2⟩ | ⟨e1, e2⟩
    · unfold evAn at e2
      cases e2
      exact ⟨δ, M, ι, _, _, l, s, e1, q⟩
    · cases e2
      exact ⟨δ, M, ι, _, _, l, s, e1, q⟩⟩
  | ex :: ex2 :: exs, [], _, h, _ => h.elim
  | ex :: ex2 :: exs, [e], _, h, _ => h.2.2.elim
  | ex :: ex2 :: exs, e :: e2 :: es, pos, h, _ => ⟨fun wh pins s σ H Q I hq => by
    have ih := w_an (op := op) (exs := ex2 :: exs) (es := e2 :: es) (pos := pos) h.2.2 (by simp)
    refine (pw_and h.2.1 ih).run wh pins s σ H Q I ?_
    obtain ⟨δ, M, ι, w, M', l, s, e, q⟩ := hq
    unfold ev at e
    rcases inv_an e with ⟨M1, e1, e2⟩ | ⟨e1, e2⟩
    · refine ⟨δ, M, ι, _, M1, l, s, e1, fun H1 ι1 a1 s1 => ?_⟩
      refine iteT ?_
      exact ⟨δ, M1, ι1, w, M', l.aft s a1, s1, by unfold ev; exact e2, fun H' ι' a2 s2 => q H' ι' (a1.trans a2) s2⟩
    · cases e2
      refine ⟨δ, M, ι, _, _, l, s, e1, fun H1 ι1 a1 s1 => ?_⟩
      refine iteF ?_
      exact q H1 ι1 a1 s1⟩
theorem w_or {op : Unit} : ∀ {exs : List Ex} {es : List Expr} {pos : Pos}, PEs X C exs es → exs ≠ [] → PW X (.BoolOp .Or es pos) (tB X.K C (.orr exs))
  | [], _, _, _, h => absurd rfl h
  | [ex], [], _, h, _ => h.elim
  | [ex], e :: e2 :: es, _, h, _ => h.2.2.elim
  | [ex], [e], pos, h, _ => ⟨fun wh pins s σ H Q I hq => by
    refine (pw_or1 h.2.1).run wh pins s σ H Q I ?_
    obtain ⟨δ, M, ι, w, M', l, s, e, q⟩ := hq
    unfold ev at e
    rcases inv_or e with ⟨M1, e1, e2⟩ | ⟨e1, e2⟩
    · unfold evOr at e2
      cases e2
      exact ⟨δ, M, ι, _, _, l, s, e1, q⟩
    · cases e2
      exact ⟨δ, M, ι, _, _, l, s, e1, q⟩⟩
  | ex :: ex2 :: exs, [], _, h, _ => h.elim
  | ex :: ex2 :: exs, [e], _, h, _ => h.2.2.elim
  | ex :: ex2 :: exs, e :: e2 :: es, pos, h, _ => ⟨fun wh pins s σ H Q I hq => by
    have ih := w_or (op := op) (exs := ex2 :: exs) (es := e2 :: es) (pos := pos) h.2.2 (by simp)
    refine (pw_or h.2.1 ih).run wh pins s σ H Q I ?_
    obtain ⟨δ, M, ι, w, M', l, s, e, q⟩ := hq
    unfold ev at e
    rcases inv_or e with ⟨M1, e1, e2⟩ | ⟨e1, e2⟩
    · refine ⟨δ, M, ι, _, M1, l, s, e1, fun H1 ι1 a1 s1 => ?_⟩
      refine iteF ?_
      exact ⟨δ, M1, ι1, w, M', l.aft s a1, s1, by unfold ev; exact e2, fun H' ι' a2 s2 => q H' ι' (a1.trans a2) s2⟩
    · cases e2
      refine ⟨δ, M, ι, _, _, l, s, e1, fun H1 ι1 a1 s1 => ?_⟩
      refine iteT ?_
      exact q H1 ι1 a1 s1⟩
end
end Pv

/-! PvEx3: calls, slices, built-ins, methods. -/
namespace PySem.AutoSeq1
open PySem PySem.Builtin
theorem list_extend_any (l : Addr) (items : Array Value) (n : Nat) (b : Addr) (items2 : Array Value) (n2 : Nat) (sl2 : Array (Option Value)) (hc0 : ¬(!items.isEmpty && Builtin.List.listTooLong (items.size + items2.size)) = true) (hc1 : items.size ≤ sizeLine) (hs2 : items.size + items2.size ≤ sizeLine + 1 := by seq_fits) :
    Meets (Builtin.«list.extend» ⟨[.ref l, .ref b], []⟩) (fun _ R s => s.heap.get? l = some { cls := .type "list", dict := none, data := .seq items n, slots := #[] } ∧ s.heap.get? b = some { cls := .type "list", dict := none, data := .seq items2 n2, slots := sl2 } ∧ R (.ok (.ret Value.none)) { s with heap := s.heap.update l (Obj.mapSeq fun x => x ++ items2), toks := s.toks }) :=
  .of_wp fun prog w A R s h => by
    obtain ⟨hp, g, d, tk, os⟩ := s; obtain ⟨hl, hb, h⟩ := h; have f1 := idx_int; have f2 := sub_tuple_tuple; have f3 := sub_list_list; have f4 := sub_tuple_list; have f5 := sub_list_tuple;
    have hz' : (items ++ items2).size ≤ sizeLine + 1 := by rw [Array.size_append]; exact hs2
    wp_walk using (wpAny_updateSeq hl rfl (hz := hc1) (_hz' := hz')), wpAny_loadPart' hl, wpAny_loadPart' hb; exact ⟨_, rfl, h⟩
end PySem.AutoSeq1
namespace Pv
open PySem L2 PyProof.Rows
section
variable {g : GP} {n : Nat} {N : List Str} {X : Cx} {sc : Scope} {C : Ctx}
theorem mt_extendQ : MtM X "list.extend" (fun x vs H Q => ∃ l b xs zs, x = .ref l ∧ vs = [.ref b] ∧ H l = some (.lst xs) ∧ SqL X.K H b zs ∧ xs.length + zs.length ≤ sizeLine ∧ Q .non (upd H l (.lst (xs ++ zs)))) := by
  intro pins s σ H x vs v us Q I rx rv h
  obtain ⟨l, b, xs, zs, rfl, rfl, hH, hB, hz, q⟩ := h
  cases rx
  obtain ⟨u, rfl, ru⟩ := rv.one
  cases ru
  obtain ⟨z, its, n, r, hl, e⟩ := I.lstM hH
  obtain ⟨its2, r2, ⟨⟨c2, dd2, da2, sl2⟩, n2, e2, hc2, hdd2, hd2⟩, z2⟩ := I.list hB
  simp only at hc2 hdd2 hd2
  subst hc2 hdd2 hd2
  have hl2 := r2.length
  have hsz : its.toArray.size + its2.toArray.size ≤ sizeLine := by rw [List.size_toArray, List.size_toArray]; omega
  have hlong : ¬ (!its.toArray.isEmpty && Builtin.List.listTooLong (its.toArray.size + its2.toArray.size)) = true := by
    rw [notLongL hsz, Bool.and_false]
    exact Bool.false_ne_true
  refine call_meets F.slot_list_extend ⟨_, e, rfl⟩ F.entry_list_extend (F.args_list_extend_2 _ _)
    (AutoSeq1.list_extend_any l its.toArray n b its2.toArray n2 sl2 hlong (by rw [List.size_toArray]; omega) (by omega)) ⟨e, e2, ?_⟩
  refine ⟨.non, _, I.lset (its' := its ++ its2) hH e (by simp) (r.append r2) ?_, rfl, q⟩
  rw [List.length_append]
  omega

/-! ### calls of defs -/
def plainXs : List Expr → Bool := fun es => es.all plainX
theorem back_of (pos : Pos) (env : Env) : ∀ {es : List Expr}, plainXs es = true → (backTo pos (starEach es env)).any (·.1) = false
  | [], _ => rfl
  | e :: es, h => by
    have h' : plainX e = true ∧ plainXs es = true := by simpa [plainXs] using h
    rw [star_of h'.1]
    show (false || (backTo pos (starEach es env)).any (·.1)) = false
    rw [back_of pos env h'.2]
    rfl
theorem s_call (G : GOk g n) (x : XOk g n N X sc) {f : String} {es : List Ex} {xs : List Expr} {p pos : Pos} (hg : isGl sc (S f) = true) (ho : okN (S f) = true) (hp : plainXs xs = true) (hlen : es.length = xs.length) (ha : PA X xs (tWs X.K (g.C n) es)) :
    PE X (.Call (.Name (S f) p) xs [] pos) (tE X.K (g.C n) (.call f es)) := by
  obtain ⟨h1, h2, _⟩ := okN_of ho
  cases hf : g.pr.fn f with
  | none =>
    refine ⟨fun pins s σ H Q I h => ?_⟩
    obtain ⟨δ, M, ι, w, M', l, sk, e, q⟩ := h
    exfalso
    unfold ev at e
    cases e1 : evws (g.C n) es δ M with
    | none => rw [e1] at e; cases e
    | some r =>
      obtain ⟨ws, M1⟩ := r
      rw [e1] at e
      have e : callF g.pr n f ws M1 = some (w, M') := e
      cases n with
      | zero => cases e
      | succ n =>
        unfold callF at e
        rw [hf] at e
        cases e
  | some fn =>
    obtain ⟨a, fd, ps, m, k, b, F⟩ := G.call f fn hf
    have F' : FnOk X.prog X.w X.K X.mg X.base CX0 n a fd ps (spOf g n f) := by rw [x.prog, x.w, x.K, x.mg, x.base]; exact F
    have main : ∀ (t : TA), (t = tWs X.K (g.C n) es) → PE X (.Call (.Name (S f) p) xs [] pos) (tCall (spOf g n f) [] E0 t) := by
      intro t ht
      cases xs with
      | nil =>
        have h0 := pe_call0 (pos := pos) (p := p) F' x.room (gl_of x hg) (by rw [x.mg]; exact m) (by rw [x.K]; exact k) (by rw [x.K]; exact b) .nil pass0 h1
        refine pe_of h0 fun σ H Q h => ?_
        subst ht
        cases es with
        | nil =>
          obtain ⟨δ, M, ι, ds, M', l, s, e, q⟩ := h
          unfold evws at e
          cases e
          exact q [] H ι Aft.refl s rfl
        | cons ex es => cases hlen
      | cons y ys =>
        have hp' : plainX y = true ∧ plainXs ys = true := by simpa [plainXs] using hp
        rw [ht]
        exact pe_call F' x.room (gl_of x hg) (by rw [x.mg]; exact m) (by rw [x.K]; exact k) (by rw [x.K]; exact b) .nil pass0 ha h1 (star_of hp'.1 _) (back_of _ _ hp'.2)
    refine pe_of (main _ rfl) fun σ H Q h => ?_
    obtain ⟨δ, M, ι, w, M', l, s, e, q⟩ := h
    unfold ev at e
    cases e1 : evws (g.C n) es δ M with
    | none => rw [e1] at e; cases e
    | some r =>
      obtain ⟨ws, M1⟩ := r
      rw [e1] at e
      refine ⟨δ, M, ι, ws, M1, l, s, e1, fun vs H1 ι1 a1 s1 r1 => ?_⟩
      show spOf g n f (vs ++ []) H1 Q E0
      rw [List.append_nil]
      refine ⟨M1, ι1, ws, w, M', by rw [← x.K]; exact s1, by rw [← x.K]; exact r1, e, fun v H' ι' a2 s2 r2 => ?_⟩
      exact q v H' ι' (a1.trans a2) (by rw [x.K]; exact s2) (by rw [x.K]; exact r2)

/-! ### built-ins by name -/
theorem boot_bi : ∀ b : Bi, bootBuiltins (biN b) = some (biV b) := by
  intro b
  cases b <;> (show bootBuiltins (S _) = _; decide +kernel)
theorem biN_mem : ∀ b : Bi, biN b ∈ bltNames := by
  intro b
  cases b <;> (show S _ ∈ bltNames; simp [bltNames])
theorem plainBi_eq (b : Bi) : plainBi b = biPlain b := by cases b <;> rfl
theorem repts_of {K : PySem.W.Frag} {H : Hp} {M : Sto} {ι : List Addr} (s : SOk K H M ι) : ∀ {ws : List W} {vs : List V} {ds : List D}, RepWs K H ι ws vs → ws.mapM (deref M) = some ds → RepTs K H ds vs
  | [], _, ds, r, h => by
    have : ds = [] := by simpa using h.symm
    subst this
    exact r
  | w :: ws, _, ds, r, h => by
    obtain ⟨v, vs, rfl, r1, r2⟩ := r
    rw [List.mapM_cons] at h
    cases e1 : deref M w with
    | none => rw [e1] at h; cases h
    | some d =>
      rw [e1] at h
      cases e2 : ws.mapM (deref M) with
      | none => rw [e2] at h; cases h
      | some ds' =>
        rw [e2] at h
        have h : some (d :: ds') = some ds := h
        cases h
        exact ⟨v, vs, rfl, rept_of s r1 e1, repts_of s r2 e2⟩
theorem s_bi (G : GOk g n) (x : XOk g n N X sc) {b : Bi} {es : List Ex} {xs : List Expr} {p pos : Pos} (hb : biPlain b = true) (hg : isGl sc (biN b) = true) (ho : okN (biN b) = true) (hp : plainXs xs = true) (hne : xs ≠ []) (ha : PA X xs (tWs X.K C es)) :
    PE X (.Call (.Name (biN b) p) xs [] pos) (tE X.K C (.bi b es)) := by
  obtain ⟨h1, h2, h3⟩ := okN_of ho
  have hm : X.mg (biN b) = none := by rw [x.mg]; exact G.blt _ (biN_mem b)
  have hc := call_bi (X := X) x.calm b (by rw [plainBi_eq]; exact hb)
  cases xs with
  | nil => exact absurd rfl hne
  | cons y ys =>
    have hp' : plainX y = true ∧ plainXs ys = true := by simpa [plainXs] using hp
    have main : PE X (.Call (.Name (biN b) p) (y :: ys) [] pos) (tCB (rBi X.K (biE b)) (tWs X.K C es)) := by
      have hv := boot_bi b
      cases eb : biV b with
      | builtin id =>
        rw [eb] at hv hc
        exact pe_callB hc (gl_of x hg) hm hv ha h3 h1 (star_of hp'.1 _) (back_of _ _ hp'.2)
      | type T =>
        rw [eb] at hv hc
        exact pe_callTy hc (gl_of x hg) hm hv ha h3 h1 (star_of hp'.1 _) (back_of _ _ hp'.2)
      | _ => exfalso; cases b <;> cases eb
    refine pe_of main fun σ H Q h => ?_
    obtain ⟨δ, M, ι, w, M', l, s, e, q⟩ := h
    unfold ev at e
    cases e1 : evws C es δ M with
    | none => rw [e1] at e; cases e
    | some r =>
      obtain ⟨ws, M1⟩ := r
      rw [e1] at e
      simp only at e
      cases e2 : ws.mapM (deref M1) with
      | none => rw [e2] at e; cases e
      | some ds =>
        rw [e2] at e
        simp only at e
        cases e3 : biE b ds with
        | none => rw [e3] at e; cases e
        | some z =>
          rw [e3] at e
          cases e
          exact ⟨δ, M, ι, ws, _, l, s, e1, fun vs H1 ι1 a1 s1 r1 => ⟨ds, z, repts_of s1 r1 e2, e3, fun v H' sm r => q v H' ι1 (a1.trans (Aft.same sm)) (s1.same sm) r⟩⟩
theorem s_mkl (G : GOk g n) (x : XOk g n N X sc) {mu : Bool} {xa : Ex} {a : Expr} {p pos : Pos} (hg : isGl sc (S "list") = true) (hp : plainX a = true) (ha : PE X a (tE X.K C xa)) : PE X (.Call (.Name (S "list") p) [a] [] pos) (tE X.K C (.mkl mu xa)) := by
  have hm : X.mg (S "list") = none := by rw [x.mg]; exact G.blt _ (by simp [bltNames])
  refine pe_of (pe_callTy (call_fz call_list_of) (gl_of x hg) hm (by decide +kernel) (pa_cons ha pa_nil (star_of hp _)) (by decide) (by decide) (star_of hp _) rfl) fun σ H Q h => ?_
  obtain ⟨δ, M, ι, w, M', l, s, e, q⟩ := h
  unfold ev at e
  cases e1 : ev C xa δ M with
  | none => rw [e1] at e; cases e
  | some r =>
    obtain ⟨u, M1⟩ := r
    rw [e1] at e
    simp only at e
    refine ⟨δ, M, ι, u, M1, l, s, e1, fun v H1 ι1 a1 s1 r1 => ?_⟩
    show ∃ p ys, [v] = [V.ref p] ∧ _
    cases e2 : deref M1 u with
    | none => rw [e2] at e; cases e
    | some d =>
      rw [e2] at e
      cases d with
      | lst ds =>
        simp only at e
        obtain ⟨a, ys, rfl, h1, h2⟩ := rept_lst (rept_of s1 r1 e2)
        exact ⟨a, ys, rfl, .inl h1, fun l hl => fin_ok s1 e hl h2 (rept_len (rept_of s1 r1 e2)) fun v H' ι' a2 s2 r2 => q v H' ι' (a1.trans a2) s2 r2⟩
      | tup ds =>
        simp only at e
        obtain ⟨a, ys, rfl, h1, h2⟩ := rept_tup (rept_of s1 r1 e2)
        exact ⟨a, ys, rfl, .inr h1, fun l hl => fin_ok s1 e hl h2 (rept_tlen (rept_of s1 r1 e2)) fun v H' ι' a2 s2 r2 => q v H' ι' (a1.trans a2) s2 r2⟩
      | _ => cases e
theorem s_cat {mu : Bool} {xa xb : Ex} {a b : Expr} {pos : Pos} (ha : PE X a (tE X.K C xa)) (hb : PE X b (tE X.K C xb)) : PE X (.BinOp a .Add b pos) (tE X.K C (.cat mu xa xb)) := by
  refine pe_of (pe_op (op_fz op_addL) ha hb) (op2_of fun δ M w M' e => ?_)
  unfold ev at e
  obtain ⟨w1, M1, w2, M2, e1, e2, e⟩ := inv2 e
  refine ⟨w1, M1, w2, M2, e1, e2, fun H ι x y Q s r1 r2 q => ?_⟩
  cases d1 : deref M2 w1 with
  | none => rw [d1] at e; cases e
  | some dx =>
    cases d2 : deref M2 w2 with
    | none => rw [d1, d2] at e; cases dx <;> cases e
    | some dy =>
      rw [d1, d2] at e
      cases dx with
      | lst xs =>
        cases dy with
        | lst ys =>
          simp only at e
          by_cases c : xs.length + ys.length ≤ line
          · rw [if_pos c] at e
            obtain ⟨a, vs, rfl, h1, p1⟩ := rept_lst (rept_of s r1 d1)
            obtain ⟨b, us, rfl, h2, p2⟩ := rept_lst (rept_of s r2 d2)
            exact ⟨a, b, vs, us, rfl, rfl, h1, h2, by rw [← p1.len, ← p2.len, line_eq]; exact c, fun p hp => fin_ok s e hp (p1.app p2) (by rw [List.length_append]; exact c) q⟩
          · rw [if_neg c] at e; cases e
        | _ => cases e
      | _ => cases e

/-! ### slices -/
theorem po_of {ex : Ex} {e : Expr} (h : PE X e (tE X.K C ex)) : PO X (some e) (tPart (tE X.K C ex)) := po_some h
theorem asI_inv {o : Option (W × Sto)} {l : Option Int} {M : Sto} (h : asI o = some (l, M)) : ∃ i, l = some i ∧ o = some (.d (.int i), M) := by
  unfold asI at h
  split at h
  · cases h; exact ⟨_, rfl, rfl⟩
  · cases h
/-- an optional bound -/
def PoE (X : Cx) (C : Ctx) (ex : Ex) : Option Expr → Prop
  | none => isNop ex = true
  | some e => isNop ex = false ∧ PE X e (tE X.K C ex)
def tPo (K : PySem.W.Frag) (C : Ctx) (ex : Ex) : TO := fun σ H Q => ∃ δ M ι o M', LOk K H ι δ σ ∧ SOk K H M ι ∧ (if isNop ex then some (none, M) else asI (ev C ex δ M)) = some (o, M') ∧
  ∀ H' ι', Aft H M ι H' M' ι' → SOk K H' M' ι' → Q o H'
theorem po_W {ex : Ex} {o : Option Expr} (h : PoE X C ex o) : PO X o (tPo X.K C ex) := by
  cases o with
  | none =>
    have h : isNop ex = true := h
    refine ⟨fun pins s σ H Q I hq => po_none.run pins s σ H Q I ?_⟩
    obtain ⟨δ, M, ι, o, M', l, sk, e, q⟩ := hq
    rw [if_pos h] at e
    cases e
    exact q H ι Aft.refl sk
  | some x =>
    obtain ⟨h1, h2⟩ := h
    refine ⟨fun pins s σ H Q I hq => (po_some h2).run pins s σ H Q I ?_⟩
    obtain ⟨δ, M, ι, o, M', l, sk, e, q⟩ := hq
    rw [if_neg (by rw [h1]; decide)] at e
    obtain ⟨i, rfl, e'⟩ := asI_inv e
    exact ⟨δ, M, ι, _, M', l, sk, e', fun v H' ι' a s' r => ⟨i, repw_int r, q H' ι' a s'⟩⟩
theorem s_slc {mu : Bool} {xa xl xh : Ex} {a : Expr} {lo hi : Option Expr} {p2 pos : Pos} (ha : PE X a (tE X.K C xa)) (hl : PoE X C xl lo) (hh : PoE X C xh hi) : PE X (.Subscript a (.Slice lo hi none p2) pos) (tE X.K C (.slc mu xa xl xh)) := by
  refine pe_of (pe_slice (sl_W mu) ha (po_W hl) (po_W hh)) fun σ H Q h => ?_
  obtain ⟨δ, M, ι, w, M', l, s, e, q⟩ := h
  unfold ev at e
  cases e1 : ev C xa δ M with
  | none => rw [e1] at e; cases e
  | some r =>
    obtain ⟨u, M1⟩ := r
    rw [e1] at e
    simp only at e
    cases e2 : (if isNop xl then some (none, M1) else asI (ev C xl δ M1)) with
    | none => rw [e2] at e; cases e
    | some r =>
      obtain ⟨lo', M2⟩ := r
      rw [e2] at e
      simp only at e
      cases e3 : (if isNop xh then some (none, M2) else asI (ev C xh δ M2)) with
      | none => rw [e3] at e; cases e
      | some r =>
        obtain ⟨hi', M3⟩ := r
        rw [e3] at e
        simp only at e
        cases e4 : deref M3 u with
        | none => rw [e4] at e; cases e
        | some d =>
          rw [e4] at e
          simp only at e
          refine ⟨δ, M, ι, u, M1, l, s, e1, fun v H1 ι1 a1 s1 r1 => ⟨δ, M1, ι1, lo', M2, l.aft s a1, s1, e2, fun H2 ι2 a2 s2 => ⟨δ, M2, ι2, hi', M3, (l.aft s a1).aft s1 a2, s2, e3, fun H3 ι3 a3 s3 => ?_⟩⟩⟩
          have rr := (r1.mono (a2.kp s1) a2.ext).mono (a3.kp s2) a3.ext
          exact ⟨M3, ι3, d, w, M', s3, rept_of s3 rr e4, e, fun v H' ι' a4 s4 r4 => q v H' ι' (((a1.trans a2).trans a3).trans a4) s4 r4⟩
end
end Pv

/-! PvEx4: methods, isinstance, chains. -/
namespace Pv
open PySem L2 PyProof.Rows
section
variable {g : GP} {n : Nat} {N : List Str} {X : Cx} {sc : Scope} {C : Ctx}
theorem base_of {o : Expr} (h : noSup o = true) (m : Str) (env : Env) : attributeBase o m env (eval o env) = eval o env := by
  unfold attributeBase
  split
  · cases h
  · rfl
theorem s_ite {xc xa xb : Ex} {c a b : Expr} {pos : Pos} (hc : PT X c (tB X.K C xc)) (ha : PE X a (tE X.K C xa)) (hb : PE X b (tE X.K C xb)) : PE X (.IfExp c a b pos) (tE X.K C (.ite xc xa xb)) := by
  refine pe_of (pe_ifExp hc ha hb) fun σ H Q h => ?_
  obtain ⟨δ, M, ι, w, M', l, s, e, q⟩ := h
  unfold ev at e
  split at e
  · rename_i N1 e1
    exact ⟨δ, M, ι, true, N1, l, s, e1, fun H1 ι1 a1 s1 => iteT ⟨δ, N1, ι1, w, M', l.aft s a1, s1, e, fun v H' ι' a2 s2 r => q v H' ι' (a1.trans a2) s2 r⟩⟩
  · rename_i N1 e1
    exact ⟨δ, M, ι, false, N1, l, s, e1, fun H1 ι1 a1 s1 => iteF ⟨δ, N1, ι1, w, M', l.aft s a1, s1, e, fun v H' ι' a2 s2 r => q v H' ι' (a1.trans a2) s2 r⟩⟩
  · cases e
theorem chn_inv {o1 o2 : COp} {xa xb xc : Ex} {δ : Loc} {M : Sto} {w : W} {M' : Sto} (e : ev C (.chn o1 o2 xa xb xc) δ M = some (w, M')) :
    ∃ x M1 y M2, ev C xa δ M = some (.d x, M1) ∧ ev C xb δ M1 = some (.d y, M2) ∧
      ((cmpE o1 x y = some false ∧ w = .d (.bl false) ∧ M' = M2) ∨ (cmpE o1 x y = some true ∧ ∃ z r, ev C xc δ M2 = some (.d z, M') ∧ cmpE o2 y z = some r ∧ w = .d (.bl r))) := by
  unfold ev at e
  obtain ⟨w1, M1, w2, M2, e1, e2, e⟩ := inv2 e
  cases w1 with
  | m k => cases e
  | d x =>
    cases w2 with
    | m k => cases e
    | d y =>
      simp only at e
      refine ⟨x, M1, y, M2, e1, e2, ?_⟩
      cases c1 : cmpE o1 x y with
      | none => rw [c1] at e; cases e
      | some b =>
        rw [c1] at e
        cases b with
        | false => cases e; exact .inl ⟨rfl, rfl, rfl⟩
        | true =>
          simp only at e
          refine .inr ⟨rfl, ?_⟩
          split at e
          · rename_i z M3 e3
            cases c2 : cmpE o2 y z with
            | none => rw [c2] at e; cases e
            | some r => rw [c2] at e; cases e; exact ⟨z, r, e3, c2, rfl⟩
          · cases e
theorem s_chn (hu : X.A.units + 190 < cLine) {o1 o2 : COp} {xa xb xc : Ex} {a b c : Expr} {p1 p2 : CmpOp} {pos : Pos} (h1 : chkC o1 p1 = true) (h2 : chkC o2 p2 = true) (hp1 : plainX b = true) (hp2 : plainX c = true)
    (ha : PE X a (tE X.K C xa)) (hb : PE X b (tE X.K C xb)) (hc : PE X c (tE X.K C xc)) : PE X (.Compare a [p1, p2] [b, c] pos) (tE X.K C (.chn o1 o2 xa xb xc)) := by
  obtain rfl := toC_of h1
  obtain rfl := toC_of h2
  refine pe_of (pe_chain (op_cmpW o1 hu) (op_cmpW o2 hu) ha hb hc (by first | exact mark_of hp2 _ | exact mark_of hp1 _)) fun σ H Q h => ?_
  obtain ⟨δ, M, ι, w, M', l, s, e, q⟩ := h
  obtain ⟨x, M1, y, M2, e1, e2, k⟩ := chn_inv e
  refine ⟨δ, M, ι, _, M1, l, s, e1, fun v H1 ι1 a1 s1 r1 => ⟨δ, M1, ι1, _, M2, l.aft s a1, s1, e2, fun u H2 ι2 a2 s2 r2 => ?_⟩⟩
  have r1' := r1.mono (a2.kp s1) a2.ext
  rcases k with ⟨c1, rfl, rfl⟩ | ⟨c1, z, r, e3, c2, rfl⟩
  · refine ⟨x, y, false, .inl (repw r1'), .inl (repw r2), c1, false, rfl, ?_⟩
    exact iteF (q _ H2 ι2 (a1.trans a2) s2 (mkw (mk_bl _)))
  · refine ⟨x, y, true, .inl (repw r1'), .inl (repw r2), c1, true, rfl, ?_⟩
    refine iteT ⟨δ, M2, ι2, _, M', (l.aft s a1).aft s1 a2, s2, e3, fun t H3 ι3 a3 s3 r3 => ?_⟩
    exact ⟨y, z, r, .inl (repw (r2.mono (a3.kp s2) a3.ext)), .inl (repw r3), c2, q _ H3 ι3 ((a1.trans a2).trans a3) s3 (mkw (mk_bl _))⟩
theorem t_chn (hu : X.A.units + 190 < cLine) {o1 o2 : COp} {xa xb xc : Ex} {a b c : Expr} {p1 p2 : CmpOp} {pos : Pos} (h1 : chkC o1 p1 = true) (h2 : chkC o2 p2 = true) (hp1 : plainX b = true) (hp2 : plainX c = true)
    (ha : PE X a (tE X.K C xa)) (hb : PE X b (tE X.K C xb)) (hc : PE X c (tE X.K C xc)) : PT X (.Compare a [p1, p2] [b, c] pos) (tB X.K C (.chn o1 o2 xa xb xc)) := by
  obtain rfl := toC_of h1
  obtain rfl := toC_of h2
  refine pt_of (pt_chain (op_cmpW o1 hu) (op_cmpW o2 hu) ha hb hc (by first | exact mark_of hp2 _ | exact mark_of hp1 _)) fun σ H Q h => ?_
  obtain ⟨δ, M, ι, w, M', l, s, e, q⟩ := h
  obtain ⟨x, M1, y, M2, e1, e2, k⟩ := chn_inv e
  refine ⟨δ, M, ι, _, M1, l, s, e1, fun v H1 ι1 a1 s1 r1 => ⟨δ, M1, ι1, _, M2, l.aft s a1, s1, e2, fun u H2 ι2 a2 s2 r2 => ?_⟩⟩
  have r1' := r1.mono (a2.kp s1) a2.ext
  rcases k with ⟨c1, ew, rfl⟩ | ⟨c1, z, r, e3, c2, ew⟩
  · cases ew
    refine ⟨x, y, false, .inl (repw r1'), .inl (repw r2), c1, false, rfl, ?_⟩
    first
      | exact iteF ⟨_, rfl, q H2 ι2 (a1.trans a2) s2⟩
      | exact iteF (q H2 ι2 (a1.trans a2) s2)
  · cases ew
    refine ⟨x, y, true, .inl (repw r1'), .inl (repw r2), c1, true, rfl, ?_⟩
    refine iteT ⟨δ, M2, ι2, _, M', (l.aft s a1).aft s1 a2, s2, e3, fun t H3 ι3 a3 s3 r3 => ?_⟩
    refine ⟨y, z, _, .inl (repw (r2.mono (a3.kp s2) a3.ext)), .inl (repw r3), c2, ?_⟩
    first
      | exact ⟨_, rfl, q H3 ι3 ((a1.trans a2).trans a3) s3⟩
      | exact q H3 ι3 ((a1.trans a2).trans a3) s3

/-! ### isinstance -/
def tyNm : D → String
  | .non => "NoneType"
  | .bl _ => "bool"
  | .int _ => "int"
  | .str _ => "str"
  | .tup _ => "tuple"
  | .lst _ => "list"
  | .dic _ => "dict"
theorem tyx_of {K : PySem.W.Frag} {H : Hp} {d : D} {v : V} (h : RepT K H d v) (nd : ∀ x, d ≠ .dic x) : TyX K H v (.type (tyNm d)) := by
  cases d with
  | non => rw [rept_non h]; exact .base .non
  | bl b => rw [rept_bl h]; exact .base (.bl b)
  | int b => rw [rept_int h]; exact .base (.int b)
  | str b => rw [(rept_str h).1]; exact .base (.str _)
  | tup xs =>
    obtain ⟨a, ws, rfl, q, _⟩ := rept_tup h
    rcases q with (q | ⟨o, q⟩) | ⟨o, its, m, q1, q2, _⟩
    · exact .base (.tup q)
    · exact .fTuple q
    · exact .kTuple q1 q2
  | lst xs =>
    obtain ⟨a, ws, rfl, q, _⟩ := rept_lst h
    rcases q with (q | ⟨o, q⟩) | ⟨o, its, m, q1, q2, _⟩
    · exact .base (.lst q)
    · exact .base (.frz q)
    · exact .kList q1 q2
  | dic xs => exact absurd rfl (nd xs)
theorem kit_isi {d : D} {t : String} {b : Bool} (h : isiE d t = some b) : kitB (tyNm d) t = some b ∧ (t = "int" ∨ t = "bool" ∨ t = "str" ∨ t = "tuple") ∧ ∀ x, d ≠ .dic x := by
  unfold isiE at h
  split at h <;> first | (cases h; done) | (cases h; exact ⟨by (simp only [tyNm]; decide +kernel), by simp, fun x e => by cases e⟩)
theorem s_isi (G : GOk g n) (x : XOk g n N X sc) {xa : Ex} {t : String} {a : Expr} {p p2 pos : Pos} (hg : isGl sc (S "isinstance") = true) (hg2 : isGl sc (S t) = true) (ho : okN (S t) = true) (hp : plainX a = true) (ha : PE X a (tE X.K C xa)) :
    PE X (.Call (.Name (S "isinstance") p) [a, .Name (S t) p2] [] pos) (tE X.K C (.isi xa t)) := by
  have hm : X.mg (S "isinstance") = none := by rw [x.mg]; exact G.blt _ (by simp [bltNames])
  obtain ⟨h1, h2, h3⟩ := okN_of ho
  by_cases ht : t = "int" ∨ t = "bool" ∨ t = "str" ∨ t = "tuple"
  · have hm2 : X.mg (S t) = none := by
      rw [x.mg]
      rcases ht with rfl | rfl | rfl | rfl <;> exact G.blt _ (by simp [bltNames])
    have hb : bootBuiltins (S t) = some (.type t) := by
      rcases ht with rfl | rfl | rfl | rfl <;> decide +kernel
    have ht2 : PE X (.Name (S t) p2) (tC (.ty t)) := pe_bltn (gl_of x hg2) hm2 hb rfl h3 h1
    refine pe_of (pe_callB call_isi (gl_of x hg) hm (by decide +kernel) (pa_cons ha (pa_cons ht2 pa_nil) (star_of hp _)) (by decide) (by decide) (star_of hp _) rfl) fun σ H Q h => ?_
    obtain ⟨δ, M, ι, w, M', l, s, e, q⟩ := h
    unfold ev at e
    cases e1 : ev C xa δ M with
    | none => rw [e1] at e; cases e
    | some r =>
      obtain ⟨u, M1⟩ := r
      rw [e1] at e
      simp only at e
      cases e2 : deref M1 u with
      | none => rw [e2] at e; cases e
      | some d =>
        rw [e2] at e
        simp only at e
        cases e3 : isiE d t with
        | none => rw [e3] at e; cases e
        | some b =>
          rw [e3] at e
          cases e
          obtain ⟨k1, _, k2⟩ := kit_isi e3
          exact ⟨δ, M, ι, u, _, l, s, e1, fun v H1 ι1 a1 s1 r1 => ⟨v, .ty t, .type (tyNm d), .type t, b, rfl, .ty t, tyx_of (rept_of s1 r1 e2) k2, kit_ty k1, q _ H1 ι1 a1 s1 (mkw (mk_bl _))⟩⟩
  · refine ⟨fun pins s σ H Q I h => ?_⟩
    obtain ⟨δ, M, ι, w, M', l, sk, e, q⟩ := h
    exfalso
    unfold ev at e
    cases e1 : ev C xa δ M with
    | none => rw [e1] at e; cases e
    | some r =>
      obtain ⟨u, M1⟩ := r
      rw [e1] at e
      simp only at e
      cases e2 : deref M1 u with
      | none => rw [e2] at e; cases e
      | some d =>
        rw [e2] at e
        simp only at e
        cases e3 : isiE d t with
        | none => rw [e3] at e; cases e
        | some b => exact ht (kit_isi e3).2.1

/-! ### methods -/
theorem joinL_eq (a : List Nat) : ∀ ys : List (List Nat), joinL a ys = _root_.TL.joinL a ys
  | [] => rfl
  | [_] => rfl
  | p :: q :: r => by
    unfold joinL _root_.TL.joinL
    rw [joinL_eq a (q :: r), List.append_assoc]
theorem okS_join {a : List Nat} (ha : okS a) : ∀ {ys : List (List Nat)}, (∀ y ∈ ys, okS y) → okS (joinL a ys)
  | [], _ => fun c hc => by cases hc
  | [y], h => h y List.mem_cons_self
  | p :: q :: r, h => by
    unfold joinL
    exact okS_app (okS_app (h p List.mem_cons_self) ha) (okS_join ha fun y hy => h y (List.mem_cons_of_mem _ hy))
theorem s_join {xa xb : Ex} {a b : Expr} {apos pos : Pos} (hn : noSup a = true) (hp : plainX b = true) (hl : (apos.endLine == pos.line) = true) (ha : PE X a (tE X.K C xa)) (hb : PE X b (tE X.K C xb)) :
    PE X (.Call (.Attribute a (S "join") apos) [b] [] pos) (tE X.K C (.join xa xb)) := by
  refine pe_of (pe_join ha hb (by rw [star_of hp]; rfl) (base_of hn _ _) hl) fun σ H Q h => ?_
  obtain ⟨δ, M, ι, w, M', l, s, e, q⟩ := h
  unfold ev at e
  split at e
  · rename_i z M1 e1
    split at e
    · rename_i u M2 e2
      split at e
      · rename_i ds e3
        split at e
        · rename_i ys e4
          split at e
          · rename_i hsz
            cases e
            refine ⟨δ, M, ι, _, M1, l, s, e1, fun v H1 ι1 a1 s1 r1 => ⟨⟨mkS z, (rep_str (repw r1)).1⟩, δ, M1, ι1, u, _, l.aft s a1, s1, e2, fun v2 H2 ι2 a2 s2 r2 => ?_⟩⟩
            obtain ⟨rfl, o1⟩ := rep_str (repw r1)
            obtain ⟨p, vs, rfl, h1, h2⟩ := rept_lst (rept_of s2 r2 e3)
            obtain ⟨rfl, o2⟩ := strs_V e4 h2
            refine ⟨mkS z, p, ys.map mkS, rfl, rfl, .inl h1, ?_, ?_⟩
            · rw [List.map_map, mkS_len, List.length_map]
              rw [show ((fun x : Str => x.length) ∘ mkS) = List.length from by funext t; exact mkS_len t]
              exact hsz
            · have ej : Txt.join (mkS z) (ys.map mkS) = mkS (joinL z ys) := by
                rw [joinL_eq]
                exact SX.join_S z ys
              rw [ej]
              exact q _ H2 ι2 (a1.trans a2) s2 (mkw (mk_str (okS_join o1 o2)))
          · cases e
        · cases e
      · cases e
    · cases e
  · cases e
theorem few_of {e : Expr} (h : plainX e = true) (cpos : Pos) (env : Env) : ((backTo cpos (starEach [e] env)).all (fun x => !x.1) && (backToKw cpos (keywordEach [] env)).all (fun x => x.1.isSome)
    && decide ([e].length + ([] : List Keyword).length + (if ([] : List Keyword).isEmpty then 0 else 1) < 30)) = true := by
  rw [star_of h]
  rfl
theorem s_app {xa xb : Ex} {a b : Expr} {apos pos : Pos} (hn : noSup a = true) (hp : plainX b = true) (hl : (apos.endLine == pos.line) = true) (ha : PE X a (tE X.K C xa)) (hb : PE X b (tE X.K C xb)) :
    PE X (.Call (.Attribute a (S "append") apos) [b] [] pos) (tE X.K C (.app xa xb)) := by
  refine pe_of (pe_bm PySem.F.plainAttrs_list PySem.F.slot_list_append PySem.F.type_list_append mt_append ha (pa_cons hb pa_nil (star_of hp _)) (base_of hn _ _) (few_of hp _ _) hl (star_of hp _) rfl) fun σ H Q h => ?_
  obtain ⟨δ, M, ι, w, M', l, s, e, q⟩ := h
  unfold ev at e
  split at e
  · rename_i k M1 e1
    split at e
    · rename_i zs e0
      split at e
      · rename_i z M2 e2
        split at e
        · rename_i ds e3
          split at e
          · rename_i hsz
            cases e
            refine ⟨δ, M, ι, _, M1, l, s, e1, fun v H1 ι1 a1 s1 r1 => ?_⟩
            obtain ⟨p, hp1, rfl⟩ := r1
            obtain ⟨ws, k1, _⟩ := s1.mo k _ p e0 hp1
            refine ⟨.inl ⟨rfl, ws, SqL.of k1⟩, δ, M1, ι1, _, M2, l.aft s a1, s1, e2, fun v2 H2 ι2 a2 s2 r2 => ?_⟩
            obtain ⟨t, rfl⟩ := a2.ext
            have hp2 : (ι1 ++ t)[k]? = some p := by rw [List.getElem?_append_left (List.getElem?_eq_some_iff.mp hp1).1]; exact hp1
            obtain ⟨us, k2, k3, k3l⟩ := s2.mo k _ p e3 hp2
            refine ⟨p, us, v2, rfl, rfl, k2, by rw [← k3.len, line_eq]; exact hsz, ?_⟩
            have lv := live_of e3 rfl hp2
            have af := Aft.write (o := .lst (ds ++ [z])) (u := .lst (us ++ [v2])) s2 hp2 lv
            refine q _ _ _ ((a1.trans a2).trans af) (s2.write hp2 lv ⟨_, upd_same, ?_, by rw [List.length_append]; exact hsz⟩) (mkw mk_non)
            exact (Reps.mono (af.kp s2) _ _ k3).snoc (Rep.mono (af.kp s2) _ _ (repw r2))
          · cases e
        · cases e
      · cases e
    · cases e
  · cases e
theorem s_ext {xa xb : Ex} {a b : Expr} {apos pos : Pos} (hn : noSup a = true) (hp : plainX b = true) (hl : (apos.endLine == pos.line) = true) (ha : PE X a (tE X.K C xa)) (hb : PE X b (tE X.K C xb)) :
    PE X (.Call (.Attribute a (S "extend") apos) [b] [] pos) (tE X.K C (.ext xa xb)) := by
  refine pe_of (pe_bm PySem.F.plainAttrs_list PySem.F.slot_list_extend PySem.F.type_list_extend mt_extendQ ha (pa_cons hb pa_nil (star_of hp _)) (base_of hn _ _) (few_of hp _ _) hl (star_of hp _) rfl) fun σ H Q h => ?_
  obtain ⟨δ, M, ι, w, M', l, s, e, q⟩ := h
  unfold ev at e
  split at e
  · rename_i k M1 e1
    split at e
    · rename_i zs e0
      split at e
      · rename_i z M2 e2
        split at e
        · rename_i ds e3
          split at e
          · rename_i hsz
            cases e
            refine ⟨δ, M, ι, _, M1, l, s, e1, fun v H1 ι1 a1 s1 r1 => ?_⟩
            obtain ⟨p, hp1, rfl⟩ := r1
            obtain ⟨ws, k1, _⟩ := s1.mo k _ p e0 hp1
            refine ⟨.inl ⟨rfl, ws, SqL.of k1⟩, δ, M1, ι1, _, M2, l.aft s a1, s1, e2, fun v2 H2 ι2 a2 s2 r2 => ?_⟩
            obtain ⟨t, rfl⟩ := a2.ext
            have hp2 : (ι1 ++ t)[k]? = some p := by rw [List.getElem?_append_left (List.getElem?_eq_some_iff.mp hp1).1]; exact hp1
            obtain ⟨us, k2, k3, k3l⟩ := s2.mo k _ p e3 hp2
            obtain ⟨b2, zs2, rfl, k4, k5⟩ := rep_lst (repw r2)
            refine ⟨p, b2, us, zs2, rfl, rfl, k2, k4.sq, by rw [← k3.len, ← k5.len, line_eq]; exact hsz, ?_⟩
            have lv := live_of e3 rfl hp2
            have af := Aft.write (o := .lst (ds ++ z)) (u := .lst (us ++ zs2)) s2 hp2 lv
            refine q _ _ _ ((a1.trans a2).trans af) (s2.write hp2 lv ⟨_, upd_same, ?_, by rw [List.length_append]; exact hsz⟩) (mkw mk_non)
            exact (Reps.mono (af.kp s2) _ _ k3).app (Reps.mono (af.kp s2) _ _ k5)
          · cases e
        · cases e
      · cases e
    · cases e
  · cases e
theorem s_pop {xa : Ex} {a : Expr} {apos pos : Pos} (hn : noSup a = true) (hl : (apos.endLine == pos.line) = true) (ha : PE X a (tE X.K C xa)) :
    PE X (.Call (.Attribute a (S "pop") apos) [] [] pos) (tE X.K C (.pop xa)) := by
  refine pe_of (pe_bm0 PySem.F.plainAttrs_list PySem.F.slot_list_pop PySem.F.type_list_pop mt_pop ha (base_of hn _ _) hl) fun σ H Q h => ?_
  obtain ⟨δ, M, ι, w, M', l, s, e, q⟩ := h
  unfold ev at e
  split at e
  · rename_i k M1 e1
    split at e
    · rename_i ds e0
      split at e
      · rename_i z e2
        cases e
        refine ⟨δ, M, ι, _, M1, l, s, e1, fun v H1 ι1 a1 s1 r1 => ?_⟩
        obtain ⟨p, hp1, rfl⟩ := r1
        obtain ⟨us, k2, k3, k3l⟩ := s1.mo k _ p e0 hp1
        obtain ⟨y, k4, k5⟩ := k3.get e2
        refine ⟨.inl ⟨rfl, us, SqL.of k2⟩, p, us, y, rfl, rfl, k2, by rw [← k3.len]; exact k4, ?_⟩
        have lv := live_of e0 rfl hp1
        have af := Aft.write (o := .lst ds.dropLast) (u := .lst us.dropLast) s1 hp1 lv
        exact q _ _ _ (a1.trans af) (s1.write hp1 lv ⟨_, upd_same, (Reps.mono (af.kp s1) _ _ k3).dropLast, by rw [List.length_dropLast]; omega⟩) (mkw (Rep.mono (af.kp s1) _ _ k5))
      · cases e
    · cases e
  · cases e
theorem s_dget (hu : X.A.units + 1 < cLine) {xa xb xc : Ex} {a b c : Expr} {apos pos : Pos} (hn : noSup a = true) (hp : plainX b = true) (hp2 : plainX c = true) (hl : (apos.endLine == pos.line) = true) (ha : PE X a (tE X.K C xa)) (hb : PE X b (tE X.K C xb)) (hc : PE X c (tE X.K C xc)) :
    PE X (.Call (.Attribute a (S "get") apos) [b, c] [] pos) (tE X.K C (.dget xa xb xc)) := by
  have m2 : M2 X a (S "get") apos b c pos := ⟨base_of hn _ _, by rw [star_of hp, star_of hp2]; rfl, hl, by rw [star_of hp, star_of hp2]; rfl⟩
  refine pe_of (pe_dget2 hu ha hb hc m2) fun σ H Q h => ?_
  obtain ⟨δ, M, ι, w, M', l, s, e, q⟩ := h
  unfold ev at e
  split at e
  · rename_i u N1 e1
    split at e
    · rename_i d0 e0
      split at e
      · rename_i k N2 e2
        split at e
        · rename_i z N3 e3
          split at e
          · rename_i kvs e4
            cases e
            refine ⟨δ, M, ι, _, N1, l, s, e1, fun v H1 ι1 a1 s1 r1 => ?_⟩
            obtain ⟨p, ws, rfl, k1, _⟩ := rd_dic (rept_of s1 r1 e0)
            refine ⟨p, rfl, .inl ⟨ws, k1⟩, δ, N1, ι1, _, N2, l.aft s a1, s1, e2, fun v2 H2 ι2 a2 s2 r2 => ⟨δ, N2, ι2, _, _, (l.aft s a1).aft s1 a2, s2, e3, fun v3 H3 ι3 a3 s3 r3 => ?_⟩⟩
            have rr := (r1.mono (a2.kp s1) a2.ext).mono (a3.kp s2) a3.ext
            obtain ⟨p', ws', ep, k2, k3⟩ := rd_dic (rept_of s3 rr e4)
            cases ep
            obtain ⟨rfl, o2⟩ := rep_str (repw r2)
            refine ⟨valV ws' (.inr (mkS k)), .inl ⟨ws', _, k2, rfl, rfl⟩, ?_⟩
            refine q _ H3 ι3 ((a1.trans a2).trans a3) s3 ?_
            rcases repK_look k k3 with ⟨h1, h2⟩ | ⟨d, y, h1, h2, h3⟩
            · rw [h1, h2]; exact r3
            · rw [h1, h2]; exact mkw h3
          · cases e
        · cases e
      · cases e
    · cases e
  · cases e
theorem s_mdic {pos : Pos} : PE X (.Dict [] [] pos) (tE X.K C .mdic) := by
  refine pe_of pe_dnewK fun σ H Q h => ?_
  obtain ⟨δ, M, ι, w, M', l, s, e, q⟩ := h
  unfold ev at e
  cases e
  intro p hp
  refine q _ _ (ι ++ [p]) (Aft.push s hp) (s.push hp ⟨[], upd_same, by unfold RepK; rfl⟩) ⟨p, ?_, rfl⟩
  rw [List.getElem?_append_right (by rw [s.len]; exact Nat.le_refl _), s.len]
  simp
end
end Pv

/-! PvIt: targets, what is walked. -/
namespace Pv
open PySem L2 PyProof.Rows
section
variable {g : GP} {n : Nat} {N : List Str} {X : Cx} {sc : Scope} {C : Ctx}

/-! ### targets -/
def gNms (K : PySem.W.Frag) : List Nat → TGs
  | [] => gNil
  | i :: is => gCons (gName i) (gNms K is)
def gOf (K : PySem.W.Frag) : Tg → TG
  | .nm i => gName i
  | .tp is => gTup K is.length (gNms K is)
/-- storing into these names is a store of this frame -/
def Sto1 (X : Cx) (i : Nat) (e : Expr) : Prop := ∃ x pos, e = .Name x pos ∧ X.N[i]? = some x ∧ L2.Loc X.env.scope x ∧ (X.fn x = true ∨ X.env.scope.names.lookup x = some .local)
def Stos (X : Cx) : List Nat → List Expr → Prop
  | [], [] => True
  | i :: is, e :: es => Sto1 X i e ∧ Stos X is es
  | _, _ => False
theorem pg_nm (hN : X.N.Nodup) {i : Nat} {e : Expr} (h : Sto1 X i e) : PG X e (gName i) := by
  obtain ⟨x, pos, rfl, h1, h2, h3⟩ := h
  exact pg_name hN h1 h2 h3
theorem each_nm {i : Nat} {e : Expr} (h : Sto1 X i e) (es : List Expr) : assignEach (e :: es) X.env = (false, assign e X.env) :: assignEach es X.env := by
  obtain ⟨x, pos, rfl, h1, h2, h3⟩ := h
  rfl
theorem pgs_nms (hN : X.N.Nodup) : ∀ {is : List Nat} {es : List Expr}, Stos X is es → PGs X es (gNms X.K is) ∧ (assignEach es X.env).length = is.length ∧ (assignEach es X.env).findIdx? (·.1) = none
  | [], [], _ => ⟨pgs_nil, rfl, rfl⟩
  | [], _ :: _, h => h.elim
  | _ :: _, [], h => h.elim
  | i :: is, e :: es, h => by
    obtain ⟨h1, h2, h3⟩ := pgs_nms hN h.2
    refine ⟨pgs_cons (pg_nm hN h.1) h1 (by rw [each_nm h.1]; rfl), ?_, ?_⟩
    · rw [each_nm h.1, List.length_cons, List.length_cons, h2]
    · rw [each_nm h.1, List.findIdx?_cons]
      simp [h3]
def TgOk (X : Cx) : Tg → Expr → Prop
  | .nm i, e => Sto1 X i e
  | .tp is, .Tuple es _ _ => Stos X is es
  | .tp _, _ => False
theorem pg_of (hc : X.calm = true) (hN : X.N.Nodup) {tg : Tg} {e : Expr} (h : TgOk X tg e) : PG X e (gOf X.K tg) := by
  cases tg with
  | nm i => exact pg_nm hN h
  | tp is =>
    cases e with
    | Tuple es k pos =>
      obtain ⟨h1, h2, h3⟩ := pgs_nms hN (show Stos X is es from h)
      exact pg_tup hc h1 h2 h3
    | _ => exact False.elim h
theorem nms_ok {K : PySem.W.Frag} {H : Hp} {ι : List Addr} {Q : L2.St → Hp → Prop} : ∀ {is : List Nat} {ds : List D} {δ δ1 : Loc} {σ : L2.St} {vs : List V}, setD δ is ds = some δ1 → Reps K H ds vs → LOk K H ι δ σ →
    (∀ σ1, LOk K H ι δ1 σ1 → (∀ own : List Nat, (∀ i ∈ is, i ∈ own) → L2.wipe σ1 own = L2.wipe σ own) → Q σ1 H) → gNms K is vs σ H Q
  | [], [], δ, δ1, σ, vs, h, r, l, q => by
    cases h
    exact ⟨reps_nil r, q σ l fun _ _ => rfl⟩
  | [], _ :: _, _, _, _, _, h, _, _, _ => by cases h
  | _ :: _, [], _, _, _, _, h, _, _, _ => by cases h
  | i :: is, d :: ds, δ, δ1, σ, vs, h, r, l, q => by
    obtain ⟨v, vs', rfl, r1, r2⟩ := reps_cons r
    refine ⟨v, vs', rfl, ?_⟩
    refine nms_ok (is := is) (ds := ds) h r2 (l.set i (mkw r1)) fun σ1 l1 hw => q σ1 l1 fun own ho => ?_
    rw [hw own fun j hj => ho j (List.mem_cons_of_mem _ hj)]
    exact wipe_set own (ho i List.mem_cons_self)
where
  wipe_set {σ : L2.St} {i : Nat} {v : V} : ∀ (own : List Nat), i ∈ own → L2.wipe (σ.set i (some v)) own = L2.wipe σ own
    | [], h => by cases h
    | j :: own, h => by
      unfold L2.wipe
      by_cases e : i = j
      · subst e
        by_cases hi : i ∈ own
        · rw [wipe_set own hi]
        · have : ∀ (own : List Nat), i ∉ own → L2.wipe (σ.set i (some v)) own = (L2.wipe σ own).set i (some v) := by
            intro own
            induction own with
            | nil => intro _; rfl
            | cons k own ih =>
              intro hk
              unfold L2.wipe
              have h1 : i ≠ k := fun e => hk (by rw [e]; exact List.mem_cons_self)
              rw [ih fun h => hk (List.mem_cons_of_mem _ h), List.set_comm _ _ h1]
          rw [this own hi, List.set_set]
      · rcases List.mem_cons.mp h with h | h
        · exact absurd h e
        · rw [wipe_set own h]
def TgIn (own : List Nat) : Tg → Prop
  | .nm i => i ∈ own
  | .tp is => ∀ i ∈ is, i ∈ own
theorem tg_ok {K : PySem.W.Frag} {H : Hp} {ι : List Addr} {Q : L2.St → Hp → Prop} {tg : Tg} {d : D} {δ δ1 : Loc} {σ : L2.St} {v : V} (h : bindT δ tg d = some δ1) (r : Rep K H d v) (l : LOk K H ι δ σ)
    (q : ∀ σ1, LOk K H ι δ1 σ1 → (∀ own : List Nat, TgIn own tg → L2.wipe σ1 own = L2.wipe σ own) → Q σ1 H) : gOf K tg v σ H Q := by
  cases tg with
  | nm i =>
    cases h
    exact q _ (l.set i (mkw r)) fun own ho => nms_ok.wipe_set own ho
  | tp is =>
    cases d with
    | tup ds =>
      obtain ⟨a, xs, rfl, h1, h2⟩ := rep_tup r
      have hl : is.length = ds.length := by
        have : ∀ {is : List Nat} {ds : List D} {δ δ1 : Loc}, setD δ is ds = some δ1 → is.length = ds.length := by
          intro is
          induction is with
          | nil => intro ds δ δ1 h; cases ds with
            | nil => rfl
            | cons _ _ => cases h
          | cons i is ih => intro ds δ δ1 h; cases ds with
            | nil => cases h
            | cons _ _ => rw [List.length_cons, List.length_cons, ih h]
        exact this h
      exact ⟨a, xs, rfl, h1, by rw [← h2.len, hl], nms_ok (Q := Q) h h2 l q⟩
    | _ => cases h

/-! ### what is walked -/
def GG (K : PySem.W.Frag) (H : Hp) (wk : Pv.Walk) (ι : List Addr) (H2 : Hp) : Prop :=
  Kp H H2 ∧ ∀ k, wk.gd = some k → ∃ a xs, ι[k]? = some a ∧ H2 a = some (.lst xs) ∧ Reps K H2 wk.items xs
def YY (K : PySem.W.Frag) (wk : Pv.Walk) (i : Nat) (H1 : Hp) (x : V) (H2 : Hp) : Prop := L2.Same H1 H2 ∧ ∃ d, wk.items[i]? = some d ∧ Rep K H2 d x
def WalkOk (K : PySem.W.Frag) (H : Hp) (wk : Pv.Walk) (ι : List Addr) (J : It) : Prop := L2.Walk J wk.items.length (GG K H wk ι) (YY K wk)
def tI (K : PySem.W.Frag) (C : Ctx) (k : IK) (its : List Ex) : TI := fun σ H R => ∃ δ M ι ws M1 wk, LOk K H ι δ σ ∧ SOk K H M ι ∧ evws C its δ M = some (ws, M1) ∧ walkE M1 k ws = some wk ∧
  ∀ J H' ι', Aft H M ι H' M1 ι' → SOk K H' M1 ι' → WalkOk K H' wk ι' J → R J H'
theorem pi_of {tg iter : Expr} {t t' : TI} (h : PI X tg iter t) (w : ∀ σ H R, t' σ H R → t σ H R) : PI X tg iter t' := ⟨fun pins s σ H R I q => h.run pins s σ H R I (w σ H R q)⟩
section
variable {K : PySem.W.Frag} {H : Hp} {ι : List Addr}
theorem wk_lst {ds : List D} {a : Addr} {xs : List V} (h : FzL K H a xs) (r : Reps K H ds xs) : WalkOk K H ⟨ds, none⟩ ι (Itl K a) := by
  unfold WalkOk
  rw [show (Pv.Walk.mk ds none).items.length = xs.length from r.len]
  refine walk_list.mono (fun H2 q => (q.1.fzL h).sq) fun i H1 x H2 hi q y => ?_
  obtain ⟨rfl, y⟩ := y
  obtain ⟨d, h1, h2⟩ := (Reps.mono q.1 _ _ r).get' y
  exact ⟨same_rfl _, d, h1, h2⟩
theorem wk_tup {ds : List D} {a : Addr} {xs : List V} (h : SqT K H a xs) (r : Reps K H ds xs) : WalkOk K H ⟨ds, none⟩ ι (Itt K a) := by
  unfold WalkOk
  rw [show (Pv.Walk.mk ds none).items.length = xs.length from r.len]
  refine walk_tup.mono (fun H2 q => q.1.sqT h) fun i H1 x H2 hi q y => ?_
  obtain ⟨rfl, y⟩ := y
  obtain ⟨d, h1, h2⟩ := (Reps.mono q.1 _ _ r).get' y
  exact ⟨same_rfl _, d, h1, h2⟩
theorem wk_mut {ds : List D} {a : Addr} {k : Nat} (hk : ι[k]? = some a) : WalkOk K H ⟨ds, some k⟩ ι (Itl K a) := by
  have get : ∀ H2, GG K H ⟨ds, some k⟩ ι H2 → ∃ xs, SqL K H2 a xs ∧ Reps K H2 ds xs := fun H2 q => by
    obtain ⟨b, xs, h1, h2, h3⟩ := q.2 k rfl
    rw [hk] at h1
    cases h1
    exact ⟨xs, SqL.of h2, h3⟩
  refine ⟨fun i H2 hi q => ?_, fun H2 q => ?_, fun i H1 x H2 hi q y => ?_⟩
  · obtain ⟨xs, h1, h2⟩ := get H2 q
    have hi : i < ds.length := hi
    have hi2 : i < xs.length := by rw [← h2.len]; exact hi
    exact ⟨xs, xs[i], h1, by simp [hi2]⟩
  · obtain ⟨xs, h1, h2⟩ := get H2 q
    exact ⟨xs, h1, by rw [← h2.len]; exact Nat.le_refl _⟩
  · obtain ⟨xs, h1, h2⟩ := get H1 q
    obtain ⟨rfl, y⟩ := y
    obtain ⟨d, h3, h4⟩ := h2.get' (y xs h1)
    exact ⟨same_rfl _, d, h3, h4⟩
theorem wk_str {s : List Nat} (o : okS s) : WalkOk K H ⟨s.map fun c => .str [c], none⟩ ι (Its (mkS s)) := by
  unfold WalkOk
  rw [show (Pv.Walk.mk (s.map fun c => D.str [c]) none).items.length = (mkS s).cps.size from by simp [mkS]]
  refine walk_str.mono (fun H2 q => True.intro) fun i H1 x H2 hi q y => ?_
  obtain ⟨rfl, c, h1, rfl⟩ := y
  have h2 : s[i]? = some c := by simpa [mkS] using h1
  exact ⟨same_rfl _, .str [c], by show (s.map fun c => D.str [c])[i]? = _; rw [List.getElem?_map, h2]; rfl, mk_str (b := [c]) fun d hd => by rw [List.mem_singleton.mp hd]; exact o c (List.mem_of_getElem? h2)⟩
theorem wk_dic {kvs : List (List Nat × D)} {a : Addr} {o : Obj} {ws : List (Key × V)} (h : H a = some (.frz o (.dK ws))) (r : RepK K H kvs ws) : WalkOk K H ⟨kvs.map fun p => .str p.1, none⟩ ι (Itk a o ws) := by
  unfold WalkOk
  rw [show (Pv.Walk.mk (kvs.map fun p => D.str p.1) none).items.length = ws.length from by rw [repK_len r]; simp]
  refine walk_keys.mono (fun H2 q => (q.1 a).2 _ _ h) fun i H1 x H2 hi q y => ?_
  obtain ⟨rfl, k, v, h1, rfl⟩ := y
  have : ∀ {kvs : List (List Nat × D)} {ws : List (Key × V)} {i : Nat}, RepK K H kvs ws → ws[i]? = some (k, v) → ∃ z d, kvs[i]? = some (z, d) ∧ k = .inr (mkS z) ∧ okS z := by
    intro kvs
    induction kvs with
    | nil => intro ws i r e; rw [show ws = [] from by unfold RepK at r; exact r] at e; simp at e
    | cons p kvs ih =>
      intro ws i r e
      obtain ⟨z, d⟩ := p
      unfold RepK at r
      obtain ⟨u, us, rfl, o, _, r⟩ := r
      cases i with
      | zero => simp at e; obtain ⟨rfl, _⟩ := e; exact ⟨z, d, rfl, rfl, o⟩
      | succ i => exact ih r (by simpa using e)
  obtain ⟨z, d, h2, rfl, o⟩ := this r h1
  exact ⟨same_rfl _, .str z, by show (kvs.map fun p => D.str p.1)[i]? = _; rw [List.getElem?_map, h2]; rfl, mk_str o⟩
theorem wk_rng {lo : Int} {m : Nat} : WalkOk K H ⟨rangeL lo m, none⟩ ι (Itr lo m) := by
  unfold WalkOk
  rw [show (Pv.Walk.mk (rangeL lo m) none).items.length = m from by simp [rangeL]]
  refine walk_range.mono (fun H2 q => True.intro) fun i H1 x H2 hi q y => ?_
  obtain ⟨rfl, rfl⟩ := y
  exact ⟨same_rfl _, .int (lo + i), by show (rangeL lo m)[i]? = _; unfold rangeL; rw [List.getElem?_map, List.getElem?_range hi]; rfl, mk_int _⟩
theorem enumL_get : ∀ {ds : List D} {k i : Nat} {d : D}, ds[i]? = some d → (enumL k ds)[i]? = some (.tup [.int ((k + i : Nat) : Int), d])
  | [], _, _, _, h => by simp at h
  | x :: ds, k, 0, d, h => by simp at h; subst h; rfl
  | x :: ds, k, i + 1, d, h => by
    have := enumL_get (ds := ds) (k := k + 1) (i := i) (d := d) (by simpa using h)
    show (enumL (k + 1) ds)[i]? = _
    rw [this, show k + 1 + i = k + (i + 1) from by omega]
theorem enumL_len : ∀ (ds : List D) (k : Nat), (enumL k ds).length = ds.length
  | [], _ => rfl
  | x :: ds, k => by unfold enumL; rw [List.length_cons, List.length_cons, enumL_len ds]
theorem wk_enum {ds : List D} {a : Addr} {xs : List V} (h : FzL K H a xs) (r : Reps K H ds xs) : WalkOk K H ⟨enumL 0 ds, none⟩ ι (Ite K a) := by
  unfold WalkOk
  rw [show (Pv.Walk.mk (enumL 0 ds) none).items.length = xs.length from by rw [← r.len]; exact enumL_len ds 0]
  refine walk_enum.mono (fun H2 q => (q.1.fzL h).sq) fun i H1 x H2 hi q y => ?_
  obtain ⟨T, u, v, rfl, hT, rfl, h1, h2⟩ := y
  cases h1
  obtain ⟨d, h3, h4⟩ := (Reps.mono q.1 _ _ r).get' h2
  have sm := same_upd (.tup [V.int (i : Nat), v]) hT
  refine ⟨sm, _, enumL_get h3, mk_tup (SqT.of upd_same) (mk_cons ?_ (mk_cons (Rep.mono (Kp.same sm) _ _ h4) mk_nil)) (show 2 ≤ line by decide)⟩
  rw [Nat.zero_add]
  exact mk_int _
theorem zipL_get : ∀ {ds es : List D} {i : Nat} {d e : D}, ds[i]? = some d → es[i]? = some e → (zipL ds es)[i]? = some (.tup [d, e])
  | [], _, _, _, _, h, _ => by simp at h
  | _ :: _, [], _, _, _, _, h => by simp at h
  | x :: ds, y :: es, 0, d, e, h, h' => by simp at h h'; subst h h'; rfl
  | x :: ds, y :: es, i + 1, d, e, h, h' => zipL_get (ds := ds) (es := es) (by simpa using h) (by simpa using h')
theorem zipL_len : ∀ (ds es : List D), (zipL ds es).length = min ds.length es.length
  | [], es => by simp [zipL]
  | _ :: _, [] => by simp [zipL]
  | x :: ds, y :: es => by
    show (zipL ds es).length + 1 = _
    rw [zipL_len ds es, List.length_cons, List.length_cons]
    omega
theorem yy_pair {ds es : List D} {xs ys : List V} {i : Nat} {H1 H2 : Hp} {x : V} (r1 : Reps K H1 ds xs) (r2 : Reps K H1 es ys) (y : ∃ T u v, x = V.ref T ∧ H1 T = none ∧ H2 = upd H1 T (.tup [u, v]) ∧ xs[i]? = some u ∧ ys[i]? = some v) : YY K ⟨zipL ds es, none⟩ i H1 x H2 := by
  obtain ⟨T, u, v, rfl, hT, rfl, h1, h2⟩ := y
  obtain ⟨d, h3, h4⟩ := r1.get' h1
  obtain ⟨e, h5, h6⟩ := r2.get' h2
  have sm := same_upd (.tup [u, v]) hT
  exact ⟨sm, _, zipL_get h3 h5, mk_tup (SqT.of upd_same) (mk_cons (Rep.mono (Kp.same sm) _ _ h4) (mk_cons (Rep.mono (Kp.same sm) _ _ h6) mk_nil)) (show 2 ≤ line by decide)⟩
theorem wk_zip {ds es : List D} {a b : Addr} {xs ys : List V} (h : FzL K H a xs) (r : Reps K H ds xs) (h' : FzL K H b ys) (r' : Reps K H es ys) : WalkOk K H ⟨zipL ds es, none⟩ ι (Itz K a b) := by
  unfold WalkOk
  rw [show (Pv.Walk.mk (zipL ds es) none).items.length = min xs.length ys.length from by rw [← r.len, ← r'.len]; exact zipL_len ds es]
  refine (walk_zip rfl).mono (fun H2 q => ⟨(q.1.fzL h).sq, (q.1.fzL h').sq⟩) fun i H1 x H2 hi q y => ?_
  exact yy_pair (Reps.mono q.1 _ _ r) (Reps.mono q.1 _ _ r') y
theorem wk_zipT {ds es : List D} {a b : Addr} {xs ys : List V} (h : SqT K H a xs) (r : Reps K H ds xs) (h' : SqT K H b ys) (r' : Reps K H es ys) : WalkOk K H ⟨zipL ds es, none⟩ ι (RZ.ItzT K a b) := by
  have hl : (Pv.Walk.mk (zipL ds es) none).items.length = min xs.length ys.length := by rw [← r.len, ← r'.len]; exact zipL_len ds es
  refine ⟨fun i H2 hi q => ?_, fun H2 q => ⟨xs, ys, q.1.sqT h, q.1.sqT h', by rw [hl]; omega⟩, fun i H1 x H2 hi q y => ?_⟩
  · rw [hl] at hi
    have h1 : i < xs.length := by omega
    have h2 : i < ys.length := by omega
    exact ⟨xs, ys, xs[i], ys[i], q.1.sqT h, q.1.sqT h', by simp [h1], by simp [h2]⟩
  · obtain ⟨T, u, v, e1, hT, e2, k1, k2⟩ := y
    exact yy_pair (Reps.mono q.1 _ _ r) (Reps.mono q.1 _ _ r') ⟨T, u, v, e1, hT, e2, k1 xs (q.1.sqT h), k2 ys (q.1.sqT h')⟩
theorem rev_get {α : Type} {l : List α} {i : Nat} {x : α} (hi : i < l.length) (h : l[l.length - 1 - i]? = some x) : l.reverse[i]? = some x := by
  rw [List.getElem?_reverse hi]; exact h
theorem wk_rev {ds : List D} {a : Addr} {xs : List V} (h : FzL K H a xs) (r : Reps K H ds xs) : WalkOk K H ⟨ds.reverse, none⟩ ι (Itv K a xs.length) := by
  unfold WalkOk
  rw [show (Pv.Walk.mk ds.reverse none).items.length = xs.length from by rw [← r.len]; exact List.length_reverse]
  refine walk_rev.mono (fun H2 q => (q.1.fzL h).sq) fun i H1 x H2 hi q y => ?_
  obtain ⟨rfl, y⟩ := y
  obtain ⟨d, h1, h2⟩ := ((Reps.mono q.1 _ _ r).reverse).get' (rev_get hi y)
  exact ⟨same_rfl _, d, h1, h2⟩
theorem wk_revT {ds : List D} {a : Addr} {xs : List V} (h : SqT K H a xs) (r : Reps K H ds xs) : WalkOk K H ⟨ds.reverse, none⟩ ι (RT.ItvT K a xs.length) := by
  have hl : (Pv.Walk.mk ds.reverse none).items.length = xs.length := by rw [← r.len]; exact List.length_reverse
  refine ⟨fun i H2 hi q => ?_, fun H2 q => by show xs.length ≤ _; rw [hl]; exact Nat.le_refl _, fun i H1 x H2 hi q y => ?_⟩
  · rw [hl] at hi
    exact ⟨hi, xs, xs[xs.length - 1 - i]'(by omega), q.1.sqT h, by simp [show xs.length - 1 - i < xs.length by omega]⟩
  · rw [hl] at hi
    obtain ⟨rfl, y⟩ := y
    obtain ⟨d, h1, h2⟩ := ((Reps.mono q.1 _ _ r).reverse).get' (rev_get hi (y xs (q.1.sqT h)))
    exact ⟨same_rfl _, d, h1, h2⟩
end
theorem evws1 {ex : Ex} {δ : Loc} {M : Sto} {ws : List W} {M1 : Sto} (h : evws C [ex] δ M = some (ws, M1)) : ∃ w, ev C ex δ M = some (w, M1) ∧ ws = [w] := by
  unfold evws at h
  cases e1 : ev C ex δ M with
  | none => rw [e1] at h; cases h
  | some p =>
    obtain ⟨w, M2⟩ := p
    rw [e1] at h
    unfold evws at h
    cases h
    exact ⟨w, rfl, rfl⟩
theorem pi_seq {tg e : Expr} {ex : Ex} (he : PE X e (tE X.K C ex)) : PI X tg e (tI X.K C .seq [ex]) := by
  refine ⟨fun pins s σ H R I h => ?_⟩
  obtain ⟨δ, M, ι, ws, M1, wk, l, sk, e1, e2, q⟩ := h
  obtain ⟨w, e3, rfl⟩ := evws1 e1
  cases w with
  | m k =>
    simp only [walkE] at e2
    cases e4 : M1[k]? with
    | none => rw [e4] at e2; cases e2
    | some o =>
      rw [e4] at e2
      cases o with
      | lst xs =>
        cases e2
        refine (pi_list he).run pins s σ H R I ⟨δ, M, ι, _, M1, l, sk, e3, fun v H1 ι1 a1 s1 r1 => ?_⟩
        obtain ⟨a, h1, rfl⟩ := r1
        obtain ⟨vs, h2, h3⟩ := s1.mo k _ a e4 h1
        exact ⟨a, rfl, ⟨vs, SqL.of h2⟩, q _ H1 ι1 a1 s1 (wk_mut h1)⟩
      | _ => cases e2
  | d x =>
    cases x with
    | lst xs =>
      cases e2
      refine (pi_list he).run pins s σ H R I ⟨δ, M, ι, _, M1, l, sk, e3, fun v H1 ι1 a1 s1 r1 => ?_⟩
      obtain ⟨a, vs, rfl, h1, h2⟩ := rep_lst (repw r1)
      exact ⟨a, rfl, ⟨vs, h1.sq⟩, q _ H1 ι1 a1 s1 (wk_lst h1 h2)⟩
    | tup xs =>
      cases e2
      refine (pi_tup he).run pins s σ H R I ⟨δ, M, ι, _, M1, l, sk, e3, fun v H1 ι1 a1 s1 r1 => ?_⟩
      obtain ⟨a, vs, rfl, h1, h2⟩ := rep_tup (repw r1)
      exact ⟨a, rfl, ⟨vs, h1⟩, q _ H1 ι1 a1 s1 (wk_tup h1 h2)⟩
    | str t =>
      cases e2
      refine (pi_str he).run pins s σ H R I ⟨δ, M, ι, _, M1, l, sk, e3, fun v H1 ι1 a1 s1 r1 => ?_⟩
      obtain ⟨rfl, o⟩ := rep_str (repw r1)
      exact ⟨mkS t, rfl, q _ H1 ι1 a1 s1 (wk_str o)⟩
    | dic kvs =>
      cases e2
      refine (pi_keys he).run pins s σ H R I ⟨δ, M, ι, _, M1, l, sk, e3, fun v H1 ι1 a1 s1 r1 => ?_⟩
      obtain ⟨a, o, vs, rfl, h1, h2⟩ := rep_dic (repw r1)
      exact ⟨a, o, rfl, .inl ⟨vs, h1, q _ H1 ι1 a1 s1 (wk_dic h1 h2)⟩⟩
    | _ => cases e2
theorem pi_rng1 (G : GOk g n) (x : XOk g n N X sc) {tg a : Expr} {ex : Ex} {p pos : Pos} (hg : isGl sc (S "range") = true) (hp : plainX a = true) (ha : PA X [a] (tWs X.K C [ex])) : PI X tg (.Call (.Name (S "range") p) [a] [] pos) (tI X.K C .rng1 [ex]) := by
  have hm : X.mg (S "range") = none := by rw [x.mg]; exact G.blt _ (by simp [bltNames])
  refine pi_of (pi_range1 (gl_of x hg) hm ha (by rw [star_of hp]; rfl)) fun σ H R h => ?_
  obtain ⟨δ, M, ι, ws, M1, wk, l, sk, e1, e2, q⟩ := h
  refine ⟨δ, M, ι, ws, M1, l, sk, e1, fun vs H1 ι1 a1 s1 r1 => ?_⟩
  obtain ⟨w, e3, rfl⟩ := evws1 e1
  cases w with
  | m k => cases e2
  | d z =>
    cases z with
    | int j =>
      simp only [walkE] at e2
      obtain ⟨c, rfl⟩ := ite_some e2
      obtain ⟨v, vs', rfl, r1, r2⟩ := r1
      obtain rfl : vs' = [] := r2
      obtain rfl := repw_int r1
      refine ⟨j, rfl, ?_, ?_, q _ H1 ι1 a1 s1 wk_rng⟩
      · have e : (2 ^ 62 : Int) = 4611686018427387904 := by decide
        rw [e]; omega
      · have e : (2 ^ 62 : Int) = 4611686018427387904 := by decide
        rw [e]; omega
    | _ => cases e2
theorem pi_rng2 (G : GOk g n) (x : XOk g n N X sc) {tg a b : Expr} {ex ex2 : Ex} {p pos : Pos} (hg : isGl sc (S "range") = true) (hp : plainX a = true) (hp2 : plainX b = true) (ha : PA X [a, b] (tWs X.K C [ex, ex2])) : PI X tg (.Call (.Name (S "range") p) [a, b] [] pos) (tI X.K C .rng2 [ex, ex2]) := by
  have hm : X.mg (S "range") = none := by rw [x.mg]; exact G.blt _ (by simp [bltNames])
  refine pi_of (pi_range2 (gl_of x hg) hm ha (by rw [star_of hp, star_of hp2]; rfl) (by rw [star_of hp2]; rfl)) fun σ H R h => ?_
  obtain ⟨δ, M, ι, ws, M1, wk, l, sk, e1, e2, q⟩ := h
  refine ⟨δ, M, ι, ws, M1, l, sk, e1, fun vs H1 ι1 a1 s1 r1 => ?_⟩
  match ws, e2, r1 with
  | [], e2, _ => cases e2
  | [w], e2, _ => cases w with
    | m k => cases e2
    | d z => cases z <;> cases e2
  | w :: w2 :: w3 :: r, e2, _ => cases w with
    | m k => cases e2
    | d z => cases z <;> first | (cases e2; done) | (cases w2 with
      | m k => cases e2
      | d z => cases z <;> cases e2)
  | [w, w2], e2, r1 =>
    cases w with
    | m k => cases e2
    | d z =>
      cases z <;> first | (cases e2; done) | skip
      cases w2 with
      | m k => cases e2
      | d z =>
        cases z <;> first | (cases e2; done) | skip
        rename_i i j
        simp only [walkE] at e2
        obtain ⟨c, rfl⟩ := ite_some e2
        obtain ⟨v, vs', rfl, ra, v2, vs2, rfl, rb, r3⟩ := r1
        obtain rfl : vs2 = [] := r3
        obtain rfl := repw_int ra
        obtain rfl := repw_int rb
        have e : (2 ^ 62 : Int) = 4611686018427387904 := by decide
        exact ⟨i, j, rfl, ⟨by rw [e]; omega, by rw [e]; omega, by rw [e]; omega, by rw [e]; omega⟩, q _ H1 ι1 a1 s1 wk_rng⟩
theorem pi_enumW (G : GOk g n) (x : XOk g n N X sc) {a : Expr} {elts : List Expr} {kk : Nat} {tpos : Pos} {ex : Ex} {p pos : Pos} (hg : isGl sc (S "enumerate") = true) (hp : plainX a = true) (ha : PA X [a] (tWs X.K C [ex])) : PI X (.Tuple elts kk tpos) (.Call (.Name (S "enumerate") p) [a] [] pos) (tI X.K C .enum [ex]) := by
  have hm : X.mg (S "enumerate") = none := by rw [x.mg]; exact G.blt _ (by simp [bltNames])
  refine pi_of (pi_enum (gl_of x hg) hm ha (by rw [star_of hp]; rfl)) fun σ H R h => ?_
  obtain ⟨δ, M, ι, ws, M1, wk, l, sk, e1, e2, q⟩ := h
  refine ⟨δ, M, ι, ws, M1, l, sk, e1, fun vs H1 ι1 a1 s1 r1 => ?_⟩
  obtain ⟨w, e3, rfl⟩ := evws1 e1
  cases w with
  | m k => cases e2
  | d z =>
    cases z with
    | lst ds =>
      cases e2
      obtain ⟨v, vs', rfl, r1, r2⟩ := r1
      obtain rfl : vs' = [] := r2
      obtain ⟨b, us, rfl, h1, h2⟩ := rep_lst (repw r1)
      exact ⟨b, us, rfl, h1.sq, q _ H1 ι1 a1 s1 (wk_enum h1 h2)⟩
    | _ => cases e2
theorem pi_zipW (G : GOk g n) (x : XOk g n N X sc) {a b : Expr} {elts : List Expr} {kk : Nat} {tpos : Pos} {ex ex2 : Ex} {p pos : Pos} (hg : isGl sc (S "zip") = true) (hp : plainX a = true) (hp2 : plainX b = true) (ha : PA X [a, b] (tWs X.K C [ex, ex2])) : PI X (.Tuple elts kk tpos) (.Call (.Name (S "zip") p) [a, b] [] pos) (tI X.K C .zip [ex, ex2]) := by
  have hm : X.mg (S "zip") = none := by rw [x.mg]; exact G.blt _ (by simp [bltNames])
  refine pi_of (RZ.pi_zipA (gl_of x hg) hm ha (by rw [star_of hp]) (by rw [star_of hp2]; rfl)) fun σ H R h => ?_
  obtain ⟨δ, M, ι, ws, M1, wk, l, sk, e1, e2, q⟩ := h
  refine ⟨δ, M, ι, ws, M1, l, sk, e1, fun vs H1 ι1 a1 s1 r1 => ?_⟩
  match ws, e2, r1 with
  | [], e2, _ => cases e2
  | [w], e2, _ => cases w with
    | m k => cases e2
    | d z => cases z <;> cases e2
  | w :: w2 :: w3 :: r, e2, _ => cases w with
    | m k => cases e2
    | d z => cases z <;> first | (cases e2; done) | (cases w2 with
      | m k => cases e2
      | d z => cases z <;> cases e2)
  | [w, w2], e2, r1 =>
    cases w with
    | m k => cases e2
    | d z =>
      cases z <;> first | (cases e2; done) | skip
      all_goals
        cases w2 with
        | m k => cases e2
        | d z =>
          cases z <;> first | (cases e2; done) | skip
          cases e2
          obtain ⟨v, vs', rfl, ra, v2, vs2, rfl, rb, r3⟩ := r1
          obtain rfl : vs2 = [] := r3
          first
            | (obtain ⟨b, us, rfl, h1, h2⟩ := rep_lst (repw ra)
               obtain ⟨b2, us2, rfl, h3, h4⟩ := rep_lst (repw rb)
               exact ⟨b, b2, us, us2, rfl, .inl ⟨h1.sq, h3.sq, q _ H1 ι1 a1 s1 (wk_zip h1 h2 h3 h4)⟩⟩)
            | (obtain ⟨b, us, rfl, h1, h2⟩ := rep_tup (repw ra)
               obtain ⟨b2, us2, rfl, h3, h4⟩ := rep_tup (repw rb)
               exact ⟨b, b2, us, us2, rfl, .inr ⟨h1, h3, q _ H1 ι1 a1 s1 (wk_zipT h1 h2 h3 h4)⟩⟩)
theorem pi_revW (G : GOk g n) (x : XOk g n N X sc) {tg a : Expr} {ex : Ex} {p pos : Pos} (hg : isGl sc (S "reversed") = true) (hp : plainX a = true) (ha : PE X a (tE X.K C ex)) : PI X tg (.Call (.Name (S "reversed") p) [a] [] pos) (tI X.K C .rev [ex]) := by
  have hm : X.mg (S "reversed") = none := by rw [x.mg]; exact G.blt _ (by simp [bltNames])
  refine pi_of (RT.pi_revA (gl_of x hg) hm ha (star_of hp _)) fun σ H R h => ?_
  obtain ⟨δ, M, ι, ws, M1, wk, l, sk, e1, e2, q⟩ := h
  obtain ⟨w, e3, rfl⟩ := evws1 e1
  refine ⟨δ, M, ι, w, M1, l, sk, e3, fun v H1 ι1 a1 s1 r1 => ?_⟩
  cases w with
  | m k => cases e2
  | d z =>
    cases z with
    | lst ds =>
      cases e2
      obtain ⟨b, us, rfl, h1, h2⟩ := rep_lst (repw r1)
      exact ⟨b, us, rfl, .inl ⟨h1.sq, q _ H1 ι1 a1 s1 (wk_rev h1 h2)⟩⟩
    | tup ds =>
      cases e2
      obtain ⟨b, us, rfl, h1, h2⟩ := rep_tup (repw r1)
      exact ⟨b, us, rfl, .inr ⟨h1, q _ H1 ι1 a1 s1 (wk_revT h1 h2)⟩⟩
    | _ => cases e2
end
end Pv

/-! PvComp: comprehensions. -/
namespace Pv
open PySem L2 PyProof.Rows
section
variable {g : GP} {n : Nat} {N : List Str} {X : Cx} {sc : Scope} {C : Ctx}
def tTs (K : PySem.W.Frag) (C : Ctx) (cs : List Ex) : TT := fun σ H Q => ∃ δ M ι b M', LOk K H ι δ σ ∧ SOk K H M ι ∧ evc C cs δ M = some (b, M') ∧ ∀ H' ι', Aft H M ι H' M' ι' → SOk K H' M' ι' → Q b H'
theorem pts_0 : PTs X [] (tTs X.K C []) := ⟨fun pins s σ H Q I h => by
  refine pts_nil.run pins s σ H Q I ?_
  obtain ⟨δ, M, ι, b, M', l, sk, e, q⟩ := h
  unfold evc at e
  cases e
  exact q H ι Aft.refl sk⟩
theorem pts_1 {ex : Ex} {e : Expr} (h : PT X e (tB X.K C ex)) : PTs X [e] (tTs X.K C [ex]) := ⟨fun pins s σ H Q I hq => by
  refine (pts_one h).run pins s σ H Q I ?_
  obtain ⟨δ, M, ι, b, M', l, sk, e, q⟩ := hq
  unfold evc at e
  cases e1 : ev C ex δ M with
  | none => rw [e1] at e; cases e
  | some p =>
    obtain ⟨w, M1⟩ := p
    rw [e1] at e
    cases w with
    | m k => cases e
    | d x => cases x <;> first | (cases e; done) | skip
             cases e
             exact ⟨δ, M, ι, _, _, l, sk, e1, q⟩⟩
theorem lok_wipe {K : PySem.W.Frag} {H : Hp} {ι : List Addr} : ∀ (own : List Nat) {δ : Loc} {σ : L2.St}, LOk K H ι δ σ → LOk K H ι (Pv.wipe δ own) (L2.wipe σ own) := by
  intro own δ σ l
  have len : ∀ (own : List Nat) (δ : Loc), (Pv.wipe δ own).length = δ.length := by
    intro own
    induction own with
    | nil => intro δ; rfl
    | cons i own ih => intro δ; show (Pv.wipe (δ.set i none) own).length = _; rw [ih, List.length_set]
  have get : ∀ (own : List Nat) (δ : Loc) (j : Nat) (w : W), (Pv.wipe δ own)[j]? = some (some w) → δ[j]? = some (some w) ∧ j ∉ own := by
    intro own
    induction own with
    | nil => intro δ j w h; exact ⟨h, by simp⟩
    | cons i own ih =>
      intro δ j w h
      obtain ⟨h1, h2⟩ := ih (δ.set i none) j w h
      by_cases e : i = j
      · subst e
        have hi : i < δ.length := by
          have := (List.getElem?_eq_some_iff.mp h1).1
          simpa using this
        rw [List.getElem?_set_self hi] at h1
        cases h1
      · rw [List.getElem?_set_ne e] at h1
        refine ⟨h1, fun z => ?_⟩
        rcases List.mem_cons.mp z with z | z
        · exact e z.symm
        · exact h2 z
  refine ⟨by rw [len, wipe_length]; exact l.len, fun j w h => ?_⟩
  obtain ⟨h1, h2⟩ := get own δ j w h
  obtain ⟨v, h3, h4⟩ := l.sl j w h1
  refine ⟨v, ?_, h4⟩
  have : ∀ own : List Nat, j ∉ own → (L2.wipe σ own)[j]? = σ[j]? := by
    intro own
    induction own with
    | nil => intro _; rfl
    | cons i own ih =>
      intro hj
      unfold L2.wipe
      rw [List.getElem?_set_ne (fun e => hj (by rw [e]; exact List.mem_cons_self)), ih fun z => hj (List.mem_cons_of_mem _ z)]
  rw [this own h2]
  exact h3
theorem wipe_wipe (σ : L2.St) (own : List Nat) : L2.wipe (L2.wipe σ own) own = L2.wipe σ own := by
  have set_none : ∀ (own : List Nat) (σ : L2.St) (i : Nat), L2.wipe (σ.set i none) own = (L2.wipe σ own).set i none := by
    intro own
    induction own with
    | nil => intro σ i; rfl
    | cons k own ih =>
      intro σ i
      unfold L2.wipe
      rw [ih]
      by_cases e : i = k
      · subst e; rw [List.set_set]
      · rw [List.set_comm _ _ e]
  induction own generalizing σ with
  | nil => rfl
  | cons i own ih =>
    show (L2.wipe ((L2.wipe σ own).set i none) own).set i none = (L2.wipe σ own).set i none
    rw [set_none, ih, List.set_set]
theorem walk_ok {M : Sto} {k : IK} {ws : List W} {wk : Pv.Walk} (h : walkE M k ws = some wk) : wk.ok M := by
  unfold walkE at h
  split at h <;> first | (cases h; exact True.intro) | (cases h; done) | (obtain ⟨_, rfl⟩ := ite_some h; exact True.intro) | skip
  split at h
  · rename_i e; cases h; exact e
  · cases h
theorem gg_of {K : PySem.W.Frag} {H1 H : Hp} {wk : Pv.Walk} {M M1 : Sto} {ι ι1 : List Addr} (kp : Kp H1 H) (s : SOk K H M ι) (ext : ∃ t, ι = ι1 ++ t) (s1 : SOk K H1 M1 ι1) (h1 : wk.ok M1) (h : wk.ok M) : GG K H1 wk ι1 H := by
  refine ⟨kp, fun k hk => ?_⟩
  unfold Walk.ok at h h1
  rw [hk] at h h1
  have hl : k < ι1.length := by rw [s1.len]; exact (List.getElem?_eq_some_iff.mp h1).1
  obtain ⟨t, rfl⟩ := ext
  have e1 : ι1[k]? = some ι1[k] := List.getElem?_eq_getElem hl
  obtain ⟨xs, q1, q2, _⟩ := s.mo k _ ι1[k] h (by rw [List.getElem?_append_left hl]; exact e1)
  exact ⟨_, xs, e1, q1, q2⟩
theorem go_inv {δ : Loc} {own : List Nat} {tg : Tg} {w : Pv.Walk} {cond : Loc → Sto → Option (Bool × Sto)} {elt : Loc → Sto → Option (D × Sto)} {x : D} {r : List D} {M M2 : Sto} {ys : List D} (h : compGo δ own tg w cond elt (x :: r) M = some (ys, M2)) :
    ∃ δ1 b M1, bindT (Pv.wipe δ own) tg x = some δ1 ∧ cond δ1 M = some (b, M1) ∧
      ((b = true ∧ ∃ y Ma ys', elt δ1 M1 = some (y, Ma) ∧ w.ok Ma ∧ compGo δ own tg w cond elt r Ma = some (ys', M2) ∧ ys = y :: ys') ∨ (b = false ∧ w.ok M1 ∧ compGo δ own tg w cond elt r M1 = some (ys, M2))) := by
  unfold compGo at h
  split at h
  · cases h
  · rename_i δ1 h1
    split at h
    · cases h
    · rename_i b Mx h2
      refine ⟨δ1, b, Mx, h1, h2, ?_⟩
      cases b with
      | true =>
        simp only [if_true] at h
        split at h
        · cases h
        · rename_i y Ma h3
          split at h
          · rename_i hok
            split at h
            · cases h
            · rename_i ys' Mb h4
              cases h
              exact .inl ⟨rfl, y, Ma, ys', h3, hok, h4, rfl⟩
          · cases h
      | false =>
        simp only [Bool.false_eq_true, if_false] at h
        split at h
        · rename_i hok
          exact .inr ⟨rfl, hok, h⟩
        · cases h
theorem lc_mono {K : PySem.W.Frag} {k : IK} {its : List Ex} {g : TG} {tt : TT} {te : TE} {vs : List Nat} {σ : L2.St} {H : Hp} {Q Q' : VK} (m : ∀ v H, Q v H → Q' v H) (h : tLc (tI K C k its) g tt te vs σ H Q) : tLc (tI K C k its) g tt te vs σ H Q' := by
  obtain ⟨δ, M, ι, ws, M1, wk, l, s, e1, e2, q⟩ := h
  refine ⟨δ, M, ι, ws, M1, wk, l, s, e1, e2, fun J H1 ι1 a1 s1 wok Da hD => ?_⟩
  obtain ⟨W, w0, turn⟩ := q J H1 ι1 a1 s1 wok Da hD
  refine ⟨W, w0, fun i n Hx w => ?_⟩
  rcases turn i n Hx w with ⟨h1, h2⟩ | h
  · exact .inl ⟨h1, m _ _ h2⟩
  · exact .inr h
/-- after a statement a list may be locked -/
def fzn (P : L2.St → Hp → Prop) : L2.St → Hp → Prop := fun σ H => P σ H ∨ ∃ a u, H a = some u ∧ Mut (some u) ∧ ∀ od, P σ (upd H a (.frz od u))
theorem ps_fzn {st : Stmt} {t : TS} (h : PS X st t) : PS X st (fun D σ H => t { D with nx := fzn D.nx } σ H) := ⟨fun pins s σ H D I q => thn (h.run pins s σ H _ I q) fun f s1 p => by
  cases f with
  | next =>
    obtain ⟨σ', H', I', q | ⟨a, u, ha, mu, q⟩⟩ := p
    · exact ⟨σ', H', I', q⟩
    · obtain ⟨od, I2⟩ := I'.lock ha mu
      exact ⟨σ', _, I2, q od⟩
  | ret v => exact p
  | brk => exact p
  | cont => exact p⟩
theorem s_comp (x : XOk g n N X sc) {mu : Bool} {own : List Nat} {xe : Ex} {tg : Tg} {k : IK} {its conds : List Ex} {elt t iter : Expr} {ifs : List Expr} {scope : Scope} {pos : Pos}
    (ok : blkC N sc scope (ownN N own) = true) (hpl : plainX iter = true) (hi : PI X t iter (tI X.K C k its))
    (hown : TgIn own tg)
    (hg : ∀ (s : Shared) (H : Hp) (Ca : Addr) (cl : List (Str × Addr)) (fp : List Addr), PG (X.blk s H scope (compEnvC scope cl Ca X.env) fp) t (gOf X.K tg))
    (ht : ∀ (s : Shared) (H : Hp) (Ca : Addr) (cl : List (Str × Addr)) (fp : List Addr), PTs (X.blk s H scope (compEnvC scope cl Ca X.env) fp) ifs (tTs X.K C conds))
    (he : ∀ (s : Shared) (H : Hp) (Ca : Addr) (cl : List (Str × Addr)) (fp : List Addr), PE (X.blk s H scope (compEnvC scope cl Ca X.env) fp) elt (tE X.K C xe)) :
    ∃ tl : TE, PE X (.ListComp elt [⟨t, iter, ifs, 0⟩] scope pos) (fun σ H Q => tl σ H (fzv Q)) ∧
      (∀ {i : Nat} {y : Str} {py : Pos} {spos : Pos}, X.N[i]? = some y → X.env.scope.names.lookup y = some .local → (py.line == pos.line) = true → (scope.names.any fun (n, k) => n == y && (k == .local || k == .cell)) = false → isFun X.env.scope = true →
        PS X (.Assign [.Name y py] (.ListComp elt [⟨t, iter, ifs, 0⟩] scope pos) spos) (fun D σ H => tl σ H (fzv fun v H1 => D.nx (σ.set i (some v)) H1))) ∧
      ∀ σ H Q, tE X.K C (.comp mu own xe tg k its conds) σ H Q → tl σ H (fzv Q) := by
  have ok2 : BlkOk X.N X.env.scope scope (ownN N own) := by rw [x.nm, x.sc]; exact blkOk_by ok
  have hm : (ownN N own).map (·.2) = own := by
    unfold ownN
    rw [List.map_map]
    exact List.map_id' own
  have hs : ∀ v, foldedSetIterable iter X.env v = pure v := fun v => by cases iter <;> first | rfl | cases hpl
  have nd : X.N.Nodup := by rw [x.nm]; exact x.nd
  refine ⟨tLc (tI X.K C k its) (gOf X.K tg) (tTs X.K C conds) (tE X.K C xe) ((ownN N own).map (·.2)), pe_fz (pe_lc x.calm nd hi ok2 hg ht he hs), ?_, ?_⟩
  · intro i y py spos hN hl hln hn hf
    refine ps_of (ps_fzn (ps_setLc (i := i) x.calm nd hN hl (sw_true ?_ hl hln hn) hi ok2 hg ht he hs)) fun D σ H q => ?_
    · unfold isFun at hf
      split at hf
      · assumption
      · cases hf
    · refine lc_mono (fun v H1 q => ?_) q
      rcases q with q | ⟨a, u, _, h1, h2, q⟩
      · exact .inl q
      · exact .inr ⟨a, u, h1, h2, q⟩
  rw [hm]
  intro σ H Q h
  obtain ⟨δ, M, ι, w, M', l, s, e, q⟩ := h
  unfold ev at e
  cases e1 : evws C its δ M with
  | none => rw [e1] at e; cases e
  | some p =>
    obtain ⟨ws, M1⟩ := p
    rw [e1] at e
    simp only at e
    cases e2 : walkE M1 k ws with
    | none => rw [e2] at e; cases e
    | some wk =>
      rw [e2] at e
      simp only at e
      cases e3 : compGo δ own tg wk (fun δ M => evc C conds δ M) (fun δ M => (ev C xe δ M).bind asD) wk.items M1 with
      | none => rw [e3] at e; cases e
      | some p =>
        obtain ⟨ys, M2⟩ := p
        rw [e3] at e
        simp only at e
        have hyl : ys.length ≤ line := by
          by_cases hc : ys.length ≤ line
          · exact hc
          · rw [if_neg hc] at e; cases e
        rw [if_pos hyl] at e
        refine ⟨δ, M, ι, ws, M1, wk, l, s, e1, e2, fun J H1 ι1 a1 s1 wok Da hD => ?_⟩
        have ok1 := walk_ok e2
        have sm0 := same_upd (.lst []) hD
        refine lc_it wok (D := Da) (Qd := fun H => fzv Q (.ref Da) H) (fun i Hx => ∃ (Mx : Sto) (ιx : List Addr) (acc : List Pv.D) (vs : List V) (ysr : List Pv.D), SOk X.K Hx Mx ιx ∧ Aft H1 M1 ι1 Hx Mx ιx ∧ Da ∉ ιx ∧ Hx Da = some (.lst vs) ∧ Reps X.K Hx acc vs ∧ wk.ok Mx ∧
            compGo δ own tg wk (fun δ M => evc C conds δ M) (fun δ M => (ev C xe δ M).bind asD) (wk.items.drop i) Mx = some (ysr, M2) ∧ ys = acc ++ ysr) ?_ ?_ ?_ ?_
        · exact ⟨M1, ι1, [], [], ys, s1.same sm0, Aft.same sm0, fun z => s1.tr Da z hD, upd_same, mk_nil, ok1, e3, rfl⟩
        · rintro i Hx hi ⟨Mx, ιx, acc, vs, ysr, sx, ax, hdn, hd, hr, okx, hc, hy⟩
          exact gg_of (ax.kp s1) sx ax.ext s1 ok1 okx
        · rintro i v Hx Hy hi ⟨Mx, ιx, acc, vs, ysr, sx, ax, hdn, hd, hr, okx, hc, hy⟩ ⟨sm, d, hdi, hrep⟩
          have hdrop : wk.items.drop i = d :: wk.items.drop (i + 1) := by
            have hlt : i < wk.items.length := hi
            rw [List.drop_eq_getElem_cons hlt]
            rw [List.getElem?_eq_getElem hlt] at hdi
            cases hdi
            rfl
          rw [hdrop] at hc
          obtain ⟨δ1, b, Mb, hb1, hb2, alt⟩ := go_inv hc
          have sy := sx.same sm
          have ay : Aft H1 M1 ι1 Hy Mx ιx := ax.trans (Aft.same sm)
          have lx : LOk X.K Hy ιx δ σ := (l.aft s a1).aft s1 ay
          have hDy : Hy Da = some (.lst vs) := sm _ _ hd
          have notlive : ∀ {Mz : Sto} {ιz : List Addr}, Da ∉ ιz → ¬ Live Mz ιz Da := fun h z => by
            obtain ⟨k, _, _, _, h3⟩ := z
            exact h (List.mem_of_getElem? h3)
          refine tg_ok hb1 hrep (lok_wipe own lx) fun σ1 l1 hw => ⟨by rw [hw own hown, wipe_wipe], ?_⟩
          refine ⟨δ1, Mx, ιx, b, Mb, l1, sy, hb2, fun H3 ι3 a3 s3 => ?_⟩
          have a03 := ay.trans a3
          have hD3 : H3 Da = some (.lst vs) := a3.fr _ _ hDy (notlive hdn)
          have hdn3 : Da ∉ ι3 := fun z => by
            rcases a3.nw Da z with z | z
            · exact hdn z
            · rw [hDy] at z; cases z
          rcases alt with ⟨rfl, y, Ma, ys', hy1, hy2, hy3, rfl⟩ | ⟨rfl, hy2, hy3⟩
          · show if true = true then _ else _
            rw [if_pos rfl]
            cases hev : ev C xe δ1 Mb with
            | none => rw [hev] at hy1; cases hy1
            | some p =>
              obtain ⟨w1, Mc⟩ := p
              rw [hev] at hy1
              cases w1 with
              | m k => cases hy1
              | d y' =>
                cases hy1
                refine ⟨δ1, Mb, ι3, _, Ma, l1.aft sy a3, s3, hev, fun u H4 ι4 a4 s4 r4 => ?_⟩
                have a04 := a03.trans a4
                have hD4 : H4 Da = some (.lst vs) := a4.fr _ _ hD3 (notlive hdn3)
                have hdn4 : Da ∉ ι4 := fun z => by
                  rcases a4.nw Da z with z | z
                  · exact hdn3 z
                  · rw [hD3] at z; cases z
                have rv : Reps X.K H4 acc vs := Reps.mono ((Kp.same sm).trans ((a3.kp sy).trans (a4.kp s3))) _ _ hr
                have kpD : Kp H4 (upd H4 Da (.lst (vs ++ [u]))) := fun b => by
                  by_cases e : b = Da
                  · subst e
                    exact ⟨fun xs h => (by rw [hD4] at h; cases h), fun o u h => (by rw [hD4] at h; cases h)⟩
                  · exact ⟨fun xs h => by rw [upd_ne e]; exact h, fun o u h => by rw [upd_ne e]; exact h⟩
                refine ⟨vs, hD4, ?_, Ma, ι4, acc ++ [y], vs ++ [u], ys', ?_, ?_, hdn4, upd_same, ?_, hy2, hy3, by rw [List.append_assoc]; exact hy⟩
                · rw [← rv.len]
                  rw [hy, List.length_append, List.length_cons] at hyl
                  rw [line_eq]; exact Nat.lt_of_lt_of_le (by omega) (show acc.length + (ys'.length + 1) ≤ 16777216 from hyl)
                · refine ⟨s4.len, s4.nd, fun k o a h1 h2 => ?_, fun a ha => ?_⟩
                  · have ne : a ≠ Da := fun e => hdn4 (e ▸ List.mem_of_getElem? h2)
                    have m := s4.mo k o a h1 h2
                    cases o with
                    | lst ds => obtain ⟨xs, e, r, hl⟩ := m; exact ⟨xs, by rw [upd_ne ne]; exact e, Reps.mono kpD _ _ r, hl⟩
                    | dic ds => obtain ⟨xs, e, r⟩ := m; exact ⟨xs, by rw [upd_ne ne]; exact e, RepK.mono kpD _ _ r⟩
                    | dead => exact True.intro
                  · have ne : a ≠ Da := fun e => hdn4 (e ▸ ha)
                    rw [upd_ne ne]
                    exact s4.tr a ha
                · refine ⟨a04.ext, fun b o q n => ?_, a04.lv, a04.nw⟩
                  rw [upd_ne (ne_of_none q hD)]
                  exact a04.fr b o q n
                · exact (Reps.mono kpD _ _ rv).snoc (Rep.mono kpD _ _ (show Rep X.K H4 y u from r4))
          · show if false = true then _ else _
            rw [if_neg Bool.false_ne_true]
            exact ⟨Mb, ι3, acc, vs, ysr, s3, a03, hdn3, hD3, Reps.mono ((Kp.same sm).trans (a3.kp sy)) _ _ hr, hy2, hy3, hy⟩
        · rintro Hx ⟨Mx, ιx, acc, vs, ysr, sx, ax, hdn, hd, hr, okx, hc, hy⟩
          rw [List.drop_length] at hc
          unfold compGo at hc
          cases hc
          rw [List.append_nil] at hy
          subst hy
          have hlx : ιx.length = M2.length := sx.len
          have a0x := a1.trans ax
          unfold fin at e
          cases mu with
          | true =>
            simp only [if_true, Option.some.injEq, Prod.mk.injEq] at e
            obtain ⟨rfl, rfl⟩ := e
            refine .inl (q _ _ (ιx ++ [Da]) (a1.trans ?_) ?_ ⟨Da, ?_, rfl⟩)
            · obtain ⟨t, ht⟩ := ax.ext
              refine ⟨⟨t ++ [Da], by rw [ht, List.append_assoc]⟩, ax.fr, fun b ⟨k, o, h1, h2, h3⟩ => ?_, fun b hb => ?_⟩
              · by_cases hk : k < M2.length
                · rw [List.getElem?_append_left hk] at h1
                  rw [List.getElem?_append_left (by rw [hlx]; exact hk)] at h3
                  exact ax.lv b ⟨k, o, h1, h2, h3⟩
                · rw [List.getElem?_append_right (by omega)] at h3
                  have := List.mem_of_getElem? h3
                  simp at this
                  subst this
                  exact .inr hD
              · rcases List.mem_append.mp hb with z | z
                · exact ax.nw b z
                · simp at z; subst z; exact .inr hD
            · refine ⟨by simp [hlx], ?_, fun k o a h1 h2 => ?_, fun a ha => ?_⟩
              · rw [List.nodup_append]
                exact ⟨sx.nd, by simp, fun a ha b hb => by rintro rfl; simp at hb; subst hb; exact hdn ha⟩
              · by_cases hk : k < M2.length
                · rw [List.getElem?_append_left hk] at h1
                  rw [List.getElem?_append_left (by rw [hlx]; exact hk)] at h2
                  exact sx.mo k o a h1 h2
                · rw [List.getElem?_append_right (by omega)] at h1 h2
                  have e1 := List.mem_of_getElem? h1
                  have e2 := List.mem_of_getElem? h2
                  simp at e1 e2
                  subst e1 e2
                  exact ⟨vs, hd, hr, hyl⟩
              · rcases List.mem_append.mp ha with z | z
                · exact sx.tr a z
                · simp at z; subst z; rw [hd]; simp
            · rw [List.getElem?_append_right (by omega), hlx]
              simp
          | false =>
            simp only [Bool.false_eq_true, if_false, Option.some.injEq, Prod.mk.injEq] at e
            obtain ⟨rfl, rfl⟩ := e
            refine .inr ⟨Da, .lst vs, rfl, hd, True.intro, fun od => ?_⟩
            have kpD : Kp Hx (upd Hx Da (.frz od (.lst vs))) := fun b => by
              by_cases e : b = Da
              · subst e
                exact ⟨fun xs h => (by rw [hd] at h; cases h), fun o u h => (by rw [hd] at h; cases h)⟩
              · exact ⟨fun xs h => by rw [upd_ne e]; exact h, fun o u h => by rw [upd_ne e]; exact h⟩
            refine q _ _ ιx (a1.trans ⟨ax.ext, fun b o h n => ?_, ax.lv, ax.nw⟩) ?_ (mk_lst (.inl ⟨od, upd_same⟩) (Reps.mono kpD _ _ hr) hyl)
            · rw [upd_ne (ne_of_none h hD)]
              exact ax.fr b o h n
            · refine ⟨sx.len, sx.nd, fun k o a h1 h2 => ?_, fun a ha => ?_⟩
              · have ne : a ≠ Da := fun e => hdn (e ▸ List.mem_of_getElem? h2)
                have m := sx.mo k o a h1 h2
                cases o with
                | lst ds => obtain ⟨xs, e, r, hl⟩ := m; exact ⟨xs, by rw [upd_ne ne]; exact e, Reps.mono kpD _ _ r, hl⟩
                | dic ds => obtain ⟨xs, e, r⟩ := m; exact ⟨xs, by rw [upd_ne ne]; exact e, RepK.mono kpD _ _ r⟩
                | dead => exact True.intro
              · have ne : a ≠ Da := fun e => hdn (e ▸ ha)
                rw [upd_ne ne]
                exact sx.tr a ha
end
end Pv

/-! PvStm: statements. -/
namespace Pv
open PySem L2 PyProof.Rows
section
variable {K : PySem.W.Frag} {H H1 : Hp} {M M1 : Sto} {ι ι1 : List Addr}
def Post (K : PySem.W.Frag) (H : Hp) (M : Sto) (ι : List Addr) (D : Ends) : Fl → Prop
  | .nx δ' M' => ∀ σ' H' ι', Aft H M ι H' M' ι' → SOk K H' M' ι' → LOk K H' ι' δ' σ' → D.nx σ' H'
  | .rt w M' => ∀ v H' ι', Aft H M ι H' M' ι' → SOk K H' M' ι' → RepW K H' ι' w v → D.rt v H'
theorem Post.aft {D : Ends} {fl : Fl} (a : Aft H M ι H1 M1 ι1) (p : Post K H M ι D fl) : Post K H1 M1 ι1 D fl := by
  cases fl with
  | nx δ' M' => exact fun σ' H' ι' a' => p σ' H' ι' (a.trans a')
  | rt w M' => exact fun σ' H' ι' a' => p σ' H' ι' (a.trans a')
end
def tS (K : PySem.W.Frag) (C : Ctx) (st : Stm) : TS := fun D σ H => ∃ δ M ι fl, LOk K H ι δ σ ∧ SOk K H M ι ∧ ex1 C st δ M = some fl ∧ Post K H M ι D fl
def tSs (K : PySem.W.Frag) (C : Ctx) (st : List Stm) : TS := fun D σ H => ∃ δ M ι fl, LOk K H ι δ σ ∧ SOk K H M ι ∧ exs C st δ M = some fl ∧ Post K H M ι D fl
section
variable {g : GP} {n : Nat} {N : List Str} {X : Cx} {sc : Scope} {C : Ctx}
theorem ss_nil : PSs X [] (tSs X.K C []) := pss_of pss_nil fun D σ H h => by
  obtain ⟨δ, M, ι, fl, l, s, e, p⟩ := h
  unfold exs at e
  cases e
  exact p σ H ι Aft.refl s l
theorem ss_cons {a : Stm} {r : List Stm} {st : Stmt} {rest : List Stmt} (h1 : PS X st (tS X.K C a)) (h2 : PSs X rest (tSs X.K C r)) : PSs X (st :: rest) (tSs X.K C (a :: r)) := pss_of (pss_cons h1 h2) fun D σ H h => by
  obtain ⟨δ, M, ι, fl, l, s, e, p⟩ := h
  unfold exs at e
  cases e1 : ex1 C a δ M with
  | none => rw [e1] at e; cases e
  | some f =>
    rw [e1] at e
    cases f with
    | nx δ1 M1 => exact ⟨δ, M, ι, _, l, s, e1, fun σ' H' ι' a' s' l' => ⟨δ1, M1, ι', fl, l', s', e, p.aft a'⟩⟩
    | rt w M1 => cases e; exact ⟨δ, M, ι, _, l, s, e1, p⟩
theorem s_ret {ex : Ex} {e : Expr} {pos : Pos} (h : PE X e (tE X.K C ex)) : PS X (.Return (some e) pos) (tS X.K C (.ret ex)) := ps_of (ps_ret h) fun D σ H h => by
  obtain ⟨δ, M, ι, fl, l, s, e, p⟩ := h
  unfold ex1 at e
  cases e1 : ev C ex δ M with
  | none => rw [e1] at e; cases e
  | some q =>
    obtain ⟨w, M1⟩ := q
    rw [e1] at e
    cases e
    exact ⟨δ, M, ι, w, M1, l, s, e1, p⟩
theorem s_ex {ex : Ex} {e : Expr} {pos : Pos} (h : PE X e (tE X.K C ex)) (hs : swapsWith e none pos.line X.env = pure false) : PS X (.Expr e pos) (tS X.K C (.ex ex)) := ps_of (ps_expr h hs) fun D σ H h => by
  obtain ⟨δ, M, ι, fl, l, s, e, p⟩ := h
  unfold ex1 at e
  cases e1 : ev C ex δ M with
  | none => rw [e1] at e; cases e
  | some q =>
    obtain ⟨w, M1⟩ := q
    rw [e1] at e
    cases e
    exact ⟨δ, M, ι, w, M1, l, s, e1, fun v H' ι' a s' _ => p σ H' ι' a s' (l.aft s a)⟩
theorem s_if {c : Ex} {a b : List Stm} {ce : Expr} {as bs : List Stmt} {pos : Pos} (hc : PT X ce (tB X.K C c)) (ha : PSs X as (tSs X.K C a)) (hb : PSs X bs (tSs X.K C b)) : PS X (.If ce as bs pos) (tS X.K C (.ifs c a b)) := ps_of (ps_if hc ha hb) fun D σ H h => by
  obtain ⟨δ, M, ι, fl, l, s, e, p⟩ := h
  unfold ex1 at e
  cases e1 : ev C c δ M with
  | none => rw [e1] at e; cases e
  | some q =>
    obtain ⟨w, M1⟩ := q
    rw [e1] at e
    cases w with
    | m k => cases e
    | d z =>
      cases z with
      | bl bb =>
        refine ⟨δ, M, ι, bb, M1, l, s, e1, fun H' ι' a' s' => ?_⟩
        cases bb with
        | true =>
          show if true = true then _ else _
          rw [if_pos rfl]
          exact ⟨δ, M1, ι', fl, l.aft s a', s', e, p.aft a'⟩
        | false =>
          show if false = true then _ else _
          rw [if_neg Bool.false_ne_true]
          exact ⟨δ, M1, ι', fl, l.aft s a', s', e, p.aft a'⟩
      | _ => cases e
theorem asg_run {i : Nat} {ex : Ex} {D : Ends} {σ : L2.St} {H : Hp} (h : tS X.K C (.asg i ex) D σ H) : tE X.K C ex σ H fun v H1 => D.nx (σ.set i (some v)) H1 := by
  obtain ⟨δ, M, ι, fl, l, s, e, p⟩ := h
  unfold ex1 at e
  cases e1 : ev C ex δ M with
  | none => rw [e1] at e; cases e
  | some q =>
    obtain ⟨w, M1⟩ := q
    rw [e1] at e
    cases e
    exact ⟨δ, M, ι, w, M1, l, s, e1, fun v H' ι' a s' r => p _ H' ι' a s' ((l.aft s a).set i r)⟩
theorem sw_plain {e : Expr} {t : Option Expr} {l : Nat} {env : Env} (h : noCmp e = true) : swapsWith e t l env = pure false := by
  cases e <;> first | rfl | cases h
theorem sw_sub {e a b : Expr} {p : Pos} {l : Nat} {env : Env} : swapsWith e (some (.Subscript a b p)) l env = pure false := by
  cases e <;> rfl
theorem sw_tup {e : Expr} {es : List Expr} {k : Nat} {p : Pos} {l : Nat} {env : Env} : swapsWith e (some (.Tuple es k p)) l env = pure false := by
  cases e <;> rfl
theorem s_asg (x : XOk g n N X sc) {i : Nat} {y : Str} {ex : Ex} {e : Expr} {p pos : Pos} (hN : N[i]? = some y) (hl : isLoc sc y = true) (hf : X.fn y = true ∨ X.env.scope.names.lookup y = some .local) (h : PE X e (tE X.K C ex)) (hs : swapsWith e (some (.Name y p)) pos.line X.env = pure false) :
    PS X (.Assign [.Name y p] e pos) (tS X.K C (.asg i ex)) := by
  refine ps_of (ps_set (i := i) (by rw [x.nm]; exact x.nd) (by rw [x.nm]; exact hN) (by rw [x.sc]; exact loc_of hl) h hs hf) fun D σ H h => asg_run h
theorem s_unp (x : XOk g n N X sc) {is : List Nat} {ts : List Expr} {k : Nat} {tp pos : Pos} {ex : Ex} {e : Expr} (ht : TgOk X (.tp is) (.Tuple ts k tp)) (h : PE X e (tE X.K C ex)) (hp : isTp e = false) : PS X (.Assign [.Tuple ts k tp] e pos) (tS X.K C (.unp is ex)) := by
  have nd : X.N.Nodup := by rw [x.nm]; exact x.nd
  refine ps_of (ps_asg h (pg_of x.calm nd ht) (show swapsWith e (some (.Tuple ts k tp)) pos.line X.env = pure false from sw_tup) (by cases e <;> first | rfl | cases hp) rfl) fun D σ H h => ?_
  obtain ⟨δ, M, ι, fl, l, s, e, p⟩ := h
  unfold ex1 at e
  cases e1 : ev C ex δ M with
  | none => rw [e1] at e; cases e
  | some q =>
    obtain ⟨w, M1⟩ := q
    rw [e1] at e
    cases w with
    | m k => cases e
    | d z =>
      cases z with
      | tup xs =>
        simp only at e
        cases e2 : setD δ is xs with
        | none => rw [e2] at e; cases e
        | some δ1 =>
          rw [e2] at e
          cases e
          exact ⟨δ, M, ι, _, M1, l, s, e1, fun v H' ι' a s' r => tg_ok (tg := .tp is) (d := .tup xs) e2 r (l.aft s a) fun σ1 l1 _ => p σ1 H' ι' a s' l1⟩
      | _ => cases e
theorem repK_map {K : PySem.W.Frag} {H : Hp} {s : List Nat} {d : D} {v : V} (r : Rep K H d v) : ∀ {kvs : List (List Nat × D)} {ws : List (Key × V)}, RepK K H kvs ws → RepK K H (kvs.map fun p => if p.1 == s then (p.1, d) else p) (ws.map fun kv => if kv.1 = .inr (mkS s) then (kv.1, v) else kv)
  | [], ws, h => by unfold RepK at h; subst h; exact h_nil
  | p :: kvs, ws, h => by
    obtain ⟨z, x⟩ := p
    unfold RepK at h
    obtain ⟨u, us, rfl, o, q, h⟩ := h
    rw [List.map_cons, List.map_cons]
    have ih := repK_map (s := s) r h
    by_cases e : z = s
    · subst e
      simp only [beq_self_eq_true, if_true]
      unfold RepK
      exact ⟨v, _, rfl, o, r, ih⟩
    · have e1 : (z == s) = false := by simpa using e
      have e2 : ¬ ((Sum.inr (mkS z) : Key) = .inr (mkS s)) := fun h => e (mkS_inj (Sum.inr.inj h))
      simp only [e1, Bool.false_eq_true, if_false, e2]
      unfold RepK
      exact ⟨u, _, rfl, o, q, ih⟩
where h_nil {K : PySem.W.Frag} {H : Hp} : RepK K H [] [] := by unfold RepK; rfl
theorem repK_snoc {K : PySem.W.Frag} {H : Hp} {s : List Nat} {d : D} {v : V} (os : okS s) (r : Rep K H d v) : ∀ {kvs : List (List Nat × D)} {ws : List (Key × V)}, RepK K H kvs ws → RepK K H (kvs ++ [(s, d)]) (ws ++ [(.inr (mkS s), v)])
  | [], ws, h => by
    unfold RepK at h; subst h
    show RepK K H [(s, d)] _
    unfold RepK
    exact ⟨v, [], rfl, os, r, repK_map.h_nil⟩
  | p :: kvs, ws, h => by
    obtain ⟨z, x⟩ := p
    unfold RepK at h
    obtain ⟨u, us, rfl, o, q, h⟩ := h
    show RepK K H ((z, x) :: (kvs ++ [(s, d)])) _
    unfold RepK
    exact ⟨u, _, rfl, o, q, repK_snoc os r h⟩
theorem repK_put {K : PySem.W.Frag} {H : Hp} {s : List Nat} {d : D} {v : V} {kvs : List (List Nat × D)} {ws : List (Key × V)} (os : okS s) (r : Rep K H d v) (h : RepK K H kvs ws) : RepK K H (Pv.putK s d kvs) (L2.putK ws (.inr (mkS s)) v) := by
  unfold Pv.putK L2.putK
  rw [← repK_any s h]
  split
  · exact repK_map r h
  · exact repK_snoc os r h
theorem ps_either {st : Stmt} {t u : TS} (h1 : PS X st t) (h2 : PS X st u) : PS X st (fun D σ H => t D σ H ∨ u D σ H) := ⟨fun pins s σ H D I q => q.elim (h1.run pins s σ H D I) (h2.run pins s σ H D I)⟩
theorem s_setix (x : XOk g n N X sc) {xa xi xe : Ex} {a i e : Expr} {p pos : Pos} (hpi : plainX i = true) (ha : PE X a (tE X.K C xa)) (hi : PE X i (tE X.K C xi)) (he : PE X e (tE X.K C xe)) : PS X (.Assign [.Subscript a i p] e pos) (tS X.K C (.setix xa xi xe)) := by
  have h1 := ps_asg (pos := pos) he (pg_sub (pos := p) ha hi (set_list (X := X)) (by intro v; cases i <;> first | rfl | cases hpi)) (show swapsWith e (some (.Subscript a i p)) pos.line X.env = pure false from sw_sub) (by cases e <;> rfl) rfl
  have h2 := ps_dput (pos := pos) (pos' := p) x.u1 ha hi he sw_sub
  refine ps_of (ps_either h1 h2) fun D σ H h => ?_
  obtain ⟨δ, M, ι, fl, l, s, e, q⟩ := h
  unfold ex1 at e
  split at e
  · rename_i dv M1 e1
    split at e
    · rename_i k M2 e2
      split at e
      · rename_i j M3 e3
        split at e
        · rename_i ds jj e4
          split at e
          · rename_i pp e5
            cases e
            refine .inl ⟨δ, M, ι, _, M1, l, s, e1, fun v H1 ι1 a1 s1 r1 => ?_⟩
            refine ⟨δ, M1, ι1, _, M2, l.aft s a1, s1, e2, fun o H2 ι2 a2 s2 r2 => ?_⟩
            refine ⟨δ, M2, ι2, _, M3, (l.aft s a1).aft s1 a2, s2, e3, fun iv H3 ι3 a3 s3 r3 => ?_⟩
            obtain ⟨ad, hp2, rfl⟩ := r2
            obtain ⟨t, rfl⟩ := a3.ext
            have hp3 : (ι2 ++ t)[k]? = some ad := by rw [List.getElem?_append_left (List.getElem?_eq_some_iff.mp hp2).1]; exact hp2
            obtain ⟨us, k2, k3, k3l⟩ := s3.mo k _ ad e4 hp3
            refine ⟨ad, us, jj, pp, rfl, rep_int (repw r3), k2, by rw [← k3.len, ← ixN_eq]; exact e5, ?_⟩
            have lv := live_of e4 rfl hp3
            have af := Aft.write (o := .lst (ds.set pp dv)) (u := .lst (us.set pp v)) s3 hp3 lv
            have kp := (a2.kp s1).trans ((a3.kp s2).trans (af.kp s3))
            refine q _ _ _ (((a1.trans a2).trans a3).trans af) (s3.write hp3 lv ⟨_, upd_same, ?_, by rw [List.length_set]; exact k3l⟩) ((((l.aft s a1).aft s1 a2).aft s2 a3).aft s3 af)
            exact (Reps.mono (af.kp s3) _ _ k3).set pp (Rep.mono kp _ _ (repw r1))
          · cases e
        · rename_i ds z e4
          split at e
          · rename_i hsz
            cases e
            refine .inr ⟨δ, M, ι, _, M1, l, s, e1, fun v H1 ι1 a1 s1 r1 => ?_⟩
            refine ⟨δ, M1, ι1, _, M2, l.aft s a1, s1, e2, fun o H2 ι2 a2 s2 r2 => ?_⟩
            refine ⟨δ, M2, ι2, _, M3, (l.aft s a1).aft s1 a2, s2, e3, fun iv H3 ι3 a3 s3 r3 => ?_⟩
            obtain ⟨ad, hp2, rfl⟩ := r2
            obtain ⟨t, rfl⟩ := a3.ext
            have hp3 : (ι2 ++ t)[k]? = some ad := by rw [List.getElem?_append_left (List.getElem?_eq_some_iff.mp hp2).1]; exact hp2
            obtain ⟨us, k2, k3⟩ := s3.mo k _ ad e4 hp3
            obtain ⟨rfl, oz⟩ := rep_str (repw r3)
            refine ⟨ad, _, rfl, .inl ⟨us, .inr (mkS z), k2, rfl, by rw [repK_len k3, line_eq]; exact hsz, rfl⟩, ?_⟩
            have lv := live_of e4 rfl hp3
            have af := Aft.write (o := .dic (Pv.putK z dv ds)) (u := .dK (L2.putK us (.inr (mkS z)) v)) s3 hp3 lv
            have kp := (a2.kp s1).trans ((a3.kp s2).trans (af.kp s3))
            refine q _ _ _ (((a1.trans a2).trans a3).trans af) (s3.write hp3 lv ⟨_, upd_same, repK_put oz (Rep.mono kp _ _ (repw r1)) (RepK.mono (af.kp s3) _ _ k3)⟩) ((((l.aft s a1).aft s1 a2).aft s2 a3).aft s3 af)
          · cases e
        · cases e
      · cases e
    · cases e
  · cases e
theorem s_while (x : XOk g n N X sc) {c : Ex} {b : List Stm} {ce : Expr} {bs : List Stmt} {pos : Pos} (hc : PT X ce (tB X.K C c)) (hb : PSs X bs (tSs X.K C b)) : PS X (.While ce bs [] pos) (tS X.K C (.whl c b)) := by
  have hp : PassesOwn (model X.prog X.w) X.A X.env X.xe := by rw [x.xe]; exact PassesOwn.never
  refine ps_of (ps_while hp hc hb) fun D σ H h => ?_
  obtain ⟨δ, M, ι, fl, l, s, e, p⟩ := h
  unfold ex1 at e
  obtain ⟨m, hm⟩ := loopE_some e
  refine ⟨fun m σ' H' => ∃ δ' M' ι', LOk X.K H' ι' δ' σ' ∧ SOk X.K H' M' ι' ∧ Aft H M ι H' M' ι' ∧ loopN _ m (δ', M') = some fl, ⟨m, δ, M, ι, l, s, Aft.refl, hm⟩, ?_⟩
  rintro m σ' H' ⟨δ', M', ι', l', s', a', e'⟩
  cases m with
  | zero => cases e'
  | succ m =>
    unfold loopN at e'
    simp only at e'
    cases e1 : ev C c δ' M' with
    | none => rw [e1] at e'; cases e'
    | some q =>
      obtain ⟨w, M1⟩ := q
      rw [e1] at e'
      cases w with
      | m k => cases e'
      | d z =>
        cases z with
        | bl bb =>
          refine ⟨δ', M', ι', bb, M1, l', s', e1, fun H2 ι2 a2 s2 => ?_⟩
          cases bb with
          | false =>
            cases e'
            show if false = true then _ else _
            rw [if_neg Bool.false_ne_true]
            exact p σ' H2 ι2 (a'.trans a2) s2 (l'.aft s' a2)
          | true =>
            show if true = true then _ else _
            rw [if_pos rfl]
            refine ⟨_, fun σ3 H3 q => ⟨m, Nat.lt_succ_self m, q⟩, ?_⟩
            simp only at e'
            cases e2 : exs C b δ' M1 with
            | none => rw [e2] at e'; cases e'
            | some f =>
              rw [e2] at e'
              refine ⟨δ', M1, ι2, f, l'.aft s' a2, s2, e2, ?_⟩
              cases f with
              | nx δ3 M3 => exact fun σ3 H3 ι3 a3 s3 l3 => ⟨δ3, M3, ι3, l3, s3, (a'.trans a2).trans a3, e'⟩
              | rt w M3 => cases e'; exact fun v H3 ι3 a3 s3 r3 => p v H3 ι3 ((a'.trans a2).trans a3) s3 r3
        | _ => cases e'
theorem s_for (x : XOk g n N X sc) {tg : Tg} {k : IK} {its : List Ex} {b : List Stm} {t iter : Expr} {bs : List Stmt} {pos : Pos} (hpl : plainX iter = true) (hi : PI X t iter (tI X.K C k its)) (ht : TgOk X tg t) (hb : PSs X bs (tSs X.K C b)) : PS X (.For t iter bs [] pos) (tS X.K C (.fr tg k its b)) := by
  have hp : PassesOwn (model X.prog X.w) X.A X.env X.xe := by rw [x.xe]; exact PassesOwn.never
  have nd : X.N.Nodup := by rw [x.nm]; exact x.nd
  have hs : ∀ v, foldedSetIterable iter X.env v = pure v := fun v => by cases iter <;> first | rfl | cases hpl
  refine ps_of (ps_for hp x.calm hi (pg_of x.calm nd ht) hb hs) fun D σ H h => ?_
  obtain ⟨δ, M, ι, fl, l, s, e, p⟩ := h
  unfold ex1 at e
  cases e1 : evws C its δ M with
  | none => rw [e1] at e; cases e
  | some q =>
    obtain ⟨ws, M1⟩ := q
    rw [e1] at e
    simp only at e
    cases e2 : walkE M1 k ws with
    | none => rw [e2] at e; cases e
    | some wk =>
      rw [e2] at e
      simp only at e
      refine ⟨δ, M, ι, ws, M1, wk, l, s, e1, e2, fun J H1 ι1 a1 s1 wok => ?_⟩
      have ok1 := walk_ok e2
      refine for_it wok (fun i σ' Hx => ∃ δx Mx ιx, LOk X.K Hx ιx δx σ' ∧ SOk X.K Hx Mx ιx ∧ Aft H1 M1 ι1 Hx Mx ιx ∧ wk.ok Mx ∧ forGo tg wk (fun δ M => exs C b δ M) (wk.items.drop i) δx Mx = some fl) ⟨δ, M1, ι1, l.aft s a1, s1, Aft.refl, ok1, e⟩ ?_ ?_ ?_
      · rintro i σ' Hx hi ⟨δx, Mx, ιx, lx, sx, ax, okx, hx⟩
        exact gg_of (ax.kp s1) sx ax.ext s1 ok1 okx
      · rintro i v σ' Hx Hy hi ⟨δx, Mx, ιx, lx, sx, ax, okx, hx⟩ ⟨sm, d, hdi, hrep⟩
        have hdrop : wk.items.drop i = d :: wk.items.drop (i + 1) := by
          have hlt : i < wk.items.length := hi
          rw [List.drop_eq_getElem_cons hlt]
          rw [List.getElem?_eq_getElem hlt] at hdi
          cases hdi
          rfl
        rw [hdrop] at hx
        unfold forGo at hx
        cases hb1 : bindT δx tg d with
        | none => rw [hb1] at hx; cases hx
        | some δ1 =>
          rw [hb1] at hx
          simp only at hx
          have sy := sx.same sm
          have ay : Aft H1 M1 ι1 Hy Mx ιx := ax.trans (Aft.same sm)
          have ly : LOk X.K Hy ιx δx σ' := lx.mono (Kp.same sm) ⟨[], by simp⟩
          refine tg_ok hb1 hrep ly fun σ1 l1 _ => ?_
          cases hb2 : exs C b δ1 Mx with
          | none => rw [hb2] at hx; cases hx
          | some f =>
            rw [hb2] at hx
            refine ⟨δ1, Mx, ιx, f, l1, sy, hb2, ?_⟩
            cases f with
            | rt w M3 => cases hx; exact fun v H3 ι3 a3 s3 r3 => p v H3 ι3 ((a1.trans ay).trans a3) s3 r3
            | nx δ3 M3 =>
              simp only at hx
              by_cases hok : wk.ok M3
              · rw [if_pos hok] at hx
                exact fun σ3 H3 ι3 a3 s3 l3 => ⟨δ3, M3, ι3, l3, s3, ay.trans a3, hok, hx⟩
              · rw [if_neg hok] at hx; cases hx
      · rintro σ' Hx ⟨δx, Mx, ιx, lx, sx, ax, okx, hx⟩
        rw [List.drop_length] at hx
        unfold forGo at hx
        cases hx
        exact p σ' Hx ιx (a1.trans ax) sx lx
end
end Pv

/-! PvMain: what the checker lets through is read as the term says. -/
namespace Pv
open PySem L2 PyProof.Rows
section
variable {g : GP} {n : Nat} {N : List Str}
theorem XOk.blk {X : Cx} {sc : Scope} (x : XOk g n N X sc) (s : Shared) (H : Hp) (scope : Scope) (Ca : Addr) (cl : List (Str × Addr)) (fp : List Addr) : XOk g n N (X.blk s H scope (compEnvC scope cl Ca X.env) fp) (relS scope sc) :=
  ⟨x.prog, x.w, x.K, x.mg, x.base, x.calm, x.nm, x.nd, by rw [← x.sc]; rfl, x.room, rfl⟩
theorem lcl_of {sc : Scope} {y : Str} (h : isLcl sc y = true) : sc.names.lookup y = some .local := by
  unfold isLcl at h
  split at h
  · assumption
  · cases h
theorem cel_of {sc : Scope} {y : Str} (h : isCel sc y = true) : sc.names.lookup y = some .cell := by
  unfold isCel at h
  split at h
  · assumption
  · cases h
section
variable {X : Cx} {sc scope : Scope} {own : List Nat} {s : Shared} {H : Hp} {Ca : Addr} {cl : List (Str × Addr)} {fp : List Addr}
theorem sto_blk (x : XOk g n N X sc) {i : Nat} {e : Expr} (h : chkNmB N scope (relS scope sc) own i e = true) : Sto1 (X.blk s H scope (compEnvC scope cl Ca X.env) fp) i e ∧ i ∈ own := by
  unfold chkNmB at h
  split at h
  · rename_i y pos
    simp only [Bool.and_eq_true, Bool.or_eq_true, decide_eq_true_eq] at h
    obtain ⟨⟨h1, h2⟩, h3⟩ := h
    have e2 := (x.blk s H scope Ca cl fp).sc
    refine ⟨⟨y, pos, rfl, by show X.N[i]? = _; rw [x.nm]; exact h1, ?_, ?_⟩, h3⟩
    · rcases h2 with h2 | h2
      · exact .inl (by rw [e2]; exact lcl_of h2)
      · exact .inr (by rw [e2]; exact cel_of h2.1)
    · rcases h2 with h2 | h2
      · exact .inr (by rw [e2]; exact lcl_of h2)
      · refine .inl ?_
        show (scope.names.lookup y == some .cell) = true
        rw [cel_of h2.2]
        rfl
  · cases h
theorem stos_blk (x : XOk g n N X sc) : ∀ {is : List Nat} {es : List Expr}, chkNmsB N scope (relS scope sc) own is es = true → Stos (X.blk s H scope (compEnvC scope cl Ca X.env) fp) is es ∧ ∀ i ∈ is, i ∈ own
  | [], [], _ => ⟨True.intro, fun _ h => nomatch h⟩
  | [], _ :: _, h => by cases h
  | _ :: _, [], h => by cases h
  | i :: is, e :: es, h => by
    unfold chkNmsB at h
    simp only [Bool.and_eq_true] at h
    obtain ⟨h1, h2⟩ := sto_blk (s := s) (H := H) (Ca := Ca) (cl := cl) (fp := fp) x h.1
    obtain ⟨h3, h4⟩ := stos_blk x h.2
    exact ⟨⟨h1, h3⟩, fun j hj => by
      rcases List.mem_cons.mp hj with rfl | hj
      · exact h2
      · exact h4 j hj⟩
theorem tg_blk (x : XOk g n N X sc) {tg : Tg} {e : Expr} (h : chkTgB N scope (relS scope sc) own tg e = true) : TgOk (X.blk s H scope (compEnvC scope cl Ca X.env) fp) tg e ∧ TgIn own tg := by
  cases tg with
  | nm i => exact sto_blk x h
  | tp is =>
    cases e with
    | Tuple es k pos => exact stos_blk x h
    | _ => cases h
end
section
variable {X : Cx} {sc : Scope}
theorem pa_es {C : Ctx} : ∀ {es : List Ex} {xs : List Expr}, PEs X C es xs → plainXs xs = true → PA X xs (tEs X.K C es)
  | [], [], _, _ => a_nil
  | [], _ :: _, h, _ => h.elim
  | _ :: _, [], h, _ => h.elim
  | ex :: es, e :: xs, h, hp => by
    have hp' : plainX e = true ∧ plainXs xs = true := by simpa [plainXs] using hp
    exact a_cons h.1 (pa_es h.2.2 hp'.2) hp'.1
theorem pa_ws {C : Ctx} : ∀ {es : List Ex} {xs : List Expr}, PEs X C es xs → plainXs xs = true → PA X xs (tWs X.K C es)
  | [], [], _, _ => w_nil
  | [], _ :: _, h, _ => h.elim
  | _ :: _, [], h, _ => h.elim
  | ex :: es, e :: xs, h, hp => by
    have hp' : plainX e = true ∧ plainXs xs = true := by simpa [plainXs] using hp
    exact w_cons h.1 (pa_ws h.2.2 hp'.2) hp'.1
theorem pes_len {C : Ctx} : ∀ {es : List Ex} {xs : List Expr}, PEs X C es xs → es.length = xs.length
  | [], [], _ => rfl
  | [], _ :: _, h => h.elim
  | _ :: _, [], h => h.elim
  | ex :: es, e :: xs, h => by rw [List.length_cons, List.length_cons, pes_len h.2.2]
theorem both {C : Ctx} {ex : Ex} {e : Expr} (h : PE X e (tE X.K C ex)) (hp : isTest e = false) : PE X e (tE X.K C ex) ∧ PT X e (tB X.K C ex) := ⟨h, t_val h hp⟩
end
section
variable {X : Cx} {sc : Scope}
theorem t_neg {C : Ctx} {xa : Ex} {e : Expr} : PT X e (tB X.K C (.neg xa)) := ⟨fun pins s σ H Q I h => by
  obtain ⟨δ, M, ι, b, M', l, s, e, q⟩ := h
  unfold ev at e
  split at e <;> cases e⟩
theorem t_ite {C : Ctx} {xc xa xb : Ex} {c a b : Expr} {pos : Pos} (hc : PT X c (tB X.K C xc)) (ha : PT X a (tB X.K C xa)) (hb : PT X b (tB X.K C xb)) : PT X (.IfExp c a b pos) (tB X.K C (.ite xc xa xb)) := ⟨fun pins s σ H Q I h => by
  obtain ⟨δ, M, ι, b, M', l, sk, e, q⟩ := h
  unfold ev at e
  split at e
  · rename_i M1 e1
    refine isTrue_IfExp (thn (hc.run pins s σ H (fun c H1 => c = true ∧ tB X.K C xa σ H1 Q) I ⟨δ, M, ι, true, M1, l, sk, e1, fun H1 ι1 a1 s1 => ⟨rfl, δ, M1, ι1, b, M', l.aft sk a1, s1, e, fun H' ι' a' s' => q H' ι' (a1.trans a') s'⟩⟩) fun d s1 ⟨H1, I1, hd, q1⟩ => ?_)
    subst hd
    exact ha.run pins s1 σ H1 Q I1 q1
  · rename_i M1 e1
    refine isTrue_IfExp (thn (hc.run pins s σ H (fun c H1 => c = false ∧ tB X.K C xb σ H1 Q) I ⟨δ, M, ι, false, M1, l, sk, e1, fun H1 ι1 a1 s1 => ⟨rfl, δ, M1, ι1, b, M', l.aft sk a1, s1, e, fun H' ι' a' s' => q H' ι' (a1.trans a') s'⟩⟩) fun d s1 ⟨H1, I1, hd, q1⟩ => ?_)
    subst hd
    exact hb.run pins s1 σ H1 Q I1 q1
  · cases e⟩
theorem one_of {C : Ctx} {es : List Ex} {xs : List Expr} (h : PEs X C es xs) (hl : es.length = 1) : ∃ ex e, es = [ex] ∧ xs = [e] := by
  have h2 := pes_len h
  match es, xs, hl, h2 with
  | [a], [b], _, _ => exact ⟨a, b, rfl, rfl⟩
theorem two_of {C : Ctx} {es : List Ex} {xs : List Expr} (h : PEs X C es xs) (hl : es.length = 2) : ∃ ex ex2 e e2, es = [ex, ex2] ∧ xs = [e, e2] := by
  have h2 := pes_len h
  match es, xs, hl, h2 with
  | [a, c], [b, d], _, _ => exact ⟨a, c, b, d, rfl, rfl⟩
theorem pl1 {a : Expr} (h : plainXs [a] = true) : plainX a = true := by simpa [plainXs] using h
theorem pl2 {a b : Expr} (h : plainXs [a, b] = true) : plainX a = true ∧ plainX b = true := by simpa [plainXs] using h
theorem tp_of {e : Expr} (h : isTp e = true) : ∃ el k p, e = .Tuple el k p := by
  cases e with
  | Tuple el k p => exact ⟨el, k, p, rfl⟩
  | _ => cases h
theorem it_of (G : GOk g n) (x : XOk g n N X sc) {k : IK} {its : List Ex} {i t : Expr} (IH : ∀ {xs : List Expr}, chkEs N sc its xs = true → PEs X (g.C n) its xs ∧ plainXs xs = true) (h : chkIt sc k its (chkEs N sc its) i t = true) : plainX i = true ∧ PI X t i (tI X.K (g.C n) k its) := by
  have call : ∀ {f : Expr} {xs : List Expr} {q : Pos}, plainX (.Call f xs [] q) = true := rfl
  cases k with
  | seq =>
    unfold chkIt at h
    simp only [Bool.and_eq_true, decide_eq_true_eq] at h
    obtain ⟨h5, h6⟩ := IH h.1
    obtain ⟨ex, e', rfl, h7⟩ := one_of h5 h.2
    exact ⟨pl1 h6, pi_seq h5.1⟩
  | rng1 =>
    unfold chkIt at h; simp only at h; split at h <;> first | (cases h; done) | skip
    rename_i f p xs pos
    simp only [Bool.and_eq_true, beq_iff_eq, decide_eq_true_eq] at h
    obtain ⟨⟨⟨⟨rfl, h1⟩, h2⟩, h3⟩, h4⟩ := h
    obtain ⟨h5, h6⟩ := IH h3
    obtain ⟨ex, e', rfl, rfl⟩ := one_of h5 h4
    exact ⟨rfl, pi_rng1 G x h1 (pl1 h6) (pa_ws h5 h6)⟩
  | rng2 =>
    unfold chkIt at h; simp only at h; split at h <;> first | (cases h; done) | skip
    rename_i f p xs pos
    simp only [Bool.and_eq_true, beq_iff_eq, decide_eq_true_eq] at h
    obtain ⟨⟨⟨⟨rfl, h1⟩, h2⟩, h3⟩, h4⟩ := h
    obtain ⟨h5, h6⟩ := IH h3
    obtain ⟨ex, ex2, e', e2', rfl, rfl⟩ := two_of h5 h4
    exact ⟨rfl, pi_rng2 G x h1 (pl2 h6).1 (pl2 h6).2 (pa_ws h5 h6)⟩
  | rng3 => unfold chkIt at h; cases h
  | enum =>
    unfold chkIt at h; simp only at h; split at h <;> first | (cases h; done) | skip
    rename_i f p xs pos
    simp only [Bool.and_eq_true, beq_iff_eq, decide_eq_true_eq] at h
    obtain ⟨⟨⟨⟨⟨rfl, h1⟩, h2⟩, h3⟩, h4⟩, h7⟩ := h
    obtain ⟨h5, h6⟩ := IH h3
    obtain ⟨ex, e', rfl, rfl⟩ := one_of h5 h4
    obtain ⟨el, kk, tp, rfl⟩ := tp_of h7
    exact ⟨rfl, pi_enumW G x h1 (pl1 h6) (pa_ws h5 h6)⟩
  | zip =>
    unfold chkIt at h; simp only at h; split at h <;> first | (cases h; done) | skip
    rename_i f p xs pos
    simp only [Bool.and_eq_true, beq_iff_eq, decide_eq_true_eq] at h
    obtain ⟨⟨⟨⟨⟨rfl, h1⟩, h2⟩, h3⟩, h4⟩, h7⟩ := h
    obtain ⟨h5, h6⟩ := IH h3
    obtain ⟨ex, ex2, e', e2', rfl, rfl⟩ := two_of h5 h4
    obtain ⟨el, kk, tp, rfl⟩ := tp_of h7
    exact ⟨rfl, pi_zipW G x h1 (pl2 h6).1 (pl2 h6).2 (pa_ws h5 h6)⟩
  | rev =>
    unfold chkIt at h; simp only at h; split at h <;> first | (cases h; done) | skip
    rename_i f p xs pos
    simp only [Bool.and_eq_true, beq_iff_eq, decide_eq_true_eq] at h
    obtain ⟨⟨⟨⟨rfl, h1⟩, h2⟩, h3⟩, h4⟩ := h
    obtain ⟨h5, h6⟩ := IH h3
    obtain ⟨ex, e', rfl, rfl⟩ := one_of h5 h4
    exact ⟨rfl, pi_revW G x h1 (pl1 h6) h5.1⟩
theorem c_of (x : XOk g n N X sc) (G : GOk g n) {mu : Bool} {own : List Nat} {elt : Ex} {tg : Tg} {k : IK} {its conds : List Ex} {e : Expr} (h : chkE N sc (.comp mu own elt tg k its conds) e = true)
    (I1 : ∀ {X : Cx} {sc : Scope} {e : Expr}, XOk g n N X sc → chkE N sc elt e = true → PE X e (tE X.K (g.C n) elt) ∧ PT X e (tB X.K (g.C n) elt))
    (I2 : ∀ {X : Cx} {sc : Scope} {xs : List Expr}, XOk g n N X sc → chkEs N sc its xs = true → PEs X (g.C n) its xs ∧ plainXs xs = true)
    (I3 : ∀ {X : Cx} {sc : Scope} {xs : List Expr}, XOk g n N X sc → chkEs N sc conds xs = true → PEs X (g.C n) conds xs ∧ plainXs xs = true) :
    ∃ y t i cs scope pos, e = .ListComp y [⟨t, i, cs, 0⟩] scope pos ∧ ∃ tl : TE, PE X (.ListComp y [⟨t, i, cs, 0⟩] scope pos) (fun σ H Q => tl σ H (fzv Q)) ∧
      (∀ {i' : Nat} {z : Str} {py : Pos} {spos : Pos}, X.N[i']? = some z → X.env.scope.names.lookup z = some .local → (py.line == pos.line) = true → (scope.names.any fun (n, k) => n == z && (k == .local || k == .cell)) = false → isFun X.env.scope = true →
        PS X (.Assign [.Name z py] (.ListComp y [⟨t, i, cs, 0⟩] scope pos) spos) (fun D σ H => tl σ H (fzv fun v H1 => D.nx (σ.set i' (some v)) H1))) ∧
      ∀ σ H Q, tE X.K (g.C n) (.comp mu own elt tg k its conds) σ H Q → tl σ H (fzv Q) := by
  unfold chkE at h
  split at h
  · rename_i y t i cs scope pos
    simp only [Bool.and_eq_true, decide_eq_true_eq] at h
    obtain ⟨⟨⟨⟨⟨h1, h2⟩, h3⟩, h4⟩, h5⟩, h6⟩ := h
    obtain ⟨hp, hi⟩ := it_of G x (fun h => I2 x h) h3
    refine ⟨y, t, i, cs, scope, pos, rfl, s_comp x h1 hp hi (tg_blk (s := X.s_0) (H := X.H_0) (Ca := 0) (cl := []) (fp := []) x h2).2 (fun s H Ca cl fp => ?_) (fun s H Ca cl fp => ?_) (fun s H Ca cl fp => (I1 (x.blk s H scope Ca cl fp) h6).1)⟩
    · have b := x.blk s H scope Ca cl fp
      exact pg_of b.calm (by rw [b.nm]; exact b.nd) (tg_blk x h2).1
    · have b := x.blk s H scope Ca cl fp
      obtain ⟨h7, _⟩ := I3 b h4
      cases conds with
      | nil =>
        cases cs with
        | nil => exact pts_0
        | cons _ _ => exact h7.elim
      | cons cd r =>
        cases r with
        | cons _ _ => simp at h5
        | nil =>
          cases cs with
          | nil => exact h7.elim
          | cons c r => cases r with
            | nil => exact pts_1 h7.2.1
            | cons _ _ => exact h7.2.2.elim
  · cases h
end
mutual
theorem s_all (G : GOk g n) : ∀ (ex : Ex) {X : Cx} {sc : Scope} {e : Expr}, XOk g n N X sc → chkE N sc ex e = true → PE X e (tE X.K (g.C n) ex) ∧ PT X e (tB X.K (g.C n) ex)
  | .var i, X, sc, e, x, h => by
    unfold chkE at h; split at h
    · simp only [Bool.and_eq_true, decide_eq_true_eq] at h
      exact both (s_var x h.1.1 h.1.2 h.2) rfl
    · cases h
  | .frz i, X, sc, e, x, h => by
    unfold chkE at h; split at h
    · simp only [Bool.and_eq_true, decide_eq_true_eq] at h
      exact both (s_frz x h.1.1 h.1.2 h.2) rfl
    · cases h
  | .cst d, X, sc, e, x, h => by
    unfold chkE at h; split at h
    · exact both (s_cst h) rfl
    · cases h
  | .glb z, X, sc, e, x, h => by
    unfold chkE at h; split at h
    · simp only [Bool.and_eq_true, beq_iff_eq] at h
      obtain ⟨⟨rfl, h2⟩, h3⟩ := h
      exact both (s_glb G x h2 h3) rfl
    · cases h
  | .tup es, X, sc, e, x, h => by
    unfold chkE at h; split at h
    · simp only [Bool.and_eq_true, decide_eq_true_eq] at h
      obtain ⟨h1, h2⟩ := s_alls G es x h.1
      exact both (s_tup (pa_es h1 h2) h.2) rfl
    · cases h
  | .lst mu es, X, sc, e, x, h => by
    unfold chkE at h; split at h
    · simp only [Bool.and_eq_true, decide_eq_true_eq] at h
      obtain ⟨h1, h2⟩ := s_alls G es x h.1
      exact both (s_lst (pa_es h1 h2) h.2) rfl
    · cases h
  | .mkl mu a, X, sc, e, x, h => by
    unfold chkE at h; split at h
    · simp only [Bool.and_eq_true, beq_iff_eq] at h
      obtain ⟨⟨⟨rfl, h2⟩, h3⟩, h4⟩ := h
      exact both (s_mkl G x h2 (chk_plain h4) (s_all G a x h4).1) rfl
    · cases h
  | .ix a b, X, sc, e, x, h => by
    unfold chkE at h; split at h
    · simp only [Bool.and_eq_true] at h
      exact both (s_ix x.u1 (chk_plain h.2) (s_all G a x h.1).1 (s_all G b x h.2).1) rfl
    · cases h
  | .slc mu a lo hi, X, sc, e, x, h => by
    unfold chkE at h; split at h
    · simp only [Bool.and_eq_true] at h
      obtain ⟨⟨h1, h2⟩, h3⟩ := h
      refine both (s_slc (s_all G a x h1).1 ?_ ?_) rfl
      · split at h2
        · exact h2
        · simp only [Bool.and_eq_true, Bool.not_eq_true'] at h2
          exact ⟨h2.1, (s_all G lo x h2.2).1⟩
      · split at h3
        · exact h3
        · simp only [Bool.and_eq_true, Bool.not_eq_true'] at h3
          exact ⟨h3.1, (s_all G hi x h3.2).1⟩
    · cases h
  | .nop, X, sc, e, x, h => by unfold chkE at h; cases h
  | .bin o a b, X, sc, e, x, h => by
    unfold chkE at h; split at h
    · simp only [Bool.and_eq_true] at h
      exact both (s_bin h.1.1 (s_all G a x h.1.2).1 (s_all G b x h.2).1) rfl
    · cases h
  | .cat mu a b, X, sc, e, x, h => by
    unfold chkE at h; split at h
    · simp only [Bool.and_eq_true] at h
      exact both (s_cat (s_all G a x h.1).1 (s_all G b x h.2).1) rfl
    · cases h
  | .neg a, X, sc, e, x, h => by
    unfold chkE at h; split at h
    · exact ⟨s_neg (s_all G a x h).1, t_neg⟩
    · cases h
  | .cmp o a b, X, sc, e, x, h => by
    unfold chkE at h; split at h
    · simp only [Bool.and_eq_true] at h
      have ha := (s_all G a x h.1.2).1
      have hb := (s_all G b x h.2).1
      exact ⟨s_cmp x.u190 h.1.1 (chk_plain h.2) ha hb, t_cmp x.u190 h.1.1 (chk_plain h.2) ha hb⟩
    · cases h
  | .chn o1 o2 a b c, X, sc, e, x, h => by
    unfold chkE at h; split at h
    · simp only [Bool.and_eq_true] at h
      obtain ⟨⟨⟨⟨h1, h2⟩, h3⟩, h4⟩, h5⟩ := h
      have ha := (s_all G a x h3).1
      have hb := (s_all G b x h4).1
      have hc := (s_all G c x h5).1
      exact ⟨s_chn x.u190 h1 h2 (chk_plain h4) (chk_plain h5) ha hb hc, t_chn x.u190 h1 h2 (chk_plain h4) (chk_plain h5) ha hb hc⟩
    · cases h
  | .nt a, X, sc, e, x, h => by
    unfold chkE at h; split at h
    · obtain ⟨h1, h2⟩ := s_all G a x h
      exact ⟨s_nt h1, t_nt h2⟩
    · cases h
  | .an es, X, sc, e, x, h => by
    unfold chkE at h; split at h
    · simp only [Bool.and_eq_true, Bool.not_eq_true', List.isEmpty_eq_false_iff] at h
      obtain ⟨h1, h2⟩ := s_alls G es x h.1
      exact ⟨s_an (op := ()) h1 h.2, (w_an (op := ()) h1 h.2).pt⟩
    · cases h
  | .orr es, X, sc, e, x, h => by
    unfold chkE at h; split at h
    · simp only [Bool.and_eq_true, Bool.not_eq_true', List.isEmpty_eq_false_iff] at h
      obtain ⟨h1, h2⟩ := s_alls G es x h.1
      exact ⟨s_or (op := ()) h1 h.2, (w_or (op := ()) h1 h.2).pt⟩
    · cases h
  | .ite c a b, X, sc, e, x, h => by
    unfold chkE at h; split at h
    · simp only [Bool.and_eq_true] at h
      exact ⟨s_ite (s_all G c x h.1.1).2 (s_all G a x h.1.2).1 (s_all G b x h.2).1, t_ite (s_all G c x h.1.1).2 (s_all G a x h.1.2).2 (s_all G b x h.2).2⟩
    · cases h
  | .call f es, X, sc, e, x, h => by
    unfold chkE at h; split at h
    · simp only [Bool.and_eq_true, beq_iff_eq] at h
      obtain ⟨⟨⟨rfl, h2⟩, h3⟩, h4⟩ := h
      obtain ⟨h5, h6⟩ := s_alls G es x h4
      exact both (s_call G x h2 h3 h6 (pes_len h5) (pa_ws h5 h6)) rfl
    · cases h
  | .bi f es, X, sc, e, x, h => by
    unfold chkE at h; split at h
    · simp only [Bool.and_eq_true, beq_iff_eq, Bool.not_eq_true', List.isEmpty_eq_false_iff] at h
      obtain ⟨⟨⟨⟨⟨h0, rfl⟩, h2⟩, h3⟩, h4⟩, h5⟩ := h
      obtain ⟨h6, h7⟩ := s_alls G es x h4
      refine both (s_bi G x h0 h2 h3 h7 (fun z => ?_) (pa_ws h6 h7)) rfl
      subst z
      have := pes_len h6
      cases es with
      | nil => exact h5 rfl
      | cons _ _ => cases this
    · cases h
  | .isi a t, X, sc, e, x, h => by
    unfold chkE at h; split at h
    · simp only [Bool.and_eq_true, beq_iff_eq] at h
      obtain ⟨⟨⟨⟨⟨⟨rfl, h1⟩, h2⟩, h3⟩, rfl⟩, h4⟩, h5⟩ := h
      exact both (s_isi G x h1 h4 h5 (chk_plain h3) (s_all G a x h3).1) rfl
    · cases h
  | .srt f a, X, sc, e, x, h => by unfold chkE at h; cases h
  | .join a b, X, sc, e, x, h => by
    unfold chkE at h; split at h
    · simp only [Bool.and_eq_true, beq_iff_eq] at h
      obtain ⟨⟨⟨⟨rfl, h1⟩, h2⟩, h3⟩, h4⟩ := h
      exact both (s_join h2 (chk_plain h4) (by simpa using h1) (s_all G a x h3).1 (s_all G b x h4).1) rfl
    · cases h
  | .repl a b c, X, sc, e, x, h => by unfold chkE at h; cases h
  | .dget a b c, X, sc, e, x, h => by
    unfold chkE at h; split at h
    · simp only [Bool.and_eq_true, beq_iff_eq] at h
      obtain ⟨⟨⟨⟨⟨rfl, h1⟩, h2⟩, h3⟩, h4⟩, h5⟩ := h
      exact both (s_dget x.u1 h2 (chk_plain h4) (chk_plain h5) (by simpa using h1) (s_all G a x h3).1 (s_all G b x h4).1 (s_all G c x h5).1) rfl
    · cases h
  | .dicd _, X, sc, e, x, h => by unfold chkE at h; cases h
  | .dicc _ _ _ _ _, X, sc, e, x, h => by unfold chkE at h; cases h
  | .mdic, X, sc, e, x, h => by
    unfold chkE at h; split at h
    · exact both s_mdic rfl
    · cases h
  | .app a b, X, sc, e, x, h => by
    unfold chkE at h; split at h
    · simp only [Bool.and_eq_true, beq_iff_eq] at h
      obtain ⟨⟨⟨⟨rfl, h1⟩, h2⟩, h3⟩, h4⟩ := h
      exact both (s_app h2 (chk_plain h4) (by simpa using h1) (s_all G a x h3).1 (s_all G b x h4).1) rfl
    · cases h
  | .ext a b, X, sc, e, x, h => by
    unfold chkE at h; split at h
    · simp only [Bool.and_eq_true, beq_iff_eq] at h
      obtain ⟨⟨⟨⟨rfl, h1⟩, h2⟩, h3⟩, h4⟩ := h
      exact both (s_ext h2 (chk_plain h4) (by simpa using h1) (s_all G a x h3).1 (s_all G b x h4).1) rfl
    · cases h
  | .pop a, X, sc, e, x, h => by
    unfold chkE at h; split at h
    · simp only [Bool.and_eq_true, beq_iff_eq] at h
      obtain ⟨⟨⟨rfl, h1⟩, h2⟩, h3⟩ := h
      exact both (s_pop h2 (by simpa using h1) (s_all G a x h3).1) rfl
    · cases h
  | .comp mu own elt tg k its conds, X, sc, e, x, h => by
    obtain ⟨y, t, i, cs, scope, pos, rfl, tl, h1, _, h3⟩ := c_of x G h (fun x h => s_all G elt x h) (fun x h => s_alls G its x h) (fun x h => s_alls G conds x h)
    exact both (pe_of h1 h3) rfl
theorem s_alls (G : GOk g n) : ∀ (es : List Ex) {X : Cx} {sc : Scope} {xs : List Expr}, XOk g n N X sc → chkEs N sc es xs = true → PEs X (g.C n) es xs ∧ plainXs xs = true
  | [], X, sc, xs, x, h => by
    cases xs with
    | nil => exact ⟨True.intro, rfl⟩
    | cons _ _ => unfold chkEs at h; cases h
  | ex :: es, X, sc, xs, x, h => by
    cases xs with
    | nil => unfold chkEs at h; cases h
    | cons e xs =>
      unfold chkEs at h
      simp only [Bool.and_eq_true] at h
      obtain ⟨h1, h2⟩ := s_all G ex x h.1
      obtain ⟨h3, h4⟩ := s_alls G es x h.2
      exact ⟨⟨h1, h2, h3⟩, by simp only [plainXs, List.all_cons, Bool.and_eq_true]; exact ⟨chk_plain h.1, h4⟩⟩
end
section
variable {X : Cx} {sc : Scope}
theorem sto_fn (x : XOk g n N X sc) (hf : ∀ y, X.fn y = true) {i : Nat} {e : Expr} (h : chkNm N sc i e = true) : Sto1 X i e := by
  unfold chkNm at h
  split at h
  · rename_i y pos
    simp only [Bool.and_eq_true, decide_eq_true_eq] at h
    exact ⟨y, pos, rfl, by rw [x.nm]; exact h.1, by rw [x.sc]; exact loc_of h.2, .inl (hf y)⟩
  · cases h
theorem stos_fn (x : XOk g n N X sc) (hf : ∀ y, X.fn y = true) : ∀ {is : List Nat} {es : List Expr}, chkNms N sc is es = true → Stos X is es
  | [], [], _ => True.intro
  | [], _ :: _, h => by cases h
  | _ :: _, [], h => by cases h
  | i :: is, e :: es, h => by
    unfold chkNms at h
    simp only [Bool.and_eq_true] at h
    exact ⟨sto_fn x hf h.1, stos_fn x hf h.2⟩
theorem tg_fn (x : XOk g n N X sc) (hf : ∀ y, X.fn y = true) {tg : Tg} {e : Expr} (h : chkTg N sc tg e = true) : TgOk X tg e := by
  cases tg with
  | nm i => exact sto_fn x hf h
  | tp is =>
    cases e with
    | Tuple es k pos => exact stos_fn x hf h
    | _ => cases h
/-- name = value -/
theorem s_asgAll (G : GOk g n) (x : XOk g n N X sc) (hf : ∀ y, X.fn y = true) (hk : isFun sc = true) {i : Nat} {y : Str} {ex : Ex} {e : Expr} {p pos : Pos} (hN : N[i]? = some y) (hl : isLoc sc y = true) (h : chkE N sc ex e = true) :
    PS X (.Assign [.Name y p] e pos) (tS X.K (g.C n) (.asg i ex)) := by
  by_cases hc : noCmp e = true
  · exact s_asg x hN hl (.inl (hf y)) (s_all G ex x h).1 (sw_plain hc)
  · by_cases hc2 : ∃ mu own elt tg k its conds, ex = .comp mu own elt tg k its conds
    · obtain ⟨mu, own, elt, tg, k, its, conds, rfl⟩ := hc2
      obtain ⟨z, t, it, cs, scope, cp, rfl, tl, h1, h2, h3⟩ := c_of x G h (fun x h => s_all G elt x h) (fun x h => s_alls G its x h) (fun x h => s_alls G conds x h)
      by_cases hs : X.env.scope.names.lookup y = some .local ∧ (p.line == cp.line) = true ∧ (scope.names.any fun (n, k) => n == y && (k == .local || k == .cell)) = false
      · refine ps_of (h2 (i' := i) (by rw [x.nm]; exact hN) hs.1 hs.2.1 hs.2.2 (by rw [x.sc]; exact hk)) fun D σ H q => h3 σ H _ (asg_run q)
      · refine s_asg x hN hl (.inl (hf y)) (s_all G (.comp mu own elt tg k its conds) x h).1 ?_
        have hb : (X.env.blockKind == .function && X.env.kindOf y == some .local && p.line == cp.line && !(scope.names.any fun (n, k) => n == y && (k == .local || k == .cell))) = false := by
          rw [Bool.eq_false_iff]
          intro hh
          simp only [Bool.and_eq_true, Bool.not_eq_true', beq_iff_eq] at hh
          exact hs ⟨hh.1.1.2, by rw [beq_iff_eq]; exact hh.1.2, hh.2⟩
        show (pure (X.env.blockKind == .function && X.env.kindOf y == some .local && p.line == cp.line && !(scope.names.any fun (n, k) => n == y && (k == .local || k == .cell))) : Sem Bool) = pure false
        rw [hb]
    · exfalso
      cases e <;> first | exact hc rfl | skip
      all_goals cases ex <;> unfold chkE at h <;> first | (cases h; done) | (simp at h; done) | skip
      exact hc2 ⟨_, _, _, _, _, _, _, rfl⟩
end
mutual
theorem s_st (G : GOk g n) : ∀ (st : Stm) {X : Cx} {sc : Scope} {s : Stmt}, XOk g n N X sc → (∀ y, X.fn y = true) → isFun sc = true → chkS N sc st s = true → PS X s (tS X.K (g.C n) st)
  | .asg i ex, X, sc, s, x, hf, hk, h => by
    unfold chkS at h; split at h <;> first | (cases h; done) | (exfalso; simp_all; done) | skip
    rename_i e2
    cases e2
    simp only [Bool.and_eq_true, decide_eq_true_eq] at h
    exact s_asgAll G x hf hk h.1.1.1 h.1.1.2 h.2
  | .unp is ex, X, sc, s, x, hf, hk, h => by
    unfold chkS at h; split at h <;> first | (cases h; done) | (exfalso; simp_all; done) | skip
    rename_i e2
    cases e2
    simp only [Bool.and_eq_true, Bool.not_eq_true'] at h
    exact s_unp x (stos_fn x hf h.1.1) (s_all G ex x h.1.2).1 h.2
  | .setix a b ex, X, sc, s, x, hf, hk, h => by
    unfold chkS at h; split at h <;> first | (cases h; done) | (exfalso; simp_all; done) | skip
    rename_i e2
    cases e2
    simp only [Bool.and_eq_true] at h
    exact s_setix x (chk_plain h.1.2) (s_all G a x h.1.1).1 (s_all G b x h.1.2).1 (s_all G ex x h.2).1
  | .ex ex, X, sc, s, x, hf, hk, h => by
    unfold chkS at h; split at h <;> first | (cases h; done) | (exfalso; simp_all; done) | skip
    rename_i e2
    cases e2
    simp only [Bool.and_eq_true] at h
    exact s_ex (s_all G ex x h.1).1 (sw_plain h.2)
  | .ret ex, X, sc, s, x, hf, hk, h => by
    unfold chkS at h; split at h <;> first | (cases h; done) | (exfalso; simp_all; done) | skip
    rename_i e2
    cases e2
    exact s_ret (s_all G ex x h).1
  | .ifs c a b, X, sc, s, x, hf, hk, h => by
    unfold chkS at h; split at h <;> first | (cases h; done) | (exfalso; simp_all; done) | skip
    rename_i e2
    cases e2
    simp only [Bool.and_eq_true] at h
    exact s_if (s_all G c x h.1.1).2 (s_sts G a x hf hk h.1.2) (s_sts G b x hf hk h.2)
  | .fr tg k its b, X, sc, s, x, hf, hk, h => by
    unfold chkS at h; split at h <;> first | (cases h; done) | (exfalso; simp_all; done) | skip
    rename_i e2
    cases e2
    simp only [Bool.and_eq_true] at h
    obtain ⟨hp, hi⟩ := it_of G x (fun h => s_alls G its x h) h.1.2
    exact s_for x hp hi (tg_fn x hf h.1.1) (s_sts G b x hf hk h.2)
  | .whl c b, X, sc, s, x, hf, hk, h => by
    unfold chkS at h; split at h <;> first | (cases h; done) | (exfalso; simp_all; done) | skip
    rename_i e2
    cases e2
    simp only [Bool.and_eq_true] at h
    exact s_while x (s_all G c x h.1).2 (s_sts G b x hf hk h.2)
theorem s_sts (G : GOk g n) : ∀ (st : List Stm) {X : Cx} {sc : Scope} {s : List Stmt}, XOk g n N X sc → (∀ y, X.fn y = true) → isFun sc = true → chkSs N sc st s = true → PSs X s (tSs X.K (g.C n) st)
  | [], X, sc, ss, x, hf, hk, h => by
    cases ss with
    | nil => exact ss_nil
    | cons _ _ => unfold chkSs at h; cases h
  | st :: r, X, sc, ss, x, hf, hk, h => by
    cases ss with
    | nil => unfold chkSs at h; cases h
    | cons s ss =>
      unfold chkSs at h
      simp only [Bool.and_eq_true] at h
      exact ss_cons (s_st G st x hf hk h.1) (s_sts G r x hf hk h.2)
end
end
end Pv

/-! PvFun: defs, all calls, the law's end. -/
namespace Pv
open PySem L2 PyProof.Rows
section
variable {K : PySem.W.Frag} {H H' : Hp} {M M1 M' : Sto} {ι ι' : List Addr}
theorem cutSt (s : SOk K H M ι) (a : Aft H M ι H' M1 ι') (s' : SOk K H' M1 ι') : Aft H M ι H' (M1.take M.length) ι ∧ SOk K H' (M1.take M.length) ι := by
  obtain ⟨t, rfl⟩ := a.ext
  have hl := s.len
  have hl' := s'.len
  rw [List.length_append] at hl'
  have back : ∀ (k : Nat) (o : MO) (x : Addr), (M1.take M.length)[k]? = some o → ι[k]? = some x → M1[k]? = some o ∧ (ι ++ t)[k]? = some x := fun k o x h1 h2 => by
    have hk : k < ι.length := (List.getElem?_eq_some_iff.mp h2).1
    rw [List.getElem?_take_of_lt (by omega)] at h1
    exact ⟨h1, by rw [List.getElem?_append_left hk]; exact h2⟩
  refine ⟨⟨⟨[], by simp⟩, a.fr, fun x ⟨k, o, h1, h2, h3⟩ => ?_, fun x h => .inl h⟩, ⟨?_, (List.nodup_append.mp s'.nd).1, fun k o x h1 h2 => ?_, fun x h => s'.tr x (List.mem_append_left _ h)⟩⟩
  · obtain ⟨q1, q2⟩ := back k o x h1 h3
    exact a.lv x ⟨k, o, q1, h2, q2⟩
  · rw [List.length_take]; omega
  · obtain ⟨q1, q2⟩ := back k o x h1 h2
    exact s'.mo k o x q1 q2
theorem pushSt {o : MO} {k : Nat} {x : Addr} (s : SOk K H M ι) (a : Aft H M ι H' M1 ι') (s' : SOk K H' M1 ι') (hk : ¬ k < M.length) (h1 : M1[k]? = some o) (hlv : live o = true) (h2 : ι'[k]? = some x) : Aft H M ι H' (M1.take M.length ++ [o]) (ι ++ [x]) ∧ SOk K H' (M1.take M.length ++ [o]) (ι ++ [x]) ∧ (ι ++ [x])[M.length]? = some x := by
  obtain ⟨a2, s2⟩ := cutSt s a s'
  have hl := s.len
  have l2 := s2.len
  have hx : x ∉ ι := fun z => by
    obtain ⟨j, hj, e⟩ := List.mem_iff_getElem.mp z
    obtain ⟨t, rfl⟩ := a.ext
    have e2 : (ι ++ t)[j]? = some x := by rw [List.getElem?_append_left hj, List.getElem?_eq_getElem hj, e]
    have := nodup_inj s'.nd h2 e2
    omega
  have hx2 : x ∈ ι' := List.mem_of_getElem? h2
  have split : ∀ (j : Nat) (u : MO) (y : Addr), (M1.take M.length ++ [o])[j]? = some u → (ι ++ [x])[j]? = some y → ((M1.take M.length)[j]? = some u ∧ ι[j]? = some y) ∨ (u = o ∧ y = x) := fun j u y q1 q2 => by
    by_cases hj : j < ι.length
    · rw [List.getElem?_append_left (by omega)] at q1
      rw [List.getElem?_append_left hj] at q2
      exact .inl ⟨q1, q2⟩
    · rw [List.getElem?_append_right (by omega)] at q1 q2
      have e1 := List.mem_of_getElem? q1
      have e2 := List.mem_of_getElem? q2
      simp at e1 e2
      exact .inr ⟨e1, e2⟩
  refine ⟨⟨⟨[x], rfl⟩, a2.fr, fun y ⟨j, u, q1, q2, q3⟩ => ?_, fun y h => ?_⟩, ⟨?_, ?_, fun j u y q1 q2 => ?_, fun y h => ?_⟩, ?_⟩
  · rcases split j u y q1 q3 with ⟨p1, p2⟩ | ⟨rfl, rfl⟩
    · exact a2.lv y ⟨j, u, p1, q2, p2⟩
    · exact a.lv y ⟨k, u, h1, hlv, h2⟩
  · rcases List.mem_append.mp h with z | z
    · exact .inl z
    · simp at z; subst z; exact a.nw y hx2
  · simp only [List.length_append, List.length_cons, List.length_nil]; omega
  · rw [List.nodup_append]
    exact ⟨s.nd, by simp, fun a ha b hb => by rintro rfl; simp at hb; subst hb; exact hx ha⟩
  · rcases split j u y q1 q2 with ⟨p1, p2⟩ | ⟨rfl, rfl⟩
    · exact s2.mo j u y p1 p2
    · exact s'.mo k u y h1 h2
  · rcases List.mem_append.mp h with z | z
    · exact s2.tr y z
    · simp at z; subst z; exact s'.tr y hx2
  · rw [List.getElem?_append_right (by omega), ← hl]
    simp
theorem ret_ok {w1 w : W} {v : V} (s : SOk K H M ι) (a : Aft H M ι H' M1 ι') (s' : SOk K H' M1 ι') (r : RepW K H' ι' w1 v) (e : retE M.length w1 M1 = some (w, M')) :
    ∃ ι2, Aft H M ι H' M' ι2 ∧ SOk K H' M' ι2 ∧ RepW K H' ι2 w v := by
  obtain ⟨a2, s2⟩ := cutSt s a s'
  cases w1 with
  | d x =>
    cases e
    exact ⟨ι, a2, s2, r⟩
  | m k =>
    obtain ⟨x, h1, rfl⟩ := r
    unfold retE at e
    simp only at e
    by_cases hk : k < M.length
    · rw [if_pos hk] at e
      cases e
      obtain ⟨t, rfl⟩ := a.ext
      have hl := s.len
      exact ⟨ι, a2, s2, x, by rw [List.getElem?_append_left (by omega)] at h1; exact h1, rfl⟩
    · rw [if_neg hk] at e
      split at e
      · rename_i xs q
        cases e
        obtain ⟨p1, p2, p3⟩ := pushSt s a s' hk q rfl h1
        exact ⟨_, p1, p2, x, p3, rfl⟩
      · rename_i xs q
        cases e
        obtain ⟨p1, p2, p3⟩ := pushSt s a s' hk q rfl h1
        exact ⟨_, p1, p2, x, p3, rfl⟩
      · cases e
end
section
variable {g : GP} {n : Nat}
theorem repws_start {K : PySem.W.Frag} {H : Hp} {ι : List Addr} : ∀ {ws : List W} {vs : List V}, RepWs K H ι ws vs → ∀ (k : Nat), LOk K H ι (ws.map some ++ List.replicate k none) (vs.map some ++ List.replicate k none) := fun {ws vs} h k => by
  refine ⟨by simp [h.len], fun i w q => ?_⟩
  have : ∀ {ws : List W} {vs : List V}, RepWs K H ι ws vs → ∀ i : Nat, (ws.map some ++ List.replicate k none)[i]? = some (some w) → ∃ v, (vs.map some ++ List.replicate k none)[i]? = some (some v) ∧ RepW K H ι w v := by
    intro ws
    induction ws with
    | nil =>
      intro vs h i q
      simp only [List.map_nil, List.nil_append] at q
      have := List.mem_of_getElem? q
      simp at this
    | cons u ws ih =>
      intro vs h i q
      obtain ⟨v, vs', rfl, r, h⟩ := h
      cases i with
      | zero => simp at q; subst q; exact ⟨v, by simp, r⟩
      | succ i => exact ih h i (by simpa using q)
  exact this h i q
theorem fn_ok (G : GOk g n) {f : String} {fn : Fn} (hf : g.pr.fn f = some fn) {st : Stmt} {a : Addr} {fd : FuncData} {N ps : List Str} (F : Fun g.K (S f) (S f) st a fd) (Sc : FnScope N ps (defScope st)) (hnp : ps.length = fn.np) (hns : N.length = fn.ns)
    (chk : chkSs N (defScope st) fn.body (defBody st) = true) : FnOk g.P g.w g.K g.mg g.base CX0 (n + 1) a fd ps (spOf g (n + 1) f) := by
  have np : ∀ {ws : List W} {M : Sto} {r : W × Sto}, callF g.pr (n + 1) f ws M = some r → ws.length = fn.np := fun {ws M r} h => by
    unfold callF at h
    rw [hf] at h
    simp only at h
    by_cases hl : ws.length = fn.np
    · exact hl
    · rw [if_neg hl] at h; cases h
  refine F.ok Sc (fun vs H Q E h => ?_) (fun cdv A outer s H vs Q E hr h => ?_)
  · obtain ⟨M, ι, ws, w, M', sk, r, e, q⟩ := h
    rw [← r.len, np e, hnp]
  obtain ⟨M, ι, ws, w, M', sk, r, e, q⟩ := h
  have hl := np e
  have hvs : vs.length = fn.np := by rw [← r.len, hl]
  rw [callF_eq hf hl] at e
  have X : XOk g n N (cxOf CX0 g.P g.w g.K g.mg g.base N (S f) (defScope st) a cdv A outer s H E).nox (defScope st) := ⟨rfl, rfl, rfl, rfl, rfl, rfl, rfl, Sc.nd, rfl, hr, rfl⟩
  refine ⟨_, s_sts G fn.body X (fun _ => rfl) (by unfold isFun; rw [Sc.kind]) chk, ?_⟩
  have hst : L2.start N vs = vs.map some ++ List.replicate (fn.ns - fn.np) none := by unfold L2.start; rw [hns, hvs]
  cases e1 : exs ⟨callF g.pr n, g.pr.gl⟩ fn.body (ws.map some ++ List.replicate (fn.ns - fn.np) none) M with
  | none => rw [e1] at e; cases e
  | some fl =>
    rw [e1] at e
    refine ⟨_, M, ι, fl, by rw [hst]; exact repws_start r _, sk, e1, ?_⟩
    cases fl with
    | nx δ' M1 =>
      intro σ' H' ι' a' s' l'
      obtain ⟨ι2, p1, p2, p3⟩ := ret_ok sk a' s' (show RepW g.K H' ι' (.d .non) .non from (mk_non (K := g.K) (H := H'))) e
      exact q _ _ ι2 p1 p2 p3
    | rt w1 M1 =>
      intro v H' ι' a' s' r'
      obtain ⟨ι2, p1, p2, p3⟩ := ret_ok sk a' s' r' e
      exact q _ _ ι2 p1 p2 p3
/-- a def of the text that our table has -/
structure DefIn (g : GP) (f : String) (fn : Fn) : Prop where
  ex : ∃ (a : Addr) (fd : FuncData) (st : Stmt) (N ps : List Str), g.mg (S f) = some (.ref a) ∧ Fun g.K (S f) (S f) st a fd ∧ FnScope N ps (defScope st) ∧ ps.length = fn.np ∧ N.length = fn.ns ∧ chkSs N (defScope st) fn.body (defBody st) = true ∧ Binds g.K fd ps []
theorem g_all (D : ∀ f fn, g.pr.fn f = some fn → DefIn g f fn) (gl : ∀ x d, g.pr.gl x = some d → ∃ u v, g.mg (S x) = some u ∧ RelV v u ∧ Rep g.K (fun _ => none) d v) (blt : ∀ x ∈ bltNames, g.mg x = none) : ∀ n, GOk g n
  | 0 => ⟨fun f fn h => by
      obtain ⟨a, fd, st, N, ps, h1, F, Sc, h2, h3, h4, h5⟩ := (D f fn h).ex
      have no : ∀ vs H Q E, ¬ spOf g 0 f vs H Q E := fun vs H Q E h => by
        obtain ⟨M, ι, ws, w, M', sk, r, e, q⟩ := h
        cases e
      exact ⟨a, fd, ps, h1, F.kp, h5, ⟨fun vs H Q E h => absurd h (no vs H Q E), fun A outer s H args us vs Q E _ _ _ _ h => absurd h (no vs H Q E)⟩⟩, gl, blt⟩
  | n + 1 => ⟨fun f fn h => by
      obtain ⟨a, fd, st, N, ps, h1, F, Sc, h2, h3, h4, h5⟩ := (D f fn h).ex
      exact ⟨a, fd, ps, h1, F.kp, h5, fn_ok (g_all D gl blt n) h F Sc h2 h3 h4⟩, gl, blt⟩
end
end Pv

/-! PvEnd: from the text's defs to the law. -/
namespace Pv
open PySem L2 PyProof.Rows
def DefI (K : PySem.W.Frag) (mg : Str → Option Value) (f : String) (fn : Fn) : Prop := ∃ (a : Addr) (fd : FuncData) (st : Stmt) (N ps : List Str), mg (S f) = some (.ref a) ∧ Fun K (S f) (S f) st a fd ∧ FnScope N ps (defScope st) ∧ ps.length = fn.np ∧ N.length = fn.ns ∧ chkSs N (defScope st) fn.body (defBody st) = true ∧ Binds K fd ps []
theorem def_mk {K : PySem.W.Frag} {mg : Str → Option Value} {h : Heap} (X : K.In h) (G : h.Ns mainGlobals mg) {nm : String} {st : Stmt} {N ps : List Str} {fn : Fn} (sc : FnScope N ps (defScope st)) (hnp : ps.length = fn.np) (hns : N.length = fn.ns) (chk : chkSs N (defScope st) fn.body (defBody st) = true)
    (hb : ∀ (kV doc pm : Value) (an : Option Addr) (cdv ct : Value) (us : List Value), us.length = ps.length → bindArgs (PySem.W.fnOf (S nm) (S nm) (defArgs st) (defBody st) (defScope st) .none kV doc pm an cdv ct) ⟨us, []⟩ = pure (ps.zip us))
    {f : Addr} {od an : Option Addr} {sl : Array (Option Value)} {oc kV dc pm cd ct : Value} (a1 : PySem.W.nsIn K mainGlobals (S nm) = some (some (.ref f))) (l1 : K.lookup f = some ⟨oc, od, .func (PySem.W.fnOf (S nm) (S nm) (defArgs st) (defBody st) (defScope st) .none kV dc pm an cd ct), sl⟩)
    (c1 : PySem.W.codeIn K cd (S nm) = true) (k1 : PySem.W.keepIn K (.ref f) = true) : DefI K mg nm fn := by
  have F := fun_mk (st := st) l1 c1 k1
  exact ⟨f, _, st, N, ps, PySem.W.mg_of X G a1, F, sc, hnp, hns, chk, F.binds hb⟩
def TblOk (K : PySem.W.Frag) (mg : Str → Option Value) : List (String × Fn) → Prop
  | [] => True
  | p :: r => DefI K mg p.1 p.2 ∧ TblOk K mg r
theorem tbl_ok {K : PySem.W.Frag} {mg : Str → Option Value} : ∀ {t : List (String × Fn)} {f : String} {fn : Fn}, TblOk K mg t → t.lookup f = some fn → DefI K mg f fn
  | [], _, _, _, h => by cases h
  | p :: r, f, fn, t, h => by
    rw [List.lookup_cons] at h
    cases e : f == p.1 with
    | true =>
      rw [e] at h
      have e : f = p.1 := by simpa using e
      cases h
      rw [e]
      exact t.1
    | false =>
      rw [e] at h
      exact tbl_ok t.2 h
def GlOk (K : PySem.W.Frag) (mg : Str → Option Value) : List (String × D) → Prop
  | [] => True
  | p :: r => (∃ u v, mg (S p.1) = some u ∧ RelV v u ∧ Rep K (fun _ => none) p.2 v) ∧ GlOk K mg r
theorem gl_ok {K : PySem.W.Frag} {mg : Str → Option Value} : ∀ {t : List (String × D)} {f : String} {d : D}, GlOk K mg t → t.lookup f = some d → ∃ u v, mg (S f) = some u ∧ RelV v u ∧ Rep K (fun _ => none) d v
  | [], _, _, _, h => by cases h
  | p :: r, f, fn, t, h => by
    rw [List.lookup_cons] at h
    cases e : f == p.1 with
    | true =>
      rw [e] at h
      have e : f = p.1 := by simpa using e
      cases h
      rw [e]
      exact t.1
    | false =>
      rw [e] at h
      exact gl_ok t.2 h
def spL (K : PySem.W.Frag) (pr : Prog) (n : Nat) (f : String) : Sp := fun vs H Q _ => ∃ M ι ws w M', SOk K H M ι ∧ RepWs K H ι ws vs ∧ callF pr n f ws M = some (w, M') ∧
  ∀ v H' ι', Aft H M ι H' M' ι' → SOk K H' M' ι' → RepW K H' ι' w v → Q v H'
def Blt (K : PySem.W.Frag) : Prop := ∀ x ∈ bltNames, PySem.W.nsIn K mainGlobals x = some none
theorem ints_rep {K : PySem.W.Frag} {H : Hp} : ∀ ns : List Int, Reps K H (ns.map D.int) (ns.map V.int)
  | [] => mk_nil
  | i :: r => mk_cons (mk_int i) (ints_rep r)
theorem end_walk {l : PySem.W.OpenLaw} {m k : Nat} {q : Program} {loose : List Str} {XP : (Str → Option Value) → Heap → Prop} {YP : World → Heap → Prop} {d : DefRec} {K : Params → PySem.W.Frag} {t : List (String × Fn)} {gt : List (String × D)} {x : Str}
    (hn : l.most = some m) (hm : m ≤ 16777216) (hdf : d.params.defaults = []) (hr : Room k callerA) (hd : d.name = S "law")
    (hY : ∀ (w : World) (h : Heap), YP w h → (K w.params).In h)
    (F : ∀ (w : World) (mg : Str → Option Value) (h : Heap), (K w.params).In h → h.Ns mainGlobals mg → TblOk (K w.params) mg t ∧ GlOk (K w.params) mg gt ∧ Blt (K w.params) ∧
      ∃ (a : Addr) (fd : FuncData), mg (S "law") = some (.ref a) ∧ (∀ (s : Shared) (u : Value), BindsTo s fd ⟨[u], []⟩ [(x, u)]) ∧ ∀ (mg' : Str → Option Value) (k : Nat), (∀ base, GOk ⟨l.prog, w, K w.params, mg, base, mkP t gt⟩ k) → ∀ base, FnOk l.prog w (K w.params) mg base CX0 (k + 1) a fd [x] (spL (K w.params) (mkP t gt) (k + 1) "law"))
    (hk : 0 < k)
    (law : ∀ ns : List Int, ns.length ≤ m → (∀ z ∈ ns, Builtin.Int.intBits z ≤ 1048576) → callF (mkP t gt) k "law" [.d (.lst (ns.map .int))] [] = some (.d (.bl true), [])) :
    PySem.W.WalkO q loose XP YP l.row.toRowW d [] (fun f vs => PySem.call f vs) := by
  refine L2.walk_ofB (n := m) (k := k) (x := x) (CX := fun _ => CX0) (sp := fun w => spL (K w.params) (mkP t gt) k "law") hn hm hdf hr hY (fun w mg fa h KX Gn hfa => ?_) (fun w H a ns hl hb hO hS => ?_) fun _ _ _ _ _ z => z
  · obtain ⟨h1, h2, h3, a, fd, h4, h5, h6⟩ := F w mg h KX Gn
    rw [hd] at hfa
    have e := hfa.symm.trans h4
    cases e
    refine ⟨fd, h5, fun base _ _ => ?_⟩
    obtain ⟨j, rfl⟩ : ∃ j, k = j + 1 := ⟨k - 1, by omega⟩
    refine h6 mg j (fun base => ?_) base
    exact g_all (g := ⟨l.prog, w, K w.params, mg, base, mkP t gt⟩) (fun f fn e => ⟨tbl_ok h1 e⟩) (fun x d e => gl_ok h2 e) (fun x hx => PySem.W.mg_none_of KX Gn (h3 x hx)) j
  · have hs : FzL (K w.params) H a (ns.map V.int) := by
      rcases hS with (h | h) | h
      · rcases hO a with z | ⟨o, xs, z⟩
        · rw [h] at z; cases z
        · rw [h] at z; cases z
      · exact .inl h
      · exact .inr h
    refine ⟨[], [], [.d (.lst (ns.map D.int))], .d (.bl true), [], ⟨rfl, List.nodup_nil, fun k o a h => by simp at h, fun a h => nomatch h⟩, ⟨_, [], rfl, mk_lst hs (ints_rep ns) (by rw [List.length_map]; exact Nat.le_trans hl hm), rfl⟩, law ns hl hb, fun v H' ι' _ _ r => ?_⟩
    exact rep_bl (K := K w.params) (H := H') r
theorem law_mk {P : Program} {w : World} {K : PySem.W.Frag} {mg : Str → Option Value} {h : Heap} {pr : Prog} (X : K.In h) (G : h.Ns mainGlobals mg) {st : Stmt} {N : List Str} {x : Str} {fn : Fn} (hf : pr.fn "law" = some fn) (sc : FnScope N [x] (defScope st)) (hnp : 1 = fn.np) (hns : N.length = fn.ns) (chk : chkSs N (defScope st) fn.body (defBody st) = true)
    (hb : ∀ (kV doc pm : Value) (an : Option Addr) (cdv ct : Value) (u : Value) (s : Shared), BindsTo s (PySem.W.fnOf (S "law") (S "law") (defArgs st) (defBody st) (defScope st) .none kV doc pm an cdv ct) ⟨[u], []⟩ [(x, u)])
    {f : Addr} {od an : Option Addr} {sl : Array (Option Value)} {oc kV dc pm cd ct : Value} (a1 : PySem.W.nsIn K mainGlobals (S "law") = some (some (.ref f))) (l1 : K.lookup f = some ⟨oc, od, .func (PySem.W.fnOf (S "law") (S "law") (defArgs st) (defBody st) (defScope st) .none kV dc pm an cd ct), sl⟩)
    (c1 : PySem.W.codeIn K cd (S "law") = true) (k1 : PySem.W.keepIn K (.ref f) = true) :
    ∃ (a : Addr) (fd : FuncData), mg (S "law") = some (.ref a) ∧ (∀ (s : Shared) (u : Value), BindsTo s fd ⟨[u], []⟩ [(x, u)]) ∧ ∀ (mg' : Str → Option Value) (k : Nat), (∀ base, GOk ⟨P, w, K, mg, base, pr⟩ k) → ∀ base, FnOk P w K mg base CX0 (k + 1) a fd [x] (spL K pr (k + 1) "law") := by
  have F := fun_mk (st := st) l1 c1 k1
  exact ⟨f, _, PySem.W.mg_of X G a1, fun s u => hb _ _ _ _ _ _ u s, fun _ k Gk base => fn_ok (g := ⟨P, w, K, mg, base, pr⟩) (Gk base) hf F sc hnp hns chk⟩
theorem gl_str {K : PySem.W.Frag} {mg : Str → Option Value} {h : Heap} (X : K.In h) (G : h.Ns mainGlobals mg) {nm : String} {s : List Nat} {x : Str} {t : Nat} (a : PySem.W.nsIn K mainGlobals (S nm) = some (some (.str x t))) (e : x = mkS s) (o : (s.all fun c => decide (c < 1114112)) = true) :
    ∃ u v, mg (S nm) = some u ∧ RelV v u ∧ Rep K (fun _ => none) (.str s) v := by
  subst e
  refine ⟨_, .str (mkS s), PySem.W.mg_of X G a, ⟨t, rfl⟩, mk_str fun c hc => ?_⟩
  rw [List.all_eq_true] at o
  simpa using o c hc
end Pv

/-! SpBase: the evaluator read step by step: calls, loops. -/
namespace Pv
/-- a call: the def's body in its slots -/
theorem call_eq {P : Prog} {n : Nat} {f : String} {fn : Fn} {ws : List W} {M : Sto} (hn : 1 ≤ n) (h : P.fn f = some fn) (hl : ws.length = fn.np) :
    callF P n f ws M = match exs ⟨callF P (n - 1), P.gl⟩ fn.body (ws.map some ++ List.replicate (fn.ns - fn.np) none) M with
      | some (.rt w M1) => retE M.length w M1
      | some (.nx _ M1) => retE M.length (.d .non) M1
      | none => none := by
  obtain ⟨m, rfl⟩ : ∃ m, n = m + 1 := ⟨n - 1, by omega⟩
  exact callF_eq h hl
theorem take_set {M : Sto} {k : Nat} {o : MO} : (M.set k o).take M.length = M.set k o := List.take_of_length_le (by simp)
theorem take_self {M : Sto} : M.take M.length = M := List.take_of_length_le (Nat.le_refl _)
/-- a for that never returns -/
theorem forGo_nx {tg : Tg} {w : Walk} {body : Loc → Sto → Option Fl} (I : List D → Loc → Sto → Prop)
    (hs : ∀ x r δ M, I (x :: r) δ M → ∃ δ1 δ2 M2, bindT δ tg x = some δ1 ∧ body δ1 M = some (.nx δ2 M2) ∧ w.ok M2 ∧ I r δ2 M2) :
    ∀ (xs : List D) (δ : Loc) (M : Sto), I xs δ M → ∃ δ' M', forGo tg w body xs δ M = some (.nx δ' M') ∧ I [] δ' M'
  | [], δ, M, h => ⟨δ, M, rfl, h⟩
  | x :: r, δ, M, h => by
    obtain ⟨δ1, δ2, M2, h1, h2, h3, h4⟩ := hs x r δ M h
    obtain ⟨δ', M', h5, h6⟩ := forGo_nx I hs r δ2 M2 h4
    refine ⟨δ', M', ?_, h6⟩
    unfold forGo
    rw [h1]
    simp only [h2, h3, if_true]
    exact h5
/-- a for that may return -/
theorem forGo_rt {tg : Tg} {w : Walk} {body : Loc → Sto → Option Fl} (I : List D → Loc → Sto → Prop) (R : W → Sto → Prop)
    (hs : ∀ x r δ M, I (x :: r) δ M → ∃ δ1, bindT δ tg x = some δ1 ∧ ((∃ v M2, body δ1 M = some (.rt v M2) ∧ R v M2) ∨ ∃ δ2 M2, body δ1 M = some (.nx δ2 M2) ∧ w.ok M2 ∧ I r δ2 M2)) :
    ∀ (xs : List D) (δ : Loc) (M : Sto), I xs δ M → (∃ v M', forGo tg w body xs δ M = some (.rt v M') ∧ R v M') ∨ ∃ δ' M', forGo tg w body xs δ M = some (.nx δ' M') ∧ I [] δ' M'
  | [], δ, M, h => .inr ⟨δ, M, rfl, h⟩
  | x :: r, δ, M, h => by
    obtain ⟨δ1, h1, ⟨v, M2, h2, h3⟩ | ⟨δ2, M2, h2, h3, h4⟩⟩ := hs x r δ M h
    · refine .inl ⟨v, M2, ?_, h3⟩
      unfold forGo
      rw [h1]
      simp only [h2]
    · rcases forGo_rt I R hs r δ2 M2 h4 with ⟨v, M', h5, h6⟩ | ⟨δ', M', h5, h6⟩
      · refine .inl ⟨v, M', ?_, h6⟩
        unfold forGo
        rw [h1]
        simp only [h2, h3, if_true]
        exact h5
      · refine .inr ⟨δ', M', ?_, h6⟩
        unfold forGo
        rw [h1]
        simp only [h2, h3, if_true]
        exact h5
/-- a comprehension: what holds of every item made -/
theorem compGo_inv {δ : Loc} {own : List Nat} {tg : Tg} {w : Walk} {cond : Loc → Sto → Option (Bool × Sto)} {elt : Loc → Sto → Option (D × Sto)} (I : Sto → Prop) (Q : D → D → Prop)
    (hs : ∀ x ∈ w.items, ∀ M, I M → ∃ δ1 b M1, bindT (wipe δ own) tg x = some δ1 ∧ cond δ1 M = some (b, M1) ∧ ((b = true ∧ ∃ y M2, elt δ1 M1 = some (y, M2) ∧ w.ok M2 ∧ I M2 ∧ Q x y) ∨ (b = false ∧ w.ok M1 ∧ I M1))) :
    ∀ (xs : List D), (∀ x ∈ xs, x ∈ w.items) → ∀ M, I M → ∃ ys M', compGo δ own tg w cond elt xs M = some (ys, M') ∧ I M' ∧ ys.length ≤ xs.length ∧ ∀ y ∈ ys, ∃ x ∈ xs, Q x y
  | [], _, M, h => ⟨[], M, rfl, h, Nat.le_refl _, fun _ h => nomatch h⟩
  | x :: r, hx, M, h => by
    obtain ⟨δ1, b, M1, h1, h2, alt⟩ := hs x (hx x List.mem_cons_self) M h
    rcases alt with ⟨rfl, y, M2, h3, h4, h5, h6⟩ | ⟨rfl, h4, h5⟩
    · obtain ⟨ys, M', k1, k2, k3, k4⟩ := compGo_inv I Q hs r (fun z hz => hx z (List.mem_cons_of_mem _ hz)) M2 h5
      refine ⟨y :: ys, M', ?_, k2, by simpa using k3, ?_⟩
      · unfold compGo
        rw [h1]
        simp only [h2, if_true, h3, h4, k1]
      · intro z hz
        rcases List.mem_cons.mp hz with rfl | hz
        · exact ⟨x, List.mem_cons_self, h6⟩
        · obtain ⟨u, hu, q⟩ := k4 z hz
          exact ⟨u, List.mem_cons_of_mem _ hu, q⟩
    · obtain ⟨ys, M', k1, k2, k3, k4⟩ := compGo_inv I Q hs r (fun z hz => hx z (List.mem_cons_of_mem _ hz)) M1 h5
      refine ⟨ys, M', ?_, k2, Nat.le_succ_of_le k3, ?_⟩
      · unfold compGo
        rw [h1]
        simp only [h2, Bool.false_eq_true, if_false, h4, if_true]
        exact k1
      · intro z hz
        obtain ⟨u, hu, q⟩ := k4 z hz
        exact ⟨u, List.mem_cons_of_mem _ hu, q⟩
/-- a comprehension that is a map, the store as it was -/
theorem compGo_map {δ : Loc} {own : List Nat} {tg : Tg} {w : Walk} {cond : Loc → Sto → Option (Bool × Sto)} {elt : Loc → Sto → Option (D × Sto)} {M : Sto} (f : D → D) (hw : w.ok M)
    (hs : ∀ x ∈ w.items, ∃ δ1, bindT (wipe δ own) tg x = some δ1 ∧ cond δ1 M = some (true, M) ∧ elt δ1 M = some (f x, M)) :
    ∀ (xs : List D), (∀ x ∈ xs, x ∈ w.items) → compGo δ own tg w cond elt xs M = some (xs.map f, M)
  | [], _ => rfl
  | x :: r, hx => by
    obtain ⟨δ1, h1, h2, h3⟩ := hs x (hx x List.mem_cons_self)
    have ih := compGo_map f hw hs r (fun z hz => hx z (List.mem_cons_of_mem _ hz))
    unfold compGo
    rw [h1]
    simp only [h2, if_true, h3, hw, ih]
    rfl
/-! ### what is wanted behind an expression, a list of them, a statement -/
def W1 (o : Option (W × Sto)) (Q : W → Sto → Prop) : Prop := ∃ w M, o = some (w, M) ∧ Q w M
def Wl (o : Option (List W × Sto)) (Q : List W → Sto → Prop) : Prop := ∃ w M, o = some (w, M) ∧ Q w M
def Wd (o : Option (List D × Sto)) (Q : List D → Sto → Prop) : Prop := ∃ w M, o = some (w, M) ∧ Q w M
def Wb (o : Option (Bool × Sto)) (Q : Bool → Sto → Prop) : Prop := ∃ w M, o = some (w, M) ∧ Q w M
def W2 (o : Option Fl) (N : Loc → Sto → Prop) (R : W → Sto → Prop) : Prop := (∃ δ M, o = some (.nx δ M) ∧ N δ M) ∨ ∃ w M, o = some (.rt w M) ∧ R w M
theorem W1.mono {o : Option (W × Sto)} {Q Q' : W → Sto → Prop} (h : W1 o Q) (q : ∀ w M, Q w M → Q' w M) : W1 o Q' := let ⟨w, M, h1, h2⟩ := h; ⟨w, M, h1, q w M h2⟩
theorem W2.mono {o : Option Fl} {N N' : Loc → Sto → Prop} {R R' : W → Sto → Prop} (h : W2 o N R) (n : ∀ δ M, N δ M → N' δ M) (r : ∀ w M, R w M → R' w M) : W2 o N' R' := by
  rcases h with ⟨δ, M, h1, h2⟩ | ⟨w, M, h1, h2⟩
  · exact .inl ⟨δ, M, h1, n _ _ h2⟩
  · exact .inr ⟨w, M, h1, r _ _ h2⟩
@[simp] theorem W1_none {Q : W → Sto → Prop} : W1 none Q ↔ False := ⟨fun ⟨_, _, h, _⟩ => (by cases h), False.elim⟩
@[simp] theorem W1_some {w : W} {M : Sto} {Q : W → Sto → Prop} : W1 (some (w, M)) Q ↔ Q w M := ⟨fun ⟨_, _, h, q⟩ => by cases h; exact q, fun q => ⟨_, _, rfl, q⟩⟩
@[simp] theorem Wl_none {Q : List W → Sto → Prop} : Wl none Q ↔ False := ⟨fun ⟨_, _, h, _⟩ => (by cases h), False.elim⟩
@[simp] theorem Wl_some {w : List W} {M : Sto} {Q : List W → Sto → Prop} : Wl (some (w, M)) Q ↔ Q w M := ⟨fun ⟨_, _, h, q⟩ => by cases h; exact q, fun q => ⟨_, _, rfl, q⟩⟩
@[simp] theorem Wd_none {Q : List D → Sto → Prop} : Wd none Q ↔ False := ⟨fun ⟨_, _, h, _⟩ => (by cases h), False.elim⟩
@[simp] theorem Wd_some {w : List D} {M : Sto} {Q : List D → Sto → Prop} : Wd (some (w, M)) Q ↔ Q w M := ⟨fun ⟨_, _, h, q⟩ => by cases h; exact q, fun q => ⟨_, _, rfl, q⟩⟩
@[simp] theorem Wb_none {Q : Bool → Sto → Prop} : Wb none Q ↔ False := ⟨fun ⟨_, _, h, _⟩ => (by cases h), False.elim⟩
@[simp] theorem Wb_some {w : Bool} {M : Sto} {Q : Bool → Sto → Prop} : Wb (some (w, M)) Q ↔ Q w M := ⟨fun ⟨_, _, h, q⟩ => by cases h; exact q, fun q => ⟨_, _, rfl, q⟩⟩
@[simp] theorem W2_none {N : Loc → Sto → Prop} {R : W → Sto → Prop} : W2 none N R ↔ False := ⟨fun h => (by rcases h with ⟨_, _, h, _⟩ | ⟨_, _, h, _⟩ <;> cases h), False.elim⟩
@[simp] theorem W2_nx {δ : Loc} {M : Sto} {N : Loc → Sto → Prop} {R : W → Sto → Prop} : W2 (some (.nx δ M)) N R ↔ N δ M := ⟨fun h => by rcases h with ⟨_, _, h, q⟩ | ⟨_, _, h, _⟩ <;> cases h; exact q, fun q => .inl ⟨_, _, rfl, q⟩⟩
@[simp] theorem W2_rt {w : W} {M : Sto} {N : Loc → Sto → Prop} {R : W → Sto → Prop} : W2 (some (.rt w M)) N R ↔ R w M := ⟨fun h => by rcases h with ⟨_, _, h, _⟩ | ⟨_, _, h, q⟩ <;> cases h; exact q, fun q => .inr ⟨_, _, rfl, q⟩⟩
section
variable {C : Ctx} {δ : Loc} {M : Sto} {Q : W → Sto → Prop} {N : Loc → Sto → Prop} {R : W → Sto → Prop}
@[simp] theorem x_var {i : Nat} : W1 (ev C (.var i) δ M) Q ↔ ∃ w, δ[i]? = some (some w) ∧ Q w M := by
  unfold ev
  split
  · rename_i w h; rw [W1_some, h]; exact ⟨fun q => ⟨w, rfl, q⟩, fun ⟨_, e, q⟩ => by cases e; exact q⟩
  · rename_i h; rw [W1_none]; exact ⟨False.elim, fun ⟨w, e, _⟩ => h w e⟩
/-- what a frozen name gives -/
def frzQ (M : Sto) (w : W) (Q : W → Sto → Prop) : Prop := match w with
  | .m k => match M[k]? with
    | some (.lst xs) => Q (.d (.lst xs)) (M.set k .dead)
    | some (.dic xs) => Q (.d (.dic xs)) (M.set k .dead)
    | _ => False
  | _ => False
@[simp] theorem x_frz {i : Nat} : W1 (ev C (.frz i) δ M) Q ↔ ∃ w, δ[i]? = some (some w) ∧ frzQ M w Q := by
  unfold ev
  split
  · rename_i k h
    rw [h]
    constructor
    · intro q
      refine ⟨_, rfl, ?_⟩
      unfold frzQ
      split at q <;> simp_all
    · rintro ⟨_, e, q⟩
      cases e
      unfold frzQ at q
      simp only at q
      split at q <;> simp_all
  · rename_i h
    rw [W1_none]
    refine ⟨False.elim, fun ⟨w, e, q⟩ => ?_⟩
    cases w with
    | m k => exact h k e
    | d _ => exact q
@[simp] theorem x_cst {x : D} : W1 (ev C (.cst x) δ M) Q ↔ Q (.d x) M := by unfold ev; rw [W1_some]
@[simp] theorem x_glb {x : String} : W1 (ev C (.glb x) δ M) Q ↔ ∃ v, C.glob x = some v ∧ Q (.d v) M := by
  unfold ev
  split
  · rename_i v h; rw [W1_some, h]; exact ⟨fun q => ⟨v, rfl, q⟩, fun ⟨_, e, q⟩ => by cases e; exact q⟩
  · rename_i h; rw [W1_none, h]; exact ⟨False.elim, fun ⟨_, e, _⟩ => by cases e⟩
@[simp] theorem x_evs0 {Q : List D → Sto → Prop} : Wd (evs C [] δ M) Q ↔ Q [] M := by unfold evs; rw [Wd_some]
@[simp] theorem x_evs1 {e : Ex} {es : List Ex} {Q : List D → Sto → Prop} : Wd (evs C (e :: es) δ M) Q ↔ W1 (ev C e δ M) fun w M1 => ∃ x, w = .d x ∧ Wd (evs C es δ M1) fun xs M2 => Q (x :: xs) M2 := by
  rw [evs]
  cases ev C e δ M with
  | none => simp
  | some p =>
    obtain ⟨w, M1⟩ := p
    cases w with
    | m k => simp
    | d x =>
      cases h : evs C es δ M1 with
      | none => simp [h]
      | some p => obtain ⟨xs, M2⟩ := p; simp [h]
@[simp] theorem x_ws0 {Q : List W → Sto → Prop} : Wl (evws C [] δ M) Q ↔ Q [] M := by unfold evws; rw [Wl_some]
@[simp] theorem x_ws1 {e : Ex} {es : List Ex} {Q : List W → Sto → Prop} : Wl (evws C (e :: es) δ M) Q ↔ W1 (ev C e δ M) fun w M1 => Wl (evws C es δ M1) fun xs M2 => Q (w :: xs) M2 := by
  rw [evws]
  cases ev C e δ M with
  | none => simp
  | some p =>
    obtain ⟨w, M1⟩ := p
    cases h : evws C es δ M1 with
    | none => simp [h]
    | some p => obtain ⟨xs, M2⟩ := p; simp [h]
@[simp] theorem x_tup {es : List Ex} : W1 (ev C (.tup es) δ M) Q ↔ Wd (evs C es δ M) fun xs M1 => Q (.d (.tup xs)) M1 := by
  rw [ev]
  cases evs C es δ M with
  | none => simp
  | some p => obtain ⟨xs, M2⟩ := p; simp
def finQ (mu : Bool) (xs : List D) (M : Sto) (Q : W → Sto → Prop) : Prop := if mu then Q (.m M.length) (M ++ [.lst xs]) else Q (.d (.lst xs)) M
@[simp] theorem W1_fin {mu : Bool} {xs : List D} : W1 (fin mu xs M) Q ↔ finQ mu xs M Q := by
  unfold fin finQ
  cases mu <;> simp
@[simp] theorem finQ_t {xs : List D} : finQ true xs M Q ↔ Q (.m M.length) (M ++ [.lst xs]) := by simp [finQ]
@[simp] theorem finQ_f {xs : List D} : finQ false xs M Q ↔ Q (.d (.lst xs)) M := by simp [finQ]
@[simp] theorem x_lst {mu : Bool} {es : List Ex} : W1 (ev C (.lst mu es) δ M) Q ↔ Wd (evs C es δ M) fun xs M1 => finQ mu xs M1 Q := by
  rw [ev]
  cases evs C es δ M with
  | none => simp
  | some p => obtain ⟨xs, M2⟩ := p; simp
@[simp] theorem x_bin {o : BOp} {a b : Ex} : W1 (ev C (.bin o a b) δ M) Q ↔ W1 (ev C a δ M) fun w M1 => W1 (ev C b δ M1) fun u M2 => ∃ x, deref M2 w = some x ∧ ∃ y, deref M2 u = some y ∧ ∃ z, binE o x y = some z ∧ Q (.d z) M2 := by
  rw [ev]
  cases ev C a δ M with
  | none => simp
  | some p =>
    obtain ⟨w, M1⟩ := p
    cases h : ev C b δ M1 with
    | none => simp [h]
    | some p =>
      obtain ⟨u, M2⟩ := p
      simp only [W1_some, h]
      cases h1 : deref M2 w with
      | none => simp
      | some x => cases h2 : deref M2 u with
        | none => simp
        | some y => cases h3 : binE o x y <;> simp [h3]
@[simp] theorem x_cat {mu : Bool} {a b : Ex} : W1 (ev C (.cat mu a b) δ M) Q ↔ W1 (ev C a δ M) fun w M1 => W1 (ev C b δ M1) fun u M2 => ∃ xs, deref M2 w = some (.lst xs) ∧ ∃ ys, deref M2 u = some (.lst ys) ∧ xs.length + ys.length ≤ line ∧ finQ mu (xs ++ ys) M2 Q := by
  rw [ev]
  cases ev C a δ M with
  | none => simp
  | some p =>
    obtain ⟨w, M1⟩ := p
    cases h : ev C b δ M1 with
    | none => simp [h]
    | some p =>
      obtain ⟨u, M2⟩ := p
      simp only [W1_some, h]
      cases h1 : deref M2 w with
      | none => simp
      | some x => cases h2 : deref M2 u with
        | none => cases x <;> simp
        | some y => cases x <;> cases y <;> simp
                    split <;> simp_all
                    intro h; omega
@[simp] theorem x_ix {a b : Ex} : W1 (ev C (.ix a b) δ M) Q ↔ W1 (ev C a δ M) fun w M1 => W1 (ev C b δ M1) fun u M2 => ∃ x, deref M2 w = some x ∧ ∃ y, u = .d y ∧ ∃ z, ixE x y = some z ∧ Q (.d z) M2 := by
  rw [ev]
  cases ev C a δ M with
  | none => simp
  | some p =>
    obtain ⟨w, M1⟩ := p
    cases h : ev C b δ M1 with
    | none => simp [h]
    | some p =>
      obtain ⟨u, M2⟩ := p
      simp only [W1_some, h]
      cases h1 : deref M2 w with
      | none => simp
      | some x => cases u with
        | m _ => simp
        | d y => cases h3 : ixE x y <;> simp [h3]
@[simp] theorem x_cmp {o : COp} {a b : Ex} : W1 (ev C (.cmp o a b) δ M) Q ↔ W1 (ev C a δ M) fun w M1 => W1 (ev C b δ M1) fun u M2 => ∃ x, deref M2 w = some x ∧ ∃ y, deref M2 u = some y ∧ ∃ z, cmpE o x y = some z ∧ Q (.d (.bl z)) M2 := by
  rw [ev]
  cases ev C a δ M with
  | none => simp
  | some p =>
    obtain ⟨w, M1⟩ := p
    cases h : ev C b δ M1 with
    | none => simp [h]
    | some p =>
      obtain ⟨u, M2⟩ := p
      simp only [W1_some, h]
      cases h1 : deref M2 w with
      | none => simp
      | some x => cases h2 : deref M2 u with
        | none => simp
        | some y => cases h3 : cmpE o x y <;> simp [h3, -Bool.exists_bool]
@[simp] theorem x_nt {a : Ex} : W1 (ev C (.nt a) δ M) Q ↔ W1 (ev C a δ M) fun w M1 => ∃ b, w = .d (.bl b) ∧ Q (.d (.bl (!b))) M1 := by
  rw [ev]
  cases ev C a δ M with
  | none => simp
  | some p =>
    obtain ⟨w, M1⟩ := p
    cases w with
    | m k => simp
    | d z => cases z <;> simp [-Bool.exists_bool]
@[simp] theorem x_neg {a : Ex} : W1 (ev C (.neg a) δ M) Q ↔ W1 (ev C a δ M) fun w M1 => ∃ i, w = .d (.int i) ∧ Q (.d (.int (-i))) M1 := by
  rw [ev]
  cases ev C a δ M with
  | none => simp
  | some p =>
    obtain ⟨w, M1⟩ := p
    cases w with
    | m k => simp
    | d z => cases z <;> simp
@[simp] theorem x_an {es : List Ex} : W1 (ev C (.an es) δ M) Q ↔ W1 (evAn C es δ M) Q := by rw [ev]
@[simp] theorem x_or {es : List Ex} : W1 (ev C (.orr es) δ M) Q ↔ W1 (evOr C es δ M) Q := by rw [ev]
@[simp] theorem x_an0 : W1 (evAn C [] δ M) Q ↔ Q (.d (.bl true)) M := by unfold evAn; rw [W1_some]
@[simp] theorem x_or0 : W1 (evOr C [] δ M) Q ↔ Q (.d (.bl false)) M := by unfold evOr; rw [W1_some]
@[simp] theorem x_an1 {e : Ex} {es : List Ex} : W1 (evAn C (e :: es) δ M) Q ↔ W1 (ev C e δ M) fun w M1 => ∃ b, w = .d (.bl b) ∧ if b = true then W1 (evAn C es δ M1) Q else Q (.d (.bl false)) M1 := by
  rw [evAn]
  cases ev C e δ M with
  | none => simp
  | some p =>
    obtain ⟨w, M1⟩ := p
    cases w with
    | m k => simp
    | d z => cases z <;> simp
             rename_i b; cases b <;> simp
@[simp] theorem x_or1 {e : Ex} {es : List Ex} : W1 (evOr C (e :: es) δ M) Q ↔ W1 (ev C e δ M) fun w M1 => ∃ b, w = .d (.bl b) ∧ if b = true then Q (.d (.bl true)) M1 else W1 (evOr C es δ M1) Q := by
  rw [evOr]
  cases ev C e δ M with
  | none => simp
  | some p =>
    obtain ⟨w, M1⟩ := p
    cases w with
    | m k => simp
    | d z => cases z <;> simp
             rename_i b; cases b <;> simp
@[simp] theorem x_ite {c a b : Ex} : W1 (ev C (.ite c a b) δ M) Q ↔ W1 (ev C c δ M) fun w M1 => ∃ t, w = .d (.bl t) ∧ if t = true then W1 (ev C a δ M1) Q else W1 (ev C b δ M1) Q := by
  rw [ev]
  cases ev C c δ M with
  | none => simp
  | some p =>
    obtain ⟨w, M1⟩ := p
    cases w with
    | m k => simp
    | d z => cases z <;> simp
             rename_i b; cases b <;> simp
@[simp] theorem x_call {f : String} {es : List Ex} : W1 (ev C (.call f es) δ M) Q ↔ Wl (evws C es δ M) fun ws M1 => W1 (C.call f ws M1) Q := by
  rw [ev]
  cases evws C es δ M with
  | none => simp
  | some p => obtain ⟨xs, M2⟩ := p; simp
@[simp] theorem x_bi {f : Bi} {es : List Ex} : W1 (ev C (.bi f es) δ M) Q ↔ Wl (evws C es δ M) fun ws M1 => ∃ xs, ws.mapM (deref M1) = some xs ∧ ∃ x, biE f xs = some x ∧ Q (.d x) M1 := by
  rw [ev]
  cases evws C es δ M with
  | none => simp
  | some p =>
    obtain ⟨ws, M1⟩ := p
    simp only [Wl_some]
    cases h1 : ws.mapM (deref M1) with
    | none => simp
    | some xs => cases h2 : biE f xs <;> simp [h2]
@[simp] theorem x_isi {a : Ex} {t : String} : W1 (ev C (.isi a t) δ M) Q ↔ W1 (ev C a δ M) fun w M1 => ∃ x, deref M1 w = some x ∧ ∃ b, isiE x t = some b ∧ Q (.d (.bl b)) M1 := by
  rw [ev]
  cases ev C a δ M with
  | none => simp
  | some p =>
    obtain ⟨w, M1⟩ := p
    simp only [W1_some]
    cases h1 : deref M1 w with
    | none => simp
    | some xs => cases h2 : isiE xs t <;> simp [h2, -Bool.exists_bool]
/-! statements -/
@[simp] theorem x_nil : W2 (exs C [] δ M) N R ↔ N δ M := by unfold exs; rw [W2_nx]
@[simp] theorem x_cons {s : Stm} {r : List Stm} : W2 (exs C (s :: r) δ M) N R ↔ W2 (ex1 C s δ M) (fun δ1 M1 => W2 (exs C r δ1 M1) N R) R := by
  rw [exs]
  cases ex1 C s δ M with
  | none => simp
  | some f => cases f <;> simp
@[simp] theorem x_asg {i : Nat} {e : Ex} : W2 (ex1 C (.asg i e) δ M) N R ↔ W1 (ev C e δ M) fun w M1 => N (setL δ i w) M1 := by
  rw [ex1]
  cases ev C e δ M with
  | none => simp
  | some p => obtain ⟨w, M2⟩ := p; simp
@[simp] theorem x_unp {is : List Nat} {e : Ex} : W2 (ex1 C (.unp is e) δ M) N R ↔ W1 (ev C e δ M) fun w M1 => ∃ xs, w = .d (.tup xs) ∧ ∃ δ1, setD δ is xs = some δ1 ∧ N δ1 M1 := by
  rw [ex1]
  cases ev C e δ M with
  | none => simp
  | some p =>
    obtain ⟨w, M1⟩ := p
    cases w with
    | m k => simp
    | d z => cases z <;> simp
             rename_i xs; cases h : setD δ is xs <;> simp
@[simp] theorem x_ret {e : Ex} : W2 (ex1 C (.ret e) δ M) N R ↔ W1 (ev C e δ M) R := by
  rw [ex1]
  cases ev C e δ M with
  | none => simp
  | some p => obtain ⟨w, M2⟩ := p; simp
@[simp] theorem x_ex {e : Ex} : W2 (ex1 C (.ex e) δ M) N R ↔ W1 (ev C e δ M) fun _ M1 => N δ M1 := by
  rw [ex1]
  cases ev C e δ M with
  | none => simp
  | some p => obtain ⟨w, M2⟩ := p; simp
@[simp] theorem x_ifs {c : Ex} {a b : List Stm} : W2 (ex1 C (.ifs c a b) δ M) N R ↔ W1 (ev C c δ M) fun w M1 => ∃ t, w = .d (.bl t) ∧ if t = true then W2 (exs C a δ M1) N R else W2 (exs C b δ M1) N R := by
  rw [ex1]
  cases ev C c δ M with
  | none => simp
  | some p =>
    obtain ⟨w, M1⟩ := p
    cases w with
    | m k => simp
    | d z => cases z <;> simp
             rename_i b; cases b <;> simp
@[simp] theorem x_fr {tg : Tg} {k : IK} {its : List Ex} {body : List Stm} : W2 (ex1 C (.fr tg k its body) δ M) N R ↔ Wl (evws C its δ M) fun ws M1 => ∃ wk, walkE M1 k ws = some wk ∧ W2 (forGo tg wk (fun δ M => exs C body δ M) wk.items δ M1) N R := by
  rw [ex1]
  cases evws C its δ M with
  | none => simp
  | some p =>
    obtain ⟨ws, M1⟩ := p
    simp only [Wl_some]
    cases h : walkE M1 k ws <;> simp
def setQ (δ : Loc) (v : D) (k : Nat) (j : D) (M : Sto) (N : Loc → Sto → Prop) : Prop := match M[k]?, j with
  | some (.lst xs), .int j => match ixN xs.length j with
    | some p => N δ (M.set k (.lst (xs.set p v)))
    | none => False
  | some (.dic kvs), .str s => kvs.length < line ∧ N δ (M.set k (.dic (putK s v kvs)))
  | _, _ => False
@[simp] theorem x_setix {x i e : Ex} : W2 (ex1 C (.setix x i e) δ M) N R ↔ W1 (ev C e δ M) fun w M1 => ∃ v, w = .d v ∧ W1 (ev C x δ M1) fun w M2 => ∃ k, w = .m k ∧ W1 (ev C i δ M2) fun w M3 => ∃ j, w = .d j ∧ setQ δ v k j M3 N := by
  rw [ex1]
  cases ev C e δ M with
  | none => simp
  | some p =>
    obtain ⟨w, M1⟩ := p
    cases w with
    | m k => simp
    | d v =>
      simp only [W1_some]
      cases h1 : ev C x δ M1 with
      | none => simp [h1]
      | some p =>
        obtain ⟨w, M2⟩ := p
        cases w with
        | d _ => simp [h1]
        | m k =>
          cases h2 : ev C i δ M2 with
          | none => simp [h1, h2]
          | some p =>
            obtain ⟨w, M3⟩ := p
            cases w with
            | m _ => simp [h1, h2]
            | d j =>
              simp only [h1, h2, W.d.injEq, exists_eq_left', W1_some, W.m.injEq]
              unfold setQ
              cases M3[k]? with
              | none => simp
              | some o => cases o <;> cases j <;> simp <;> split <;> simp_all <;> (intro h; omega)
/-- append -/
def appQ (k : Nat) (x : D) (M : Sto) (Q : W → Sto → Prop) : Prop := match M[k]? with
  | some (.lst xs) => xs.length < line ∧ Q (.d .non) (M.set k (.lst (xs ++ [x])))
  | _ => False
@[simp] theorem x_app {a b : Ex} : W1 (ev C (.app a b) δ M) Q ↔ W1 (ev C a δ M) fun w M1 => ∃ k, w = .m k ∧ (∃ zs, M1[k]? = some (.lst zs)) ∧ W1 (ev C b δ M1) fun w M2 => ∃ x, w = .d x ∧ appQ k x M2 Q := by
  rw [ev]
  cases ev C a δ M with
  | none => simp
  | some p =>
    obtain ⟨w, M1⟩ := p
    cases w with
    | d _ => simp
    | m k =>
      simp only [W1_some, W.m.injEq, exists_eq_left']
      cases h0 : M1[k]? with
      | none => simp
      | some o =>
        cases o with
        | dic _ => simp
        | dead => simp
        | lst zs =>
          cases h1 : ev C b δ M1 with
          | none => simp
          | some p =>
            obtain ⟨w, M2⟩ := p
            cases w with
            | m _ => simp
            | d x =>
              simp only [Option.some.injEq, MO.lst.injEq, exists_eq', true_and, W1_some, W.d.injEq, exists_eq_left']
              unfold appQ
              cases M2[k]? with
              | none => simp
              | some o => cases o <;> simp <;> split <;> simp_all <;> (intro h; omega)
@[simp] theorem x_mkl {mu : Bool} {a : Ex} : W1 (ev C (.mkl mu a) δ M) Q ↔ W1 (ev C a δ M) fun w M1 => ∃ x, deref M1 w = some x ∧ ∃ xs, seqOf x = some xs ∧ finQ mu xs M1 Q := by
  rw [ev]
  cases ev C a δ M with
  | none => simp
  | some p =>
    obtain ⟨w, M1⟩ := p
    simp only [W1_some]
    cases h1 : deref M1 w with
    | none => simp
    | some x => cases x <;> simp [seqOf]
/-- a call, its body read -/
theorem x_run {P : Prog} {n : Nat} {f : String} {fn : Fn} {ws : List W} (hn : 1 ≤ n) (h : P.fn f = some fn) (hl : ws.length = fn.np)
    (b : W2 (exs ⟨callF P (n - 1), P.gl⟩ fn.body (ws.map some ++ List.replicate (fn.ns - fn.np) none) M) (fun _ M1 => W1 (retE M.length (.d .non) M1) Q) (fun w M1 => W1 (retE M.length w M1) Q)) : W1 (callF P n f ws M) Q := by
  rw [call_eq hn h hl]
  rcases b with ⟨δ, M1, e, q⟩ | ⟨w, M1, e, q⟩ <;> rw [e] <;> exact q
end
/-! values -/
@[simp] theorem deref_d {M : Sto} {x : D} : deref M (.d x) = some x := rfl
theorem deref_m {M : Sto} {k : Nat} {xs : List D} (h : M[k]? = some (.lst xs)) : deref M (.m k) = some (.lst xs) := by simp [deref, h]
@[simp] theorem ex_if {α : Type} {c : Prop} [Decidable c] {v : α} {Q : α → Prop} : (∃ z, (if c then some v else none) = some z ∧ Q z) ↔ c ∧ Q v := by
  by_cases h : c <;> simp [h]
@[simp] theorem add_ii {i j : Int} : binE .add (.int i) (.int j) = some (.int (i + j)) := rfl
@[simp] theorem sub_ii {i j : Int} : binE .sub (.int i) (.int j) = some (.int (i - j)) := rfl
@[simp] theorem mul_ii {i j : Int} : binE .mul (.int i) (.int j) = if mulOk i j then some (.int (i * j)) else none := rfl
@[simp] theorem mod_ii {i j : Int} : binE .mod (.int i) (.int j) = if 0 < j then some (.int (i % j)) else none := rfl
@[simp] theorem div_ii {i j : Int} : binE .fdiv (.int i) (.int j) = if 0 < j ∧ j < 1606938044258990275541962092341162602522202993782792835301376 then some (.int (i / j)) else none := rfl
@[simp] theorem add_ss {i j : List Nat} : binE .add (.str i) (.str j) = if i.length + j.length ≤ line then some (.str (i ++ j)) else none := rfl
@[simp] theorem add_ll {i j : List D} : binE .add (.lst i) (.lst j) = if i.length + j.length ≤ line then some (.lst (i ++ j)) else none := rfl
@[simp] theorem add_tt {i j : List D} : binE .add (.tup i) (.tup j) = if i.length + j.length ≤ line then some (.tup (i ++ j)) else none := rfl
@[simp] theorem mul_si {a : List Nat} {j : Int} : binE .mul (.str a) (.int j) = if a.length * j.toNat ≤ line ∧ -4611686018427387904 ≤ j ∧ j ≤ 4611686018427387904 then some (.str (List.replicate j.toNat a).flatten) else none := rfl
@[simp] theorem ix_li {xs : List D} {i : Int} : ixE (.lst xs) (.int i) = atI xs i := rfl
@[simp] theorem ix_ti {xs : List D} {i : Int} : ixE (.tup xs) (.int i) = atI xs i := rfl
@[simp] theorem ix_si {s : List Nat} {i : Int} : ixE (.str s) (.int i) = if s.length ≤ line then (atI s i).map fun c => .str [c] else none := rfl
@[simp] theorem eq_ii {i j : Int} : cmpE .eq (.int i) (.int j) = some (decide (i = j)) := by
  show (if true = true then some (i == j) else none) = _
  rw [if_pos rfl]
  rfl
@[simp] theorem ne_ii {i j : Int} : cmpE .ne (.int i) (.int j) = some (!decide (i = j)) := by
  show (if true = true then some (!(i == j)) else none) = _
  rw [if_pos rfl]
  rfl
@[simp] theorem eq_ss {i j : List Nat} : cmpE .eq (.str i) (.str j) = some (decide (i = j)) := by
  show (if true = true then some (i == j) else none) = _
  rw [if_pos rfl]
  have : (i == j) = decide (i = j) := by rw [Bool.eq_iff_iff]; simp
  rw [this]
@[simp] theorem ne_ss {i j : List Nat} : cmpE .ne (.str i) (.str j) = some (!decide (i = j)) := by
  show (if true = true then some (!(i == j)) else none) = _
  rw [if_pos rfl]
  have : (i == j) = decide (i = j) := by rw [Bool.eq_iff_iff]; simp
  rw [this]
@[simp] theorem lt_ii {i j : Int} : cmpE .lt (.int i) (.int j) = some (decide (i < j)) := rfl
@[simp] theorem le_ii {i j : Int} : cmpE .le (.int i) (.int j) = some (decide (i ≤ j)) := rfl
@[simp] theorem gt_ii {i j : Int} : cmpE .gt (.int i) (.int j) = some (decide (j < i)) := rfl
@[simp] theorem ge_ii {i j : Int} : cmpE .ge (.int i) (.int j) = some (decide (j ≤ i)) := rfl
@[simp] theorem lt_ss {i j : List Nat} : cmpE .lt (.str i) (.str j) = some (decide (i < j)) := rfl
@[simp] theorem le_ss {i j : List Nat} : cmpE .le (.str i) (.str j) = some (decide (i ≤ j)) := rfl
@[simp] theorem gt_ss {i j : List Nat} : cmpE .gt (.str i) (.str j) = some (decide (j < i)) := rfl
@[simp] theorem ge_ss {i j : List Nat} : cmpE .ge (.str i) (.str j) = some (decide (j ≤ i)) := rfl
@[simp] theorem int_i {i : Int} : biE .int [.int i] = some (.int i) := rfl
@[simp] theorem int_b {i : Bool} : biE .int [.bl i] = some (.int (b2i i)) := rfl
@[simp] theorem ord_c {c : Nat} : biE .ord [.str [c]] = some (.int c) := rfl
@[simp] theorem len_s {s : List Nat} : biE .len [.str s] = if s.length ≤ line then some (.int s.length) else none := rfl
@[simp] theorem len_t {s : List D} : biE .len [.tup s] = some (.int s.length) := rfl
@[simp] theorem len_l {s : List D} : biE .len [.lst s] = some (.int s.length) := rfl
@[simp] theorem tuple_t {s : List D} : biE .tuple [.tup s] = some (.tup s) := rfl
@[simp] theorem tuple_l {s : List D} : biE .tuple [.lst s] = some (.tup s) := rfl
@[simp] theorem map1 {M : Sto} {w : W} {Q : List D → Prop} : (∃ xs, List.mapM (deref M) [w] = some xs ∧ Q xs) ↔ ∃ x, deref M w = some x ∧ Q [x] := by
  cases h : deref M w <;> simp [h]
@[simp] theorem map2 {M : Sto} {w u : W} {Q : List D → Prop} : (∃ xs, List.mapM (deref M) [w, u] = some xs ∧ Q xs) ↔ ∃ x, deref M w = some x ∧ ∃ y, deref M u = some y ∧ Q [x, y] := by
  cases h : deref M w <;> cases h2 : deref M u <;> simp [h, h2]
@[simp] theorem ret_d {k : Nat} {x : D} {M : Sto} : retE k (.d x) M = some (.d x, M.take k) := rfl
@[simp] theorem setL_eq {δ : Loc} {i : Nat} {w : W} : setL δ i w = δ.set i (some w) := rfl
@[simp] theorem take_set' {M : Sto} {k : Nat} {o : MO} : (M.set k o).take M.length = M.set k o := take_set
@[simp] theorem nope (e : Ex) : isNop .nop = true := rfl
@[simp] theorem ex_and {α : Type} {c : Prop} {v : α} {Q : α → Prop} : (∃ z, (c ∧ v = z) ∧ Q z) ↔ c ∧ Q v :=
  ⟨fun ⟨z, ⟨h, e⟩, q⟩ => ⟨h, e ▸ q⟩, fun ⟨h, q⟩ => ⟨v, ⟨h, rfl⟩, q⟩⟩
theorem setQ_l {δ : Loc} {v : D} {k : Nat} {j : Int} {M : Sto} {N : Loc → Sto → Prop} {xs : List D} (h : M[k]? = some (.lst xs)) : setQ δ v k (.int j) M N ↔ ∃ p, ixN xs.length j = some p ∧ N δ (M.set k (.lst (xs.set p v))) := by
  unfold setQ
  rw [h]
  simp only
  cases ixN xs.length j <;> simp
theorem deref_set {M : Sto} {k : Nat} {xs : List D} (h : k < M.length) : deref (M.set k (.lst xs)) (.m k) = some (.lst xs) := deref_m (by rw [List.getElem?_set_self h])
theorem setQ_set {δ : Loc} {v : D} {k : Nat} {j : Int} {M : Sto} {N : Loc → Sto → Prop} {xs : List D} (h : k < M.length) : setQ δ v k (.int j) (M.set k (.lst xs)) N ↔ ∃ p, ixN xs.length j = some p ∧ N δ (M.set k (.lst (xs.set p v))) := by
  rw [setQ_l (xs := xs) (by rw [List.getElem?_set_self h])]
  simp only [List.set_set]
theorem at_lit {α : Type} {xs : List α} {k : Nat} (h : k < xs.length) : atI xs (k : Int) = xs[k]? := by
  unfold atI ixN
  rw [if_pos (by omega), if_pos (by omega)]
  rfl
@[simp] theorem at0 {α : Type} {x0 : α} {r : List α} : atI (x0 :: r) 0 = some x0 := (at_lit (k := 0) (by simp)).trans rfl
@[simp] theorem at1 {α : Type} {x0 x1 : α} {r : List α} : atI (x0 :: x1 :: r) 1 = some x1 := (at_lit (k := 1) (by simp)).trans rfl
@[simp] theorem at2 {α : Type} {x0 x1 x2 : α} {r : List α} : atI (x0 :: x1 :: x2 :: r) 2 = some x2 := (at_lit (k := 2) (by simp)).trans rfl
@[simp] theorem at3 {α : Type} {x0 x1 x2 x3 : α} {r : List α} : atI (x0 :: x1 :: x2 :: x3 :: r) 3 = some x3 := (at_lit (k := 3) (by simp)).trans rfl
@[simp] theorem at4 {α : Type} {x0 x1 x2 x3 x4 : α} {r : List α} : atI (x0 :: x1 :: x2 :: x3 :: x4 :: r) 4 = some x4 := (at_lit (k := 4) (by simp)).trans rfl
@[simp] theorem at5 {α : Type} {x0 x1 x2 x3 x4 x5 : α} {r : List α} : atI (x0 :: x1 :: x2 :: x3 :: x4 :: x5 :: r) 5 = some x5 := (at_lit (k := 5) (by simp)).trans rfl
@[simp] theorem at6 {α : Type} {x0 x1 x2 x3 x4 x5 x6 : α} {r : List α} : atI (x0 :: x1 :: x2 :: x3 :: x4 :: x5 :: x6 :: r) 6 = some x6 := (at_lit (k := 6) (by simp)).trans rfl
@[simp] theorem at7 {α : Type} {x0 x1 x2 x3 x4 x5 x6 x7 : α} {r : List α} : atI (x0 :: x1 :: x2 :: x3 :: x4 :: x5 :: x6 :: x7 :: r) 7 = some x7 := (at_lit (k := 7) (by simp)).trans rfl
@[simp] theorem at8 {α : Type} {x0 x1 x2 x3 x4 x5 x6 x7 x8 : α} {r : List α} : atI (x0 :: x1 :: x2 :: x3 :: x4 :: x5 :: x6 :: x7 :: x8 :: r) 8 = some x8 := (at_lit (k := 8) (by simp)).trans rfl
@[simp] theorem at9 {α : Type} {x0 x1 x2 x3 x4 x5 x6 x7 x8 x9 : α} {r : List α} : atI (x0 :: x1 :: x2 :: x3 :: x4 :: x5 :: x6 :: x7 :: x8 :: x9 :: r) 9 = some x9 := (at_lit (k := 9) (by simp)).trans rfl
@[simp] theorem ix30 : ixN 3 0 = some 0 := rfl
@[simp] theorem ix31 : ixN 3 1 = some 1 := rfl
@[simp] theorem ix32 : ixN 3 2 = some 2 := rfl
theorem mulOk_r {i j : Int} (h1 : -18446744073709551616 < j) (h2 : j < 18446744073709551616) : mulOk i j = true := by simp [mulOk, h1, h2]
@[simp] theorem pow1018 : binE .pow (.int 10) (.int 18) = some (.int 1000000000000000000) := rfl
@[simp] theorem ret_new {M : Sto} {xs : List D} : retE M.length (.m M.length) (M ++ [.lst xs]) = some (.m M.length, M ++ [.lst xs]) := by
  unfold retE
  simp
theorem W1.of {o : Option (W × Sto)} {w : W} {M : Sto} (h : o = some (w, M)) {Q : W → Sto → Prop} (q : Q w M) : W1 o Q := ⟨w, M, h, q⟩
theorem atI_lt {α : Type} {xs : List α} {i : Int} (h : 0 ≤ i) (h2 : i < xs.length) : ∃ x, atI xs i = some x ∧ x ∈ xs := by
  obtain ⟨k, rfl⟩ : ∃ k : Nat, i = k := ⟨i.toNat, by omega⟩
  have hk : k < xs.length := by omega
  exact ⟨xs[k], by rw [at_lit hk, List.getElem?_eq_getElem hk], List.getElem_mem hk⟩
theorem atI_map {α β : Type} {f : α → β} {xs : List α} {i : Int} : atI (xs.map f) i = (atI xs i).map f := by
  unfold atI
  rw [List.length_map]
  cases ixN xs.length i with
  | none => rfl
  | some k => simp
section
variable {C : Ctx} {δ : Loc} {M : Sto} {Q : W → Sto → Prop} {N : Loc → Sto → Prop} {R : W → Sto → Prop}
@[simp] theorem x_join {a b : Ex} : W1 (ev C (.join a b) δ M) Q ↔ W1 (ev C a δ M) fun w M1 => ∃ s, w = .d (.str s) ∧ W1 (ev C b δ M1) fun w M2 => ∃ xs, deref M2 w = some (.lst xs) ∧ ∃ ys, dStrs xs = some ys ∧ (ys.map List.length).sum + ys.length * s.length ≤ 16777216 ∧ Q (.d (.str (joinL s ys))) M2 := by
  rw [ev]
  cases ev C a δ M with
  | none => simp
  | some p =>
    obtain ⟨w, M1⟩ := p
    cases w with
    | m _ => simp
    | d z =>
      cases z <;> simp only [W1_some, W1_none, W.d.injEq, reduceCtorEq, false_and, exists_false, D.str.injEq, exists_eq_left']
      rename_i s
      cases h : ev C b δ M1 with
      | none => simp
      | some p =>
        obtain ⟨w, M2⟩ := p
        simp only [W1_some]
        cases h1 : deref M2 w with
        | none => simp
        | some x =>
          cases x <;> simp only [W1_some, W1_none, Option.some.injEq, reduceCtorEq, false_and, exists_false, D.lst.injEq, exists_eq_left']
          rename_i xs
          cases h2 : dStrs xs with
          | none => simp
          | some ys =>
            simp only [Option.some.injEq, exists_eq_left']
            by_cases hc : (ys.map List.length).sum + ys.length * s.length ≤ 16777216
            · rw [if_pos hc]; simp only [W1_some]; exact ⟨fun q => ⟨hc, q⟩, fun q => q.2⟩
            · rw [if_neg hc]; simp only [W1_none]; exact ⟨False.elim, fun q => hc q.1⟩
@[simp] theorem x_comp {mu : Bool} {own : List Nat} {elt : Ex} {tg : Tg} {k : IK} {its conds : List Ex} : W1 (ev C (.comp mu own elt tg k its conds) δ M) Q ↔ Wl (evws C its δ M) fun ws M1 => ∃ wk, walkE M1 k ws = some wk ∧
    Wd (compGo δ own tg wk (fun δ M => evc C conds δ M) (fun δ M => (ev C elt δ M).bind asD) wk.items M1) fun ys M2 => ys.length ≤ line ∧ finQ mu ys M2 Q := by
  rw [ev]
  cases evws C its δ M with
  | none => simp
  | some p =>
    obtain ⟨ws, M1⟩ := p
    simp only [Wl_some]
    cases h : walkE M1 k ws with
    | none => simp
    | some wk =>
      simp only [Option.some.injEq, exists_eq_left']
      cases compGo δ own tg wk (fun δ M => evc C conds δ M) (fun δ M => (ev C elt δ M).bind asD) wk.items M1 with
      | none => simp
      | some p =>
        obtain ⟨ys, M2⟩ := p
        simp only [Wd_some]
        by_cases hc : ys.length ≤ line
        · rw [if_pos hc, W1_fin]; exact ⟨fun q => ⟨hc, q⟩, fun q => q.2⟩
        · rw [if_neg hc, W1_none]; exact ⟨False.elim, fun q => hc q.1⟩
@[simp] theorem x_evc0 {Q : Bool → Sto → Prop} : Wb (evc C [] δ M) Q ↔ Q true M := by unfold evc; rw [Wb_some]
@[simp] theorem x_evc1 {e : Ex} {es : List Ex} {Q : Bool → Sto → Prop} : Wb (evc C (e :: es) δ M) Q ↔ W1 (ev C e δ M) fun w M1 => ∃ b, w = .d (.bl b) ∧ Q b M1 := by
  unfold evc
  cases ev C e δ M with
  | none => simp [-Bool.exists_bool]
  | some p =>
    obtain ⟨w, M1⟩ := p
    cases w with
    | m _ => simp [asB, -Bool.exists_bool]
    | d z => cases z <;> simp [asB, -Bool.exists_bool]
/-- a comprehension's turns by an invariant over what is left and what is made -/
theorem wd_comp {own : List Nat} {elt : Ex} {tg : Tg} {wk : Walk} {conds : List Ex} {Q : List D → Sto → Prop} (I : List D → List D → Sto → Prop)
    (hs : ∀ x r acc M, I (x :: r) acc M → ∃ δ1, bindT (wipe δ own) tg x = some δ1 ∧ Wb (evc C conds δ1 M) fun b M1 => if b = true then W1 (ev C elt δ1 M1) fun w M2 => ∃ y, w = .d y ∧ wk.ok M2 ∧ I r (acc ++ [y]) M2 else wk.ok M1 ∧ I r acc M1)
    (hd : ∀ acc M, I [] acc M → Q acc M) : ∀ (xs : List D) (acc : List D) (M : Sto), I xs acc M → Wd (compGo δ own tg wk (fun δ M => evc C conds δ M) (fun δ M => (ev C elt δ M).bind asD) xs M) fun ys M2 => Q (acc ++ ys) M2
  | [], acc, M, h => by unfold compGo; rw [Wd_some, List.append_nil]; exact hd acc M h
  | x :: r, acc, M, h => by
    obtain ⟨δ1, h1, b, M1, h2, h3⟩ := hs x r acc M h
    unfold compGo
    rw [h1]
    simp only [h2]
    cases b with
    | true =>
      rw [if_pos rfl] at h3 ⊢
      obtain ⟨w, M2, h4, y, rfl, h5, h6⟩ := h3
      obtain ⟨ys, M3, h7, h8⟩ := wd_comp I hs hd r (acc ++ [y]) M2 h6
      have e : (ev C elt δ1 M1).bind asD = some (y, M2) := by rw [h4]; rfl
      simp only [e, h5, if_true, h7]
      exact ⟨_, _, rfl, by rw [List.append_assoc] at h8; exact h8⟩
    | false =>
      rw [if_neg Bool.false_ne_true] at h3 ⊢
      rw [if_pos h3.1]
      exact wd_comp I hs hd r acc M1 h3.2
theorem wd_comp0 {own : List Nat} {elt : Ex} {tg : Tg} {wk : Walk} {conds : List Ex} {Q : List D → Sto → Prop} (I : List D → List D → Sto → Prop) {xs : List D} (h0 : I xs [] M)
    (hs : ∀ x r acc M, I (x :: r) acc M → ∃ δ1, bindT (wipe δ own) tg x = some δ1 ∧ Wb (evc C conds δ1 M) fun b M1 => if b = true then W1 (ev C elt δ1 M1) fun w M2 => ∃ y, w = .d y ∧ wk.ok M2 ∧ I r (acc ++ [y]) M2 else wk.ok M1 ∧ I r acc M1)
    (hd : ∀ acc M, I [] acc M → Q acc M) : Wd (compGo δ own tg wk (fun δ M => evc C conds δ M) (fun δ M => (ev C elt δ M).bind asD) xs M) Q := wd_comp (Q := Q) I hs hd xs [] M h0
/-- a bound of a slice -/
def Wo (C : Ctx) (e : Ex) (δ : Loc) (M : Sto) (Q : Option Int → Sto → Prop) : Prop := if isNop e then Q none M else W1 (ev C e δ M) fun w M1 => ∃ i, w = .d (.int i) ∧ Q (some i) M1
@[simp] theorem Wo_nop {Q : Option Int → Sto → Prop} : Wo C .nop δ M Q ↔ Q none M := by simp [Wo, isNop]
theorem Wo_e {e : Ex} {Q : Option Int → Sto → Prop} (h : isNop e = false) : Wo C e δ M Q ↔ W1 (ev C e δ M) fun w M1 => ∃ i, w = .d (.int i) ∧ Q (some i) M1 := by simp [Wo, h]
theorem wo_as {e : Ex} {Q : Option Int → Sto → Prop} : Wo C e δ M Q ↔ ∃ o M1, (if isNop e then some (none, M) else asI (ev C e δ M)) = some (o, M1) ∧ Q o M1 := by
  unfold Wo
  by_cases h : isNop e = true
  · rw [if_pos h, if_pos h]; simp
  · rw [if_neg h, if_neg h]
    cases ev C e δ M with
    | none => simp [asI]
    | some p =>
      obtain ⟨w, M1⟩ := p
      cases w with
      | m _ => simp [asI]
      | d z => cases z <;> simp [asI]
@[simp] theorem x_slc {mu : Bool} {a lo hi : Ex} : W1 (ev C (.slc mu a lo hi) δ M) Q ↔ W1 (ev C a δ M) fun w M1 => Wo C lo δ M1 fun l M2 => Wo C hi δ M2 fun h M3 => ∃ x, deref M3 w = some x ∧ W1 (slE mu x l h M3) Q := by
  rw [ev]
  cases ev C a δ M with
  | none => simp
  | some p =>
    obtain ⟨w, M1⟩ := p
    simp only [W1_some]
    rw [wo_as]
    cases h1 : (if isNop lo then some (none, M1) else asI (ev C lo δ M1)) with
    | none => simp
    | some p =>
      obtain ⟨l, M2⟩ := p
      simp only [Option.some.injEq, Prod.mk.injEq]
      constructor
      · intro q
        refine ⟨l, M2, ⟨rfl, rfl⟩, wo_as.mpr ?_⟩
        cases h2 : (if isNop hi then some (none, M2) else asI (ev C hi δ M2)) with
        | none => rw [h2] at q; simp at q
        | some p =>
          obtain ⟨h, M3⟩ := p
          rw [h2] at q
          refine ⟨h, M3, rfl, ?_⟩
          simp only at q
          cases h3 : deref M3 w with
          | none => rw [h3] at q; simp at q
          | some x => rw [h3] at q; exact ⟨x, rfl, q⟩
      · rintro ⟨_, _, ⟨rfl, rfl⟩, q⟩
        obtain ⟨h, M3, h2, x, h3, q⟩ := wo_as.mp q
        rw [h2]
        simp only [h3]
        exact q
@[simp] theorem sl_l {mu : Bool} {xs : List D} {l h : Option Int} : W1 (slE mu (.lst xs) l h M) Q ↔ finQ mu (cut xs l h) M Q := by
  show W1 (fin mu _ M) Q ↔ _
  rw [W1_fin]
@[simp] theorem sl_t {mu : Bool} {xs : List D} {l h : Option Int} : W1 (slE mu (.tup xs) l h M) Q ↔ Q (.d (.tup (cut xs l h))) M := by
  show W1 (some _) Q ↔ _
  rw [W1_some]
@[simp] theorem sl_s {mu : Bool} {xs : List Nat} {l h : Option Int} : W1 (slE mu (.str xs) l h M) Q ↔ xs.length ≤ line ∧ Q (.d (.str (cut xs l h))) M := by
  unfold slE
  by_cases hc : xs.length ≤ line <;> simp [hc]
@[simp] theorem x_mdic : W1 (ev C .mdic δ M) Q ↔ Q (.m M.length) (M ++ [.dic []]) := by rw [ev, W1_some]
/-- a while's turns by a measure -/
theorem w2_whl {c : Ex} {body : List Stm} (I : Nat → Loc → Sto → Prop)
    (hs : ∀ m δ M, I m δ M → W1 (ev C c δ M) fun w M1 => ∃ b, w = .d (.bl b) ∧ if b = true then W2 (exs C body δ M1) (fun δ2 M2 => ∃ j, j < m ∧ I j δ2 M2) R else N δ M1) :
    ∀ (m : Nat) (δ : Loc) (M : Sto), I m δ M → W2 (ex1 C (.whl c body) δ M) N R := by
  intro m
  induction m using Nat.strongRecOn with
  | ind m ih =>
    intro δ M h
    obtain ⟨w, M1, h1, b, rfl, h2⟩ := hs m δ M h
    rw [ex1, loopE_eq]
    simp only [h1]
    cases b with
    | false => rw [if_neg Bool.false_ne_true] at h2; simp only [W2_nx]; exact h2
    | true =>
      rw [if_pos rfl] at h2
      rcases h2 with ⟨δ2, M2, h3, j, hj, h4⟩ | ⟨w, M2, h3, h4⟩
      · simp only [h3]
        have := ih j hj δ2 M2 h4
        rw [ex1] at this
        exact this
      · simp only [h3, W2_rt]; exact h4
/-- a for's turns by an invariant over what is left -/
theorem w2_for {tg : Tg} {wk : Walk} {body : List Stm} (I : List D → Loc → Sto → Prop)
    (hs : ∀ x r δ M, I (x :: r) δ M → ∃ δ1, bindT δ tg x = some δ1 ∧ W2 (exs C body δ1 M) (fun δ2 M2 => wk.ok M2 ∧ I r δ2 M2) R) (hd : ∀ δ M, I [] δ M → N δ M) :
    ∀ (xs : List D) (δ : Loc) (M : Sto), I xs δ M → W2 (forGo tg wk (fun δ M => exs C body δ M) xs δ M) N R
  | [], δ, M, h => by unfold forGo; rw [W2_nx]; exact hd δ M h
  | x :: r, δ, M, h => by
    obtain ⟨δ1, h1, h2⟩ := hs x r δ M h
    unfold forGo
    rw [h1]
    rcases h2 with ⟨δ2, M2, h3, h4, h5⟩ | ⟨w, M2, h3, h4⟩
    · simp only [h3, h4, if_true]
      exact w2_for I hs hd r δ2 M2 h5
    · simp only [h3, W2_rt]; exact h4
@[simp] theorem wk_l {M : Sto} {xs : List D} : walkE M .seq [.d (.lst xs)] = some ⟨xs, none⟩ := rfl
@[simp] theorem wk_t {M : Sto} {xs : List D} : walkE M .seq [.d (.tup xs)] = some ⟨xs, none⟩ := rfl
@[simp] theorem wk_s {M : Sto} {xs : List Nat} : walkE M .seq [.d (.str xs)] = some ⟨xs.map fun c => .str [c], none⟩ := rfl
@[simp] theorem wk_r1 {M : Sto} {j : Int} : walkE M .rng1 [.d (.int j)] = if j ≤ 16777216 ∧ -16777216 ≤ j then some ⟨rangeL 0 j.toNat, none⟩ else none := rfl
@[simp] theorem wk_r2 {M : Sto} {i j : Int} : walkE M .rng2 [.d (.int i), .d (.int j)] = if -1073741824 ≤ i ∧ i ≤ 1073741824 ∧ -1073741824 ≤ j ∧ j ≤ 1073741824 ∧ j - i ≤ 16777216 then some ⟨rangeL i (j - i).toNat, none⟩ else none := rfl
@[simp] theorem wk_e {M : Sto} {xs : List D} : walkE M .enum [.d (.lst xs)] = some ⟨enumL 0 xs, none⟩ := rfl
@[simp] theorem wk_zl {M : Sto} {xs ys : List D} : walkE M .zip [.d (.lst xs), .d (.lst ys)] = some ⟨zipL xs ys, none⟩ := rfl
@[simp] theorem wk_zt {M : Sto} {xs ys : List D} : walkE M .zip [.d (.tup xs), .d (.tup ys)] = some ⟨zipL xs ys, none⟩ := rfl
@[simp] theorem wk_vl {M : Sto} {xs : List D} : walkE M .rev [.d (.lst xs)] = some ⟨xs.reverse, none⟩ := rfl
@[simp] theorem wk_vt {M : Sto} {xs : List D} : walkE M .rev [.d (.tup xs)] = some ⟨xs.reverse, none⟩ := rfl
@[simp] theorem ok_none {xs : List D} {M : Sto} : Walk.ok ⟨xs, none⟩ M ↔ True := Iff.rfl
@[simp] theorem bind_nm {i : Nat} {x : D} : bindT δ (.nm i) x = some (δ.set i (some (.d x))) := rfl
@[simp] theorem wipe_cons {i : Nat} {is : List Nat} : wipe δ (i :: is) = wipe (δ.set i none) is := rfl
@[simp] theorem wipe_nil : wipe δ [] = δ := rfl
end
theorem dStrs_map : ∀ ys : List (List Nat), dStrs (ys.map D.str) = some ys
  | [] => rfl
  | y :: r => by show (dStrs (r.map D.str)).map _ = _; rw [dStrs_map r]; rfl
theorem dStrs_chars (ys : List Nat) : dStrs (ys.map fun c => D.str [c]) = some (ys.map fun c => [c]) := by
  rw [← dStrs_map, List.map_map]
  rfl
theorem join_chars : ∀ ys : List Nat, joinL [] (ys.map fun c => [c]) = ys
  | [] => rfl
  | [a] => rfl
  | a :: b :: r => by
    show [a] ++ [] ++ joinL [] ((b :: r).map fun c => [c]) = _
    rw [join_chars (b :: r)]
    rfl
theorem sum_chars : ∀ ys : List Nat, ((ys.map fun c => [c]).map List.length).sum = ys.length
  | [] => rfl
  | a :: r => by
    have := sum_chars r
    simp only [List.map_cons, List.sum_cons, List.length_cons, List.length_nil]
    omega
/-- a range from its i-th on -/
def rngF (m i : Nat) : List D := ((List.range m).drop i).map fun k : Nat => D.int (k : Int)
theorem rngF_0 (m : Nat) : rangeL 0 m = rngF m 0 := by
  unfold rangeL rngF
  simp
theorem rngF_cons {m i : Nat} {x : D} {r : List D} (h : x :: r = rngF m i) : i < m ∧ x = .int (i : Int) ∧ r = rngF m (i + 1) := by
  unfold rngF at h ⊢
  by_cases hi : i < m
  · have : (List.range m).drop i = i :: (List.range m).drop (i + 1) := by
      rw [List.drop_eq_getElem_cons (by simpa using hi)]
      simp
    rw [this, List.map_cons] at h
    cases h
    exact ⟨hi, rfl, rfl⟩
  · rw [List.drop_eq_nil_of_le (by simpa using hi)] at h
    cases h
theorem rngF_nil {m i : Nat} (h : [] = rngF m i) : m ≤ i := by
  unfold rngF at h
  have := congrArg List.length h
  simp at this
  omega
section
variable {C : Ctx} {δ : Loc} {M : Sto} {Q : Option Int → Sto → Prop}
@[simp] theorem wo_cst {x : D} : Wo C (.cst x) δ M Q ↔ W1 (ev C (.cst x) δ M) fun w M1 => ∃ i, w = .d (.int i) ∧ Q (some i) M1 := Wo_e rfl
@[simp] theorem wo_var {x : Nat} : Wo C (.var x) δ M Q ↔ W1 (ev C (.var x) δ M) fun w M1 => ∃ i, w = .d (.int i) ∧ Q (some i) M1 := Wo_e rfl
@[simp] theorem wo_glb {x : String} : Wo C (.glb x) δ M Q ↔ W1 (ev C (.glb x) δ M) fun w M1 => ∃ i, w = .d (.int i) ∧ Q (some i) M1 := Wo_e rfl
@[simp] theorem wo_neg {x : Ex} : Wo C (.neg x) δ M Q ↔ W1 (ev C (.neg x) δ M) fun w M1 => ∃ i, w = .d (.int i) ∧ Q (some i) M1 := Wo_e rfl
@[simp] theorem wo_bin {o : BOp} {a b : Ex} : Wo C (.bin o a b) δ M Q ↔ W1 (ev C (.bin o a b) δ M) fun w M1 => ∃ i, w = .d (.int i) ∧ Q (some i) M1 := Wo_e rfl
@[simp] theorem wo_ix {a b : Ex} : Wo C (.ix a b) δ M Q ↔ W1 (ev C (.ix a b) δ M) fun w M1 => ∃ i, w = .d (.int i) ∧ Q (some i) M1 := Wo_e rfl
@[simp] theorem wo_bi {f : Bi} {es : List Ex} : Wo C (.bi f es) δ M Q ↔ W1 (ev C (.bi f es) δ M) fun w M1 => ∃ i, w = .d (.int i) ∧ Q (some i) M1 := Wo_e rfl
@[simp] theorem wo_call {f : String} {es : List Ex} : Wo C (.call f es) δ M Q ↔ W1 (ev C (.call f es) δ M) fun w M1 => ∃ i, w = .d (.int i) ∧ Q (some i) M1 := Wo_e rfl
@[simp] theorem wo_ite {a b c : Ex} : Wo C (.ite a b c) δ M Q ↔ W1 (ev C (.ite a b c) δ M) fun w M1 => ∃ i, w = .d (.int i) ∧ Q (some i) M1 := Wo_e rfl
end
theorem cut_map {α β : Type} {f : α → β} {xs : List α} {l h : Option Int} : cut (xs.map f) l h = (cut xs l h).map f := by
  unfold cut
  rw [List.length_map, List.map_take, List.map_drop]
theorem cut_to {α : Type} {xs : List α} {k : Int} (hk : 0 ≤ k) : cut xs none (some k) = xs.take k.toNat := by
  unfold cut sIx
  simp only [List.drop_zero, Nat.sub_zero]
  rw [if_neg (by omega), List.take_eq_take_iff]
  omega
theorem appQ_l {k : Nat} {x : D} {M : Sto} {Q : W → Sto → Prop} {xs : List D} (h : M[k]? = some (.lst xs)) (hl : xs.length < 16777216) (q : Q (.d .non) (M.set k (.lst (xs ++ [x])))) : appQ k x M Q := by
  unfold appQ
  rw [h]
  exact ⟨hl, q⟩
theorem get_set' {M : Sto} {k : Nat} {o u : MO} (h : M[k]? = some u) : (M.set k o)[k]? = some o := by rw [List.getElem?_set_self (List.getElem?_eq_some_iff.mp h).1]
theorem get_app {M : Sto} {k : Nat} {o u : MO} (h : M[k]? = some u) : (M ++ [o])[k]? = some u := by rw [List.getElem?_append_left (List.getElem?_eq_some_iff.mp h).1]; exact h
theorem get_new {M : Sto} {o : MO} : (M ++ [o])[M.length]? = some o := by simp
theorem x_for0 {δ : Loc} {M : Sto} {N : Loc → Sto → Prop} {R : W → Sto → Prop} {tg : Tg} {wk : Walk} {body : Loc → Sto → Option Fl} : W2 (forGo tg wk body [] δ M) N R ↔ N δ M := by unfold forGo; rw [W2_nx]
theorem x_for1 {δ : Loc} {M : Sto} {N : Loc → Sto → Prop} {R : W → Sto → Prop} {tg : Tg} {wk : Walk} {body : Loc → Sto → Option Fl} {x : D} {r : List D} : W2 (forGo tg wk body (x :: r) δ M) N R ↔ ∃ δ1, bindT δ tg x = some δ1 ∧ W2 (body δ1 M) (fun δ2 M2 => wk.ok M2 ∧ W2 (forGo tg wk body r δ2 M2) N R) R := by
  rw [forGo]
  cases bindT δ tg x with
  | none => simp
  | some δ1 =>
    simp only [Option.some.injEq, exists_eq_left']
    cases body δ1 M with
    | none => simp
    | some f =>
      cases f with
      | rt w M1 => simp
      | nx δ2 M1 =>
        simp only [W2_nx]
        by_cases h : wk.ok M1 <;> simp [h]
@[simp] theorem isN_i {i : Int} : cmpE .isN (.int i) .non = some false := rfl
@[simp] theorem isN_s {i : List Nat} : cmpE .isN (.str i) .non = some false := rfl
@[simp] theorem isN_n : cmpE .isN .non .non = some true := rfl
@[simp] theorem notN_i {i : Int} : cmpE .notN (.int i) .non = some true := rfl
@[simp] theorem notN_s {i : List Nat} : cmpE .notN (.str i) .non = some true := rfl
@[simp] theorem notN_n : cmpE .notN .non .non = some false := rfl
@[simp] theorem max2_i {i j : Int} : biE .max2 [.int i, .int j] = some (.int (if j > i then j else i)) := rfl
@[simp] theorem min2_i {i j : Int} : biE .min2 [.int i, .int j] = some (.int (if j < i then j else i)) := rfl
/-- a statement, a place between, the rest -/
theorem seq_cut {C : Ctx} {δ : Loc} {M : Sto} {N : Loc → Sto → Prop} {R : W → Sto → Prop} {s : Stm} {r : List Stm} (Mid : Loc → Sto → Prop) (h : W2 (ex1 C s δ M) Mid R) (k : ∀ δ1 M1, Mid δ1 M1 → W2 (exs C r δ1 M1) N R) : W2 (exs C (s :: r) δ M) N R := by
  rw [x_cons]
  exact h.mono k fun _ _ q => q
theorem cut_lenP {α : Type} {xs : List α} {i j : Int} (h1 : 0 ≤ i) (h2 : 0 ≤ j) : (cut xs (some i) (some j)).length ≤ (j - i).toNat := by
  have e : ∀ (n d : Nat) (v : Int), 0 ≤ v → sIx n d (some v) = min v.toNat n := fun n d v h => by
    unfold sIx
    simp only
    rw [if_neg (by omega)]
  unfold cut
  rw [e _ _ _ h1, e _ _ _ h2, List.length_take, List.length_drop]
  omega
theorem cut_mem {α : Type} {xs : List α} {i j : Option Int} {x : α} (h : x ∈ cut xs i j) : x ∈ xs := by
  unfold cut at h
  exact List.mem_of_mem_drop (List.mem_of_mem_take h)
@[simp] theorem pow1020 : binE .pow (.int 10) (.int 20) = some (.int 100000000000000000000) := rfl
@[simp] theorem pow1019 : binE .pow (.int 10) (.int 19) = some (.int 10000000000000000000) := rfl
/-- a comprehension that only looks: what it keeps, and what it makes of it -/
theorem wd_pure {C : Ctx} {δ : Loc} {M : Sto} {own : List Nat} {elt : Ex} {tg : Tg} {wk : Walk} {conds : List Ex} {Q : List D → Sto → Prop} {α : Type} {f : α → D} (p : α → Bool) (g : α → D) (hw : wk.ok M) : ∀ (xs : List α)
    (hs : ∀ x ∈ xs, ∃ δ1, bindT (wipe δ own) tg (f x) = some δ1 ∧ Wb (evc C conds δ1 M) (fun b M1 => M1 = M ∧ b = p x) ∧ (p x = true → W1 (ev C elt δ1 M) fun w M2 => M2 = M ∧ w = .d (g x)))
    (q : Q ((xs.filter p).map g) M), Wd (compGo δ own tg wk (fun δ M => evc C conds δ M) (fun δ M => (ev C elt δ M).bind asD) (xs.map f) M) Q := by
  intro xs hs q
  have : compGo δ own tg wk (fun δ M => evc C conds δ M) (fun δ M => (ev C elt δ M).bind asD) (xs.map f) M = some ((xs.filter p).map g, M) := by
    clear q
    induction xs with
    | nil => rfl
    | cons x r ih =>
      have ih := ih fun y hy => hs y (List.mem_cons_of_mem _ hy)
      obtain ⟨δ1, h1, ⟨b, M1, h2, rfl, rfl⟩, h3⟩ := hs x List.mem_cons_self
      rw [List.map_cons]
      unfold compGo
      rw [h1]
      simp only [h2]
      by_cases hp : p x = true
      · obtain ⟨w, M2, h4, rfl, rfl⟩ := h3 hp
        have e : (ev C elt δ1 M2).bind asD = some (g x, M2) := by rw [h4]; rfl
        rw [if_pos hp, e]
        simp only [hw, if_true, ih]
        rw [List.filter_cons_of_pos hp]
        rfl
      · rw [if_neg hp, if_pos hw, ih, List.filter_cons_of_neg hp]
  rw [this, Wd_some]
  exact q
end Pv

/-! Sp1: drawing from the script. -/
namespace Pv
def d_law_source : Fn := ⟨1, 1, [.ret (.lst true [.var 0, .bi .int [.cmp .ge (.var 0) (.bin .pow (.cst (.int 10)) (.cst (.int 18)))], .cst (.int 0)])]⟩
def d_law_draw : Fn := ⟨2, 4, [.ifs (.cmp .eq (.ix (.var 0) (.cst (.int 1))) (.cst (.int 1))) [.asg 2 (.bin .mod (.bi .int [.ix (.var 0) (.cst (.int 0))]) (.var 1)), .setix (.var 0) (.cst (.int 0)) (.bin .fdiv (.ix (.var 0) (.cst (.int 0))) (.var 1)), .ret (.var 2)] [], .setix (.var 0) (.cst (.int 2)) (.bin .add (.ix (.var 0) (.cst (.int 2))) (.cst (.int 1))), .asg 3 (.bin .mod (.bi .int [.bin .add (.bin .mul (.ix (.var 0) (.cst (.int 0))) (.cst (.int 48271))) (.bin .mul (.ix (.var 0) (.cst (.int 2))) (.cst (.int 69621)))]) (.cst (.int 2147483647))), .asg 3 (.bin .mod (.bi .int [.bin .add (.bin .add (.bin .mul (.var 3) (.var 3)) (.bin .mul (.ix (.var 0) (.cst (.int 2))) (.cst (.int 7919)))) (.bin .fdiv (.var 3) (.cst (.int 1024)))]) (.cst (.int 2147483629))), .ret (.bin .mod (.bi .int [.bin .fdiv (.var 3) (.cst (.int 32))]) (.var 1))]⟩
/-- a source of draws -/
def Src (M : Sto) (k : Nat) : Prop := ∃ a b c : Int, M[k]? = some (.lst [.int a, .int b, .int c])
theorem src_set {M : Sto} {k : Nat} {a b c : Int} (h : Src M k) : Src (M.set k (.lst [.int a, .int b, .int c])) k := by
  obtain ⟨_, _, _, h⟩ := h
  exact ⟨a, b, c, by rw [List.getElem?_set_self (List.getElem?_eq_some_iff.mp h).1]⟩
theorem get_set {M : Sto} {k : Nat} {o u : MO} (h : M[k]? = some u) : (M.set k o)[k]? = some o := by rw [List.getElem?_set_self (List.getElem?_eq_some_iff.mp h).1]
section
variable {P : Prog} {n : Nat} {M : Sto}
theorem sp_draw (hf : P.fn "_law_draw" = some d_law_draw) (hn : 1 ≤ n) {k : Nat} {m : Int} (h : Src M k) (hm : 0 < m) (hm2 : m < 1606938044258990275541962092341162602522202993782792835301376) :
    W1 (callF P n "_law_draw" [.m k, .d (.int m)] M) fun w M' => ∃ r a b c : Int, w = .d (.int r) ∧ M' = M.set k (.lst [.int a, .int b, .int c]) ∧ 0 ≤ r ∧ r < m := by
  obtain ⟨a, b, c, h⟩ := h
  have hm3 : m < 1606938044258990275541962092341162602522202993782792835301376 := by omega
  refine x_run hn hf rfl ?_
  have hk := (List.getElem?_eq_some_iff.mp h).1
  simp only [W1_none, W1_some, Wl_none, Wl_some, Wd_none, Wd_some, Wb_none, Wb_some, W2_none, W2_nx, W2_rt, x_var, x_frz, x_cst, x_glb, x_evs0, x_evs1, x_ws0, x_ws1, x_tup, W1_fin, finQ_t, finQ_f, x_lst, x_bin, x_cat, x_ix, x_cmp, x_nt, x_neg, x_an, x_or, x_an0, x_or0, x_an1, x_or1, x_ite, x_call, x_bi, x_isi, x_nil, x_cons, x_asg, x_unp, x_ret, x_ex, x_ifs, x_fr, x_setix, x_app, x_mkl, deref_d, ex_if, add_ii, sub_ii, mul_ii, mod_ii, div_ii, add_ss, add_ll, add_tt, mul_si, ix_li, ix_ti, ix_si, eq_ii, ne_ii, eq_ss, ne_ss, lt_ii, le_ii, gt_ii, ge_ii, lt_ss, le_ss, gt_ss, ge_ss, int_i, int_b, ord_c, len_s, len_t, len_l, tuple_t, tuple_l, map1, map2, ret_d, setL_eq, take_set', nope, ex_and, at0, at1, at2, at3, at4, at5, at6, at7, at8, at9, ix30, ix31, ix32, pow1018, ret_new, x_join, x_comp, x_evc0, x_evc1, Wo_nop, x_slc, sl_l, sl_t, sl_s, x_mdic, wk_l, wk_t, wk_s, wk_r1, wk_r2, wk_e, wk_zl, wk_zt, wk_vl, wk_vt, ok_none, bind_nm, wipe_cons, wipe_nil, wo_cst, wo_var, wo_glb, wo_neg, wo_bin, wo_ix, wo_bi, wo_call, wo_ite, isN_i, isN_s, isN_n, notN_i, notN_s, notN_n, max2_i, min2_i, pow1020, pow1019, List.map_cons, List.map_nil, List.cons_append, List.nil_append, List.append_nil, List.replicate_succ, List.replicate_zero, List.getElem?_cons_zero, List.getElem?_cons_succ, List.set_cons_zero, List.set_cons_succ, List.length_cons, List.length_nil, List.length_set, Option.some.injEq, W.d.injEq, W.m.injEq, D.int.injEq, D.bl.injEq, D.str.injEq, D.tup.injEq, D.lst.injEq, exists_eq_left', exists_eq_left, exists_eq, decide_eq_true_eq, and_true, true_and, if_true, if_false, Nat.reduceSub, Nat.reduceAdd, reduceCtorEq, false_and, exists_false, and_self, ite_true, ite_false, Bool.false_eq_true, Int.reduceLT, Int.reduceLE, Int.reduceNeg, Nat.reduceLeDiff, Int.toNat_zero, eq_self, d_law_draw, deref_m h, setQ_l h, deref_set hk, setQ_set hk, hm, hm3]
  split
  · exact ⟨_, _, _, _, rfl, rfl, Int.emod_nonneg _ (by omega), Int.emod_lt_of_pos _ hm⟩
  · have h1 := Int.emod_nonneg (a * 48271 + (c + 1) * 69621) (by omega : (2147483647 : Int) ≠ 0)
    have h2 := Int.emod_lt_of_pos (a * 48271 + (c + 1) * 69621) (by omega : (0 : Int) < 2147483647)
    refine ⟨mulOk_r (by omega) (by omega), mulOk_r (by omega) (by omega), mulOk_r (by omega) (by omega), mulOk_r (by omega) (by omega), _, _, _, _, rfl, rfl, Int.emod_nonneg _ (by omega), Int.emod_lt_of_pos _ hm⟩
/-- draws were made of the source k -/
def Dr (M : Sto) (k : Nat) (M' : Sto) : Prop := ∃ a b c : Int, M' = M.set k (.lst [.int a, .int b, .int c])
theorem Dr.len {M M' : Sto} {k : Nat} (d : Dr M k M') : M'.length = M.length := by obtain ⟨_, _, _, rfl⟩ := d; simp
theorem Dr.src {M M' : Sto} {k : Nat} (d : Dr M k M') (h : Src M k) : Src M' k := by obtain ⟨_, _, _, rfl⟩ := d; exact src_set h
theorem Dr.trans {M M1 M2 : Sto} {k : Nat} (d : Dr M k M1) (e : Dr M1 k M2) : Dr M k M2 := by
  obtain ⟨_, _, _, rfl⟩ := d
  obtain ⟨a, b, c, rfl⟩ := e
  exact ⟨a, b, c, by rw [List.set_set]⟩
theorem Dr.get {M M1 : Sto} {k j : Nat} (d : Dr M k M1) (h : j ≠ k) : M1[j]? = M[j]? := by
  obtain ⟨_, _, _, rfl⟩ := d
  rw [List.getElem?_set_ne (Ne.symm h)]
theorem Dr.take {M M1 : Sto} {k : Nat} (d : Dr M k M1) : M1.take M.length = M1 := List.take_of_length_le (by rw [d.len]; exact Nat.le_refl _)
theorem Dr.fresh {M M1 : Sto} {o : MO} (d : Dr (M ++ [o]) M.length M1) : M1.take M.length = M := by
  obtain ⟨_, _, _, rfl⟩ := d
  rw [List.set_append_right _ _ (Nat.le_refl _)]
  simp
/-- a draw, and what follows -/
theorem do_draw (hf : P.fn "_law_draw" = some d_law_draw) (hn : 1 ≤ n) {k : Nat} {m : Int} {Q : W → Sto → Prop} (h : Src M k) (hm : 0 < m) (hm2 : m < 1606938044258990275541962092341162602522202993782792835301376)
    (q : ∀ (r : Int) (M' : Sto), 0 ≤ r → r < m → Dr M k M' → Src M' k → Q (.d (.int r)) M') : W1 (callF P n "_law_draw" [.m k, .d (.int m)] M) Q :=
  (sp_draw hf hn h hm hm2).mono fun w M' ⟨r, a, b, c, e1, e2, h1, h2⟩ => by subst e1 e2; exact q r _ h1 h2 ⟨a, b, c, rfl⟩ (src_set h)
theorem sp_source (hf : P.fn "_law_source" = some d_law_source) (hn : 1 ≤ n) {a : Int} {Q : W → Sto → Prop}
    (q : ∀ b c : Int, Q (.m M.length) (M ++ [.lst [.int a, .int b, .int c]])) : W1 (callF P n "_law_source" [.d (.int a)] M) Q := by
  refine x_run hn hf rfl ?_
  simp only [W1_none, W1_some, Wl_none, Wl_some, Wd_none, Wd_some, Wb_none, Wb_some, W2_none, W2_nx, W2_rt, x_var, x_frz, x_cst, x_glb, x_evs0, x_evs1, x_ws0, x_ws1, x_tup, W1_fin, finQ_t, finQ_f, x_lst, x_bin, x_cat, x_ix, x_cmp, x_nt, x_neg, x_an, x_or, x_an0, x_or0, x_an1, x_or1, x_ite, x_call, x_bi, x_isi, x_nil, x_cons, x_asg, x_unp, x_ret, x_ex, x_ifs, x_fr, x_setix, x_app, x_mkl, deref_d, ex_if, add_ii, sub_ii, mul_ii, mod_ii, div_ii, add_ss, add_ll, add_tt, mul_si, ix_li, ix_ti, ix_si, eq_ii, ne_ii, eq_ss, ne_ss, lt_ii, le_ii, gt_ii, ge_ii, lt_ss, le_ss, gt_ss, ge_ss, int_i, int_b, ord_c, len_s, len_t, len_l, tuple_t, tuple_l, map1, map2, ret_d, setL_eq, take_set', nope, ex_and, at0, at1, at2, at3, at4, at5, at6, at7, at8, at9, ix30, ix31, ix32, pow1018, ret_new, x_join, x_comp, x_evc0, x_evc1, Wo_nop, x_slc, sl_l, sl_t, sl_s, x_mdic, wk_l, wk_t, wk_s, wk_r1, wk_r2, wk_e, wk_zl, wk_zt, wk_vl, wk_vt, ok_none, bind_nm, wipe_cons, wipe_nil, wo_cst, wo_var, wo_glb, wo_neg, wo_bin, wo_ix, wo_bi, wo_call, wo_ite, isN_i, isN_s, isN_n, notN_i, notN_s, notN_n, max2_i, min2_i, pow1020, pow1019, List.map_cons, List.map_nil, List.cons_append, List.nil_append, List.append_nil, List.replicate_succ, List.replicate_zero, List.getElem?_cons_zero, List.getElem?_cons_succ, List.set_cons_zero, List.set_cons_succ, List.length_cons, List.length_nil, List.length_set, Option.some.injEq, W.d.injEq, W.m.injEq, D.int.injEq, D.bl.injEq, D.str.injEq, D.tup.injEq, D.lst.injEq, exists_eq_left', exists_eq_left, exists_eq, decide_eq_true_eq, and_true, true_and, if_true, if_false, Nat.reduceSub, Nat.reduceAdd, reduceCtorEq, false_and, exists_false, and_self, ite_true, ite_false, Bool.false_eq_true, Int.reduceLT, Int.reduceLE, Int.reduceNeg, Nat.reduceLeDiff, Int.toNat_zero, eq_self, d_law_source]
  exact q _ _
def d_law_char : Fn := ⟨1, 2, [.asg 1 (.cst (.str [32, 33, 34, 35, 36, 38, 39, 40, 41, 42, 43, 44, 45, 46, 47, 48, 49, 50, 51, 52, 53, 54, 55, 56, 57, 58, 59, 60, 61, 62, 63, 64, 65, 66, 67, 68, 69, 70, 71, 72, 73, 74, 75, 76, 77, 78, 79, 80, 81, 82, 83, 84, 85, 86, 87, 88, 89, 90, 91, 92, 93, 94, 95, 96])), .asg 1 (.bin .add (.var 1) (.cst (.str [97, 98, 99, 100, 101, 102, 103, 104, 105, 106, 107, 108, 109, 110, 111, 112, 113, 114, 115, 116, 117, 118, 119, 120, 121, 122, 123, 124, 125, 126]))), .ret (.ix (.var 1) (.call "_law_draw" [.var 0, .cst (.int 94)]))]⟩
/-- what is drawn of -/
def draws (c : Nat) : Prop := 32 ≤ c ∧ c ≤ 126 ∧ c ≠ 37
def chars : List Nat := [32, 33, 34, 35, 36, 38, 39, 40, 41, 42, 43, 44, 45, 46, 47, 48, 49, 50, 51, 52, 53, 54, 55, 56, 57, 58, 59, 60, 61, 62, 63, 64, 65, 66, 67, 68, 69, 70, 71, 72, 73, 74, 75, 76, 77, 78, 79, 80, 81, 82, 83, 84, 85, 86, 87, 88, 89, 90, 91, 92, 93, 94, 95, 96, 97, 98, 99, 100, 101, 102, 103, 104, 105, 106, 107, 108, 109, 110, 111, 112, 113, 114, 115, 116, 117, 118, 119, 120, 121, 122, 123, 124, 125, 126]
theorem chars_ok : ∀ x ∈ chars, draws x := by unfold draws; decide
theorem do_char (hf : P.fn "_law_char" = some d_law_char) (hd : P.fn "_law_draw" = some d_law_draw) (hn : 2 ≤ n) {k : Nat} {Q : W → Sto → Prop} (h : Src M k)
    (q : ∀ (x : Nat) (M' : Sto), draws x → Dr M k M' → Src M' k → Q (.d (.str [x])) M') : W1 (callF P n "_law_char" [.m k] M) Q := by
  refine x_run (by omega) hf rfl ?_
  simp only [W1_none, W1_some, Wl_none, Wl_some, Wd_none, Wd_some, Wb_none, Wb_some, W2_none, W2_nx, W2_rt, x_var, x_frz, x_cst, x_glb, x_evs0, x_evs1, x_ws0, x_ws1, x_tup, W1_fin, finQ_t, finQ_f, x_lst, x_bin, x_cat, x_ix, x_cmp, x_nt, x_neg, x_an, x_or, x_an0, x_or0, x_an1, x_or1, x_ite, x_call, x_bi, x_isi, x_nil, x_cons, x_asg, x_unp, x_ret, x_ex, x_ifs, x_fr, x_setix, x_app, x_mkl, deref_d, ex_if, add_ii, sub_ii, mul_ii, mod_ii, div_ii, add_ss, add_ll, add_tt, mul_si, ix_li, ix_ti, ix_si, eq_ii, ne_ii, eq_ss, ne_ss, lt_ii, le_ii, gt_ii, ge_ii, lt_ss, le_ss, gt_ss, ge_ss, int_i, int_b, ord_c, len_s, len_t, len_l, tuple_t, tuple_l, map1, map2, ret_d, setL_eq, take_set', nope, ex_and, at0, at1, at2, at3, at4, at5, at6, at7, at8, at9, ix30, ix31, ix32, pow1018, ret_new, x_join, x_comp, x_evc0, x_evc1, Wo_nop, x_slc, sl_l, sl_t, sl_s, x_mdic, wk_l, wk_t, wk_s, wk_r1, wk_r2, wk_e, wk_zl, wk_zt, wk_vl, wk_vt, ok_none, bind_nm, wipe_cons, wipe_nil, wo_cst, wo_var, wo_glb, wo_neg, wo_bin, wo_ix, wo_bi, wo_call, wo_ite, isN_i, isN_s, isN_n, notN_i, notN_s, notN_n, max2_i, min2_i, pow1020, pow1019, List.map_cons, List.map_nil, List.cons_append, List.nil_append, List.append_nil, List.replicate_succ, List.replicate_zero, List.getElem?_cons_zero, List.getElem?_cons_succ, List.set_cons_zero, List.set_cons_succ, List.length_cons, List.length_nil, List.length_set, Option.some.injEq, W.d.injEq, W.m.injEq, D.int.injEq, D.bl.injEq, D.str.injEq, D.tup.injEq, D.lst.injEq, exists_eq_left', exists_eq_left, exists_eq, decide_eq_true_eq, and_true, true_and, if_true, if_false, Nat.reduceSub, Nat.reduceAdd, reduceCtorEq, false_and, exists_false, and_self, ite_true, ite_false, Bool.false_eq_true, Int.reduceLT, Int.reduceLE, Int.reduceNeg, Nat.reduceLeDiff, Int.toNat_zero, eq_self, d_law_char]
  refine ⟨(by decide), do_draw hd (by omega) h (by omega) (by omega) fun r M1 h1 h2 d1 h3 => ?_⟩
  simp only [W1_none, W1_some, Wl_none, Wl_some, Wd_none, Wd_some, Wb_none, Wb_some, W2_none, W2_nx, W2_rt, x_var, x_frz, x_cst, x_glb, x_evs0, x_evs1, x_ws0, x_ws1, x_tup, W1_fin, finQ_t, finQ_f, x_lst, x_bin, x_cat, x_ix, x_cmp, x_nt, x_neg, x_an, x_or, x_an0, x_or0, x_an1, x_or1, x_ite, x_call, x_bi, x_isi, x_nil, x_cons, x_asg, x_unp, x_ret, x_ex, x_ifs, x_fr, x_setix, x_app, x_mkl, deref_d, ex_if, add_ii, sub_ii, mul_ii, mod_ii, div_ii, add_ss, add_ll, add_tt, mul_si, ix_li, ix_ti, ix_si, eq_ii, ne_ii, eq_ss, ne_ss, lt_ii, le_ii, gt_ii, ge_ii, lt_ss, le_ss, gt_ss, ge_ss, int_i, int_b, ord_c, len_s, len_t, len_l, tuple_t, tuple_l, map1, map2, ret_d, setL_eq, take_set', nope, ex_and, at0, at1, at2, at3, at4, at5, at6, at7, at8, at9, ix30, ix31, ix32, pow1018, ret_new, x_join, x_comp, x_evc0, x_evc1, Wo_nop, x_slc, sl_l, sl_t, sl_s, x_mdic, wk_l, wk_t, wk_s, wk_r1, wk_r2, wk_e, wk_zl, wk_zt, wk_vl, wk_vt, ok_none, bind_nm, wipe_cons, wipe_nil, wo_cst, wo_var, wo_glb, wo_neg, wo_bin, wo_ix, wo_bi, wo_call, wo_ite, isN_i, isN_s, isN_n, notN_i, notN_s, notN_n, max2_i, min2_i, pow1020, pow1019, List.map_cons, List.map_nil, List.cons_append, List.nil_append, List.append_nil, List.replicate_succ, List.replicate_zero, List.getElem?_cons_zero, List.getElem?_cons_succ, List.set_cons_zero, List.set_cons_succ, List.length_cons, List.length_nil, List.length_set, Option.some.injEq, W.d.injEq, W.m.injEq, D.int.injEq, D.bl.injEq, D.str.injEq, D.tup.injEq, D.lst.injEq, exists_eq_left', exists_eq_left, exists_eq, decide_eq_true_eq, and_true, true_and, if_true, if_false, Nat.reduceSub, Nat.reduceAdd, reduceCtorEq, false_and, exists_false, and_self, ite_true, ite_false, Bool.false_eq_true, Int.reduceLT, Int.reduceLE, Int.reduceNeg, Nat.reduceLeDiff, Int.toNat_zero, eq_self]
  obtain ⟨x, hx, mem⟩ := atI_lt (xs := chars) h1 h2
  refine ⟨.str [x], ?_, by rw [d1.take]; exact q x M1 (chars_ok x mem) d1 h3⟩
  show (if 94 ≤ line then Option.map (fun c => D.str [c]) (atI chars r) else none) = _
  rw [if_pos (by decide), hx]
  rfl
def d_law_name : Fn := ⟨1, 3, [.asg 1 (.call "_law_draw" [.var 0, .cst (.int 10)]), .ifs (.cmp .lt (.var 1) (.cst (.int 8))) [.ret (.ix (.lst false [.cst (.str [97]), .cst (.str [98]), .cst (.str [99]), .cst (.str [97, 98]), .cst (.str []), .cst (.str [122, 57]), .cst (.str [66]), .cst (.str [98, 97])]) (.var 1))] [], .ifs (.cmp .eq (.call "_law_draw" [.var 0, .cst (.int 3)]) (.cst (.int 0))) [.ret (.bin .add (.bin .add (.bin .mul (.cst (.str [110, 97, 109, 101])) (.call "_law_draw" [.var 0, .cst (.int 4)])) (.call "_law_char" [.var 0])) (.bin .mul (.cst (.str [110, 97, 109, 101])) (.call "_law_draw" [.var 0, .cst (.int 3)])))] [], .ret (.join (.cst (.str [])) (.comp false [2] (.call "_law_char" [.var 0]) (.nm 2) .rng1 [.call "_law_draw" [.var 0, .cst (.int 4)]] []))]⟩
/-- a drawn name -/
def nameOk (s : List Nat) : Prop := s.length ≤ 30 ∧ ∀ c ∈ s, draws c
def names8 : List (List Nat) := [[97], [98], [99], [97, 98], [], [122, 57], [66], [98, 97]]
theorem names8_ok : ∀ x ∈ names8, nameOk x := by unfold nameOk draws; decide
theorem rep_ok (k : Nat) (h : k ≤ 3) : nameOk (List.replicate k [110, 97, 109, 101]).flatten ∧ (List.replicate k [110, 97, 109, 101]).flatten.length ≤ 12 := by
  rcases (by omega : k = 0 ∨ k = 1 ∨ k = 2 ∨ k = 3) with rfl | rfl | rfl | rfl <;> (unfold nameOk draws; decide)
theorem do_name (hf : P.fn "_law_name" = some d_law_name) (hc : P.fn "_law_char" = some d_law_char) (hd : P.fn "_law_draw" = some d_law_draw) (hn : 3 ≤ n) {k : Nat} {Q : W → Sto → Prop} (h : Src M k)
    (q : ∀ (s : List Nat) (M' : Sto), nameOk s → Dr M k M' → Src M' k → Q (.d (.str s)) M') : W1 (callF P n "_law_name" [.m k] M) Q := by
  refine x_run (by omega) hf rfl ?_
  simp only [W1_none, W1_some, Wl_none, Wl_some, Wd_none, Wd_some, Wb_none, Wb_some, W2_none, W2_nx, W2_rt, x_var, x_frz, x_cst, x_glb, x_evs0, x_evs1, x_ws0, x_ws1, x_tup, W1_fin, finQ_t, finQ_f, x_lst, x_bin, x_cat, x_ix, x_cmp, x_nt, x_neg, x_an, x_or, x_an0, x_or0, x_an1, x_or1, x_ite, x_call, x_bi, x_isi, x_nil, x_cons, x_asg, x_unp, x_ret, x_ex, x_ifs, x_fr, x_setix, x_app, x_mkl, deref_d, ex_if, add_ii, sub_ii, mul_ii, mod_ii, div_ii, add_ss, add_ll, add_tt, mul_si, ix_li, ix_ti, ix_si, eq_ii, ne_ii, eq_ss, ne_ss, lt_ii, le_ii, gt_ii, ge_ii, lt_ss, le_ss, gt_ss, ge_ss, int_i, int_b, ord_c, len_s, len_t, len_l, tuple_t, tuple_l, map1, map2, ret_d, setL_eq, take_set', nope, ex_and, at0, at1, at2, at3, at4, at5, at6, at7, at8, at9, ix30, ix31, ix32, pow1018, ret_new, x_join, x_comp, x_evc0, x_evc1, Wo_nop, x_slc, sl_l, sl_t, sl_s, x_mdic, wk_l, wk_t, wk_s, wk_r1, wk_r2, wk_e, wk_zl, wk_zt, wk_vl, wk_vt, ok_none, bind_nm, wipe_cons, wipe_nil, wo_cst, wo_var, wo_glb, wo_neg, wo_bin, wo_ix, wo_bi, wo_call, wo_ite, isN_i, isN_s, isN_n, notN_i, notN_s, notN_n, max2_i, min2_i, pow1020, pow1019, List.map_cons, List.map_nil, List.cons_append, List.nil_append, List.append_nil, List.replicate_succ, List.replicate_zero, List.getElem?_cons_zero, List.getElem?_cons_succ, List.set_cons_zero, List.set_cons_succ, List.length_cons, List.length_nil, List.length_set, Option.some.injEq, W.d.injEq, W.m.injEq, D.int.injEq, D.bl.injEq, D.str.injEq, D.tup.injEq, D.lst.injEq, exists_eq_left', exists_eq_left, exists_eq, decide_eq_true_eq, and_true, true_and, if_true, if_false, Nat.reduceSub, Nat.reduceAdd, reduceCtorEq, false_and, exists_false, and_self, ite_true, ite_false, Bool.false_eq_true, Int.reduceLT, Int.reduceLE, Int.reduceNeg, Nat.reduceLeDiff, Int.toNat_zero, eq_self, d_law_name]
  refine do_draw hd (by omega) h (by omega) (by omega) fun r M1 h1 h2 d1 s1 => ?_
  simp only [W1_none, W1_some, Wl_none, Wl_some, Wd_none, Wd_some, Wb_none, Wb_some, W2_none, W2_nx, W2_rt, x_var, x_frz, x_cst, x_glb, x_evs0, x_evs1, x_ws0, x_ws1, x_tup, W1_fin, finQ_t, finQ_f, x_lst, x_bin, x_cat, x_ix, x_cmp, x_nt, x_neg, x_an, x_or, x_an0, x_or0, x_an1, x_or1, x_ite, x_call, x_bi, x_isi, x_nil, x_cons, x_asg, x_unp, x_ret, x_ex, x_ifs, x_fr, x_setix, x_app, x_mkl, deref_d, ex_if, add_ii, sub_ii, mul_ii, mod_ii, div_ii, add_ss, add_ll, add_tt, mul_si, ix_li, ix_ti, ix_si, eq_ii, ne_ii, eq_ss, ne_ss, lt_ii, le_ii, gt_ii, ge_ii, lt_ss, le_ss, gt_ss, ge_ss, int_i, int_b, ord_c, len_s, len_t, len_l, tuple_t, tuple_l, map1, map2, ret_d, setL_eq, take_set', nope, ex_and, at0, at1, at2, at3, at4, at5, at6, at7, at8, at9, ix30, ix31, ix32, pow1018, ret_new, x_join, x_comp, x_evc0, x_evc1, Wo_nop, x_slc, sl_l, sl_t, sl_s, x_mdic, wk_l, wk_t, wk_s, wk_r1, wk_r2, wk_e, wk_zl, wk_zt, wk_vl, wk_vt, ok_none, bind_nm, wipe_cons, wipe_nil, wo_cst, wo_var, wo_glb, wo_neg, wo_bin, wo_ix, wo_bi, wo_call, wo_ite, isN_i, isN_s, isN_n, notN_i, notN_s, notN_n, max2_i, min2_i, pow1020, pow1019, List.map_cons, List.map_nil, List.cons_append, List.nil_append, List.append_nil, List.replicate_succ, List.replicate_zero, List.getElem?_cons_zero, List.getElem?_cons_succ, List.set_cons_zero, List.set_cons_succ, List.length_cons, List.length_nil, List.length_set, Option.some.injEq, W.d.injEq, W.m.injEq, D.int.injEq, D.bl.injEq, D.str.injEq, D.tup.injEq, D.lst.injEq, exists_eq_left', exists_eq_left, exists_eq, decide_eq_true_eq, and_true, true_and, if_true, if_false, Nat.reduceSub, Nat.reduceAdd, reduceCtorEq, false_and, exists_false, and_self, ite_true, ite_false, Bool.false_eq_true, Int.reduceLT, Int.reduceLE, Int.reduceNeg, Nat.reduceLeDiff, Int.toNat_zero, eq_self]
  split
  · rename_i h8
    obtain ⟨x, hx, mem⟩ := atI_lt (xs := names8) h1 h8
    refine ⟨.str x, ?_, by rw [d1.take]; exact q x M1 (names8_ok x mem) d1 s1⟩
    show atI (names8.map D.str) r = _
    rw [atI_map, hx]
    rfl
  · refine do_draw hd (by omega) s1 (by omega) (by omega) fun r2 M2 h3 h4 d2 s2 => ?_
    have d12 := d1.trans d2
    simp only [W1_none, W1_some, Wl_none, Wl_some, Wd_none, Wd_some, Wb_none, Wb_some, W2_none, W2_nx, W2_rt, x_var, x_frz, x_cst, x_glb, x_evs0, x_evs1, x_ws0, x_ws1, x_tup, W1_fin, finQ_t, finQ_f, x_lst, x_bin, x_cat, x_ix, x_cmp, x_nt, x_neg, x_an, x_or, x_an0, x_or0, x_an1, x_or1, x_ite, x_call, x_bi, x_isi, x_nil, x_cons, x_asg, x_unp, x_ret, x_ex, x_ifs, x_fr, x_setix, x_app, x_mkl, deref_d, ex_if, add_ii, sub_ii, mul_ii, mod_ii, div_ii, add_ss, add_ll, add_tt, mul_si, ix_li, ix_ti, ix_si, eq_ii, ne_ii, eq_ss, ne_ss, lt_ii, le_ii, gt_ii, ge_ii, lt_ss, le_ss, gt_ss, ge_ss, int_i, int_b, ord_c, len_s, len_t, len_l, tuple_t, tuple_l, map1, map2, ret_d, setL_eq, take_set', nope, ex_and, at0, at1, at2, at3, at4, at5, at6, at7, at8, at9, ix30, ix31, ix32, pow1018, ret_new, x_join, x_comp, x_evc0, x_evc1, Wo_nop, x_slc, sl_l, sl_t, sl_s, x_mdic, wk_l, wk_t, wk_s, wk_r1, wk_r2, wk_e, wk_zl, wk_zt, wk_vl, wk_vt, ok_none, bind_nm, wipe_cons, wipe_nil, wo_cst, wo_var, wo_glb, wo_neg, wo_bin, wo_ix, wo_bi, wo_call, wo_ite, isN_i, isN_s, isN_n, notN_i, notN_s, notN_n, max2_i, min2_i, pow1020, pow1019, List.map_cons, List.map_nil, List.cons_append, List.nil_append, List.append_nil, List.replicate_succ, List.replicate_zero, List.getElem?_cons_zero, List.getElem?_cons_succ, List.set_cons_zero, List.set_cons_succ, List.length_cons, List.length_nil, List.length_set, Option.some.injEq, W.d.injEq, W.m.injEq, D.int.injEq, D.bl.injEq, D.str.injEq, D.tup.injEq, D.lst.injEq, exists_eq_left', exists_eq_left, exists_eq, decide_eq_true_eq, and_true, true_and, if_true, if_false, Nat.reduceSub, Nat.reduceAdd, reduceCtorEq, false_and, exists_false, and_self, ite_true, ite_false, Bool.false_eq_true, Int.reduceLT, Int.reduceLE, Int.reduceNeg, Nat.reduceLeDiff, Int.toNat_zero, eq_self]
    split
    · refine do_draw hd (by omega) s2 (by omega) (by omega) fun r3 M3 h5 h6 d3 s3 => ?_
      have d13 := d12.trans d3
      simp only [W1_none, W1_some, Wl_none, Wl_some, Wd_none, Wd_some, Wb_none, Wb_some, W2_none, W2_nx, W2_rt, x_var, x_frz, x_cst, x_glb, x_evs0, x_evs1, x_ws0, x_ws1, x_tup, W1_fin, finQ_t, finQ_f, x_lst, x_bin, x_cat, x_ix, x_cmp, x_nt, x_neg, x_an, x_or, x_an0, x_or0, x_an1, x_or1, x_ite, x_call, x_bi, x_isi, x_nil, x_cons, x_asg, x_unp, x_ret, x_ex, x_ifs, x_fr, x_setix, x_app, x_mkl, deref_d, ex_if, add_ii, sub_ii, mul_ii, mod_ii, div_ii, add_ss, add_ll, add_tt, mul_si, ix_li, ix_ti, ix_si, eq_ii, ne_ii, eq_ss, ne_ss, lt_ii, le_ii, gt_ii, ge_ii, lt_ss, le_ss, gt_ss, ge_ss, int_i, int_b, ord_c, len_s, len_t, len_l, tuple_t, tuple_l, map1, map2, ret_d, setL_eq, take_set', nope, ex_and, at0, at1, at2, at3, at4, at5, at6, at7, at8, at9, ix30, ix31, ix32, pow1018, ret_new, x_join, x_comp, x_evc0, x_evc1, Wo_nop, x_slc, sl_l, sl_t, sl_s, x_mdic, wk_l, wk_t, wk_s, wk_r1, wk_r2, wk_e, wk_zl, wk_zt, wk_vl, wk_vt, ok_none, bind_nm, wipe_cons, wipe_nil, wo_cst, wo_var, wo_glb, wo_neg, wo_bin, wo_ix, wo_bi, wo_call, wo_ite, isN_i, isN_s, isN_n, notN_i, notN_s, notN_n, max2_i, min2_i, pow1020, pow1019, List.map_cons, List.map_nil, List.cons_append, List.nil_append, List.append_nil, List.replicate_succ, List.replicate_zero, List.getElem?_cons_zero, List.getElem?_cons_succ, List.set_cons_zero, List.set_cons_succ, List.length_cons, List.length_nil, List.length_set, Option.some.injEq, W.d.injEq, W.m.injEq, D.int.injEq, D.bl.injEq, D.str.injEq, D.tup.injEq, D.lst.injEq, exists_eq_left', exists_eq_left, exists_eq, decide_eq_true_eq, and_true, true_and, if_true, if_false, Nat.reduceSub, Nat.reduceAdd, reduceCtorEq, false_and, exists_false, and_self, ite_true, ite_false, Bool.false_eq_true, Int.reduceLT, Int.reduceLE, Int.reduceNeg, Nat.reduceLeDiff, Int.toNat_zero, eq_self]
      obtain ⟨o1, l1⟩ := rep_ok r3.toNat (by omega)
      refine ⟨⟨by show 4 * r3.toNat ≤ 16777216; omega, by omega, by omega⟩, do_char hc hd (by omega) s3 fun x M4 hx d4 s4 => ?_⟩
      have d14 := d13.trans d4
      simp only [W1_none, W1_some, Wl_none, Wl_some, Wd_none, Wd_some, Wb_none, Wb_some, W2_none, W2_nx, W2_rt, x_var, x_frz, x_cst, x_glb, x_evs0, x_evs1, x_ws0, x_ws1, x_tup, W1_fin, finQ_t, finQ_f, x_lst, x_bin, x_cat, x_ix, x_cmp, x_nt, x_neg, x_an, x_or, x_an0, x_or0, x_an1, x_or1, x_ite, x_call, x_bi, x_isi, x_nil, x_cons, x_asg, x_unp, x_ret, x_ex, x_ifs, x_fr, x_setix, x_app, x_mkl, deref_d, ex_if, add_ii, sub_ii, mul_ii, mod_ii, div_ii, add_ss, add_ll, add_tt, mul_si, ix_li, ix_ti, ix_si, eq_ii, ne_ii, eq_ss, ne_ss, lt_ii, le_ii, gt_ii, ge_ii, lt_ss, le_ss, gt_ss, ge_ss, int_i, int_b, ord_c, len_s, len_t, len_l, tuple_t, tuple_l, map1, map2, ret_d, setL_eq, take_set', nope, ex_and, at0, at1, at2, at3, at4, at5, at6, at7, at8, at9, ix30, ix31, ix32, pow1018, ret_new, x_join, x_comp, x_evc0, x_evc1, Wo_nop, x_slc, sl_l, sl_t, sl_s, x_mdic, wk_l, wk_t, wk_s, wk_r1, wk_r2, wk_e, wk_zl, wk_zt, wk_vl, wk_vt, ok_none, bind_nm, wipe_cons, wipe_nil, wo_cst, wo_var, wo_glb, wo_neg, wo_bin, wo_ix, wo_bi, wo_call, wo_ite, isN_i, isN_s, isN_n, notN_i, notN_s, notN_n, max2_i, min2_i, pow1020, pow1019, List.map_cons, List.map_nil, List.cons_append, List.nil_append, List.append_nil, List.replicate_succ, List.replicate_zero, List.getElem?_cons_zero, List.getElem?_cons_succ, List.set_cons_zero, List.set_cons_succ, List.length_cons, List.length_nil, List.length_set, Option.some.injEq, W.d.injEq, W.m.injEq, D.int.injEq, D.bl.injEq, D.str.injEq, D.tup.injEq, D.lst.injEq, exists_eq_left', exists_eq_left, exists_eq, decide_eq_true_eq, and_true, true_and, if_true, if_false, Nat.reduceSub, Nat.reduceAdd, reduceCtorEq, false_and, exists_false, and_self, ite_true, ite_false, Bool.false_eq_true, Int.reduceLT, Int.reduceLE, Int.reduceNeg, Nat.reduceLeDiff, Int.toNat_zero, eq_self]
      refine ⟨by show _ ≤ 16777216; omega, do_draw hd (by omega) s4 (by omega) (by omega) fun r5 M5 h7 h8 d5 s5 => ?_⟩
      have d15 := d14.trans d5
      simp only [W1_none, W1_some, Wl_none, Wl_some, Wd_none, Wd_some, Wb_none, Wb_some, W2_none, W2_nx, W2_rt, x_var, x_frz, x_cst, x_glb, x_evs0, x_evs1, x_ws0, x_ws1, x_tup, W1_fin, finQ_t, finQ_f, x_lst, x_bin, x_cat, x_ix, x_cmp, x_nt, x_neg, x_an, x_or, x_an0, x_or0, x_an1, x_or1, x_ite, x_call, x_bi, x_isi, x_nil, x_cons, x_asg, x_unp, x_ret, x_ex, x_ifs, x_fr, x_setix, x_app, x_mkl, deref_d, ex_if, add_ii, sub_ii, mul_ii, mod_ii, div_ii, add_ss, add_ll, add_tt, mul_si, ix_li, ix_ti, ix_si, eq_ii, ne_ii, eq_ss, ne_ss, lt_ii, le_ii, gt_ii, ge_ii, lt_ss, le_ss, gt_ss, ge_ss, int_i, int_b, ord_c, len_s, len_t, len_l, tuple_t, tuple_l, map1, map2, ret_d, setL_eq, take_set', nope, ex_and, at0, at1, at2, at3, at4, at5, at6, at7, at8, at9, ix30, ix31, ix32, pow1018, ret_new, x_join, x_comp, x_evc0, x_evc1, Wo_nop, x_slc, sl_l, sl_t, sl_s, x_mdic, wk_l, wk_t, wk_s, wk_r1, wk_r2, wk_e, wk_zl, wk_zt, wk_vl, wk_vt, ok_none, bind_nm, wipe_cons, wipe_nil, wo_cst, wo_var, wo_glb, wo_neg, wo_bin, wo_ix, wo_bi, wo_call, wo_ite, isN_i, isN_s, isN_n, notN_i, notN_s, notN_n, max2_i, min2_i, pow1020, pow1019, List.map_cons, List.map_nil, List.cons_append, List.nil_append, List.append_nil, List.replicate_succ, List.replicate_zero, List.getElem?_cons_zero, List.getElem?_cons_succ, List.set_cons_zero, List.set_cons_succ, List.length_cons, List.length_nil, List.length_set, Option.some.injEq, W.d.injEq, W.m.injEq, D.int.injEq, D.bl.injEq, D.str.injEq, D.tup.injEq, D.lst.injEq, exists_eq_left', exists_eq_left, exists_eq, decide_eq_true_eq, and_true, true_and, if_true, if_false, Nat.reduceSub, Nat.reduceAdd, reduceCtorEq, false_and, exists_false, and_self, ite_true, ite_false, Bool.false_eq_true, Int.reduceLT, Int.reduceLE, Int.reduceNeg, Nat.reduceLeDiff, Int.toNat_zero, eq_self]
      obtain ⟨o2, l2⟩ := rep_ok r5.toNat (by omega)
      refine ⟨⟨by show 4 * r5.toNat ≤ 16777216; omega, by omega, by omega⟩, by simp only [List.length_append, List.length_cons, List.length_nil]; show _ ≤ 16777216; omega, ?_⟩
      rw [d15.take]
      refine q _ M5 ⟨?_, ?_⟩ d15 s5
      · simp only [List.length_append, List.length_cons, List.length_nil]; omega
      · intro c hc
        rcases List.mem_append.mp hc with hc | hc
        · rcases List.mem_append.mp hc with hc | hc
          · exact o1.2 c hc
          · simp at hc; subst hc; exact hx
        · exact o2.2 c hc
    · refine do_draw hd (by omega) s2 (by omega) (by omega) fun r3 M3 h5 h6 d3 s3 => ?_
      have d13 := d12.trans d3
      simp only [W1_none, W1_some, Wl_none, Wl_some, Wd_none, Wd_some, Wb_none, Wb_some, W2_none, W2_nx, W2_rt, x_var, x_frz, x_cst, x_glb, x_evs0, x_evs1, x_ws0, x_ws1, x_tup, W1_fin, finQ_t, finQ_f, x_lst, x_bin, x_cat, x_ix, x_cmp, x_nt, x_neg, x_an, x_or, x_an0, x_or0, x_an1, x_or1, x_ite, x_call, x_bi, x_isi, x_nil, x_cons, x_asg, x_unp, x_ret, x_ex, x_ifs, x_fr, x_setix, x_app, x_mkl, deref_d, ex_if, add_ii, sub_ii, mul_ii, mod_ii, div_ii, add_ss, add_ll, add_tt, mul_si, ix_li, ix_ti, ix_si, eq_ii, ne_ii, eq_ss, ne_ss, lt_ii, le_ii, gt_ii, ge_ii, lt_ss, le_ss, gt_ss, ge_ss, int_i, int_b, ord_c, len_s, len_t, len_l, tuple_t, tuple_l, map1, map2, ret_d, setL_eq, take_set', nope, ex_and, at0, at1, at2, at3, at4, at5, at6, at7, at8, at9, ix30, ix31, ix32, pow1018, ret_new, x_join, x_comp, x_evc0, x_evc1, Wo_nop, x_slc, sl_l, sl_t, sl_s, x_mdic, wk_l, wk_t, wk_s, wk_r1, wk_r2, wk_e, wk_zl, wk_zt, wk_vl, wk_vt, ok_none, bind_nm, wipe_cons, wipe_nil, wo_cst, wo_var, wo_glb, wo_neg, wo_bin, wo_ix, wo_bi, wo_call, wo_ite, isN_i, isN_s, isN_n, notN_i, notN_s, notN_n, max2_i, min2_i, pow1020, pow1019, List.map_cons, List.map_nil, List.cons_append, List.nil_append, List.append_nil, List.replicate_succ, List.replicate_zero, List.getElem?_cons_zero, List.getElem?_cons_succ, List.set_cons_zero, List.set_cons_succ, List.length_cons, List.length_nil, List.length_set, Option.some.injEq, W.d.injEq, W.m.injEq, D.int.injEq, D.bl.injEq, D.str.injEq, D.tup.injEq, D.lst.injEq, exists_eq_left', exists_eq_left, exists_eq, decide_eq_true_eq, and_true, true_and, if_true, if_false, Nat.reduceSub, Nat.reduceAdd, reduceCtorEq, false_and, exists_false, and_self, ite_true, ite_false, Bool.false_eq_true, Int.reduceLT, Int.reduceLE, Int.reduceNeg, Nat.reduceLeDiff, Int.toNat_zero, eq_self]
      refine ⟨⟨by omega, by omega⟩, ?_⟩
      refine wd_comp0 (fun rest acc M' => Dr M k M' ∧ Src M' k ∧ acc.length + rest.length = r3.toNat ∧ ∃ ys, acc = ys.map (fun c => D.str [c]) ∧ ∀ c ∈ ys, draws c) ⟨d13, s3, by simp [rangeL], [], rfl, fun _ h => nomatch h⟩ ?_ ?_
      · rintro x rest acc M4 ⟨d4, s4, hl, ys, rfl, hy⟩
        refine ⟨_, rfl, ?_⟩
        simp only [W1_none, W1_some, Wl_none, Wl_some, Wd_none, Wd_some, Wb_none, Wb_some, W2_none, W2_nx, W2_rt, x_var, x_frz, x_cst, x_glb, x_evs0, x_evs1, x_ws0, x_ws1, x_tup, W1_fin, finQ_t, finQ_f, x_lst, x_bin, x_cat, x_ix, x_cmp, x_nt, x_neg, x_an, x_or, x_an0, x_or0, x_an1, x_or1, x_ite, x_call, x_bi, x_isi, x_nil, x_cons, x_asg, x_unp, x_ret, x_ex, x_ifs, x_fr, x_setix, x_app, x_mkl, deref_d, ex_if, add_ii, sub_ii, mul_ii, mod_ii, div_ii, add_ss, add_ll, add_tt, mul_si, ix_li, ix_ti, ix_si, eq_ii, ne_ii, eq_ss, ne_ss, lt_ii, le_ii, gt_ii, ge_ii, lt_ss, le_ss, gt_ss, ge_ss, int_i, int_b, ord_c, len_s, len_t, len_l, tuple_t, tuple_l, map1, map2, ret_d, setL_eq, take_set', nope, ex_and, at0, at1, at2, at3, at4, at5, at6, at7, at8, at9, ix30, ix31, ix32, pow1018, ret_new, x_join, x_comp, x_evc0, x_evc1, Wo_nop, x_slc, sl_l, sl_t, sl_s, x_mdic, wk_l, wk_t, wk_s, wk_r1, wk_r2, wk_e, wk_zl, wk_zt, wk_vl, wk_vt, ok_none, bind_nm, wipe_cons, wipe_nil, wo_cst, wo_var, wo_glb, wo_neg, wo_bin, wo_ix, wo_bi, wo_call, wo_ite, isN_i, isN_s, isN_n, notN_i, notN_s, notN_n, max2_i, min2_i, pow1020, pow1019, List.map_cons, List.map_nil, List.cons_append, List.nil_append, List.append_nil, List.replicate_succ, List.replicate_zero, List.getElem?_cons_zero, List.getElem?_cons_succ, List.set_cons_zero, List.set_cons_succ, List.length_cons, List.length_nil, List.length_set, Option.some.injEq, W.d.injEq, W.m.injEq, D.int.injEq, D.bl.injEq, D.str.injEq, D.tup.injEq, D.lst.injEq, exists_eq_left', exists_eq_left, exists_eq, decide_eq_true_eq, and_true, true_and, if_true, if_false, Nat.reduceSub, Nat.reduceAdd, reduceCtorEq, false_and, exists_false, and_self, ite_true, ite_false, Bool.false_eq_true, Int.reduceLT, Int.reduceLE, Int.reduceNeg, Nat.reduceLeDiff, Int.toNat_zero, eq_self]
        refine do_char hc hd (by omega) s4 fun c M5 hx d5 s5 => ⟨_, rfl, d4.trans d5, s5, by rw [List.length_append, List.length_cons, List.length_nil]; rw [List.length_cons] at hl; omega, ys ++ [c], by simp, fun z hz => ?_⟩
        rcases List.mem_append.mp hz with hz | hz
        · exact hy z hz
        · simp at hz; subst hz; exact hx
      · rintro acc M4 ⟨d4, s4, hl, ys, rfl, hy⟩
        rw [List.length_map, List.length_nil] at hl
        refine ⟨by rw [List.length_map]; show _ ≤ 16777216; omega, _, dStrs_chars ys, by rw [sum_chars]; omega, ?_⟩
        rw [join_chars, d4.take]
        exact q ys M4 ⟨by omega, hy⟩ d4 s4
end
end Pv

/-! Sp3: documents' values, drawn. -/
namespace Pv
def d_law_number : Fn := ⟨1, 2, [.asg 1 (.call "_law_draw" [.var 0, .cst (.int 6)]), .ifs (.cmp .eq (.var 1) (.cst (.int 0))) [.ret (.bin .sub (.call "_law_draw" [.var 0, .cst (.int 2000)]) (.cst (.int 1000)))] [], .ifs (.cmp .eq (.var 1) (.cst (.int 1))) [.ret (.bin .sub (.call "_law_draw" [.var 0, .bin .pow (.cst (.int 10)) (.cst (.int 20))]) (.bin .mul (.cst (.int 5)) (.bin .pow (.cst (.int 10)) (.cst (.int 19)))))] [], .ret (.bin .sub (.call "_law_draw" [.var 0, .cst (.int 7)]) (.cst (.int 2)))]⟩
def d_law_leaf : Fn := ⟨1, 2, [.asg 1 (.call "_law_draw" [.var 0, .cst (.int 8)]), .ifs (.cmp .eq (.var 1) (.cst (.int 0))) [.ret (.tup [.cst (.str [110, 117, 108, 108])])] [], .ifs (.cmp .eq (.var 1) (.cst (.int 1))) [.ret (.tup [.cst (.str [98, 111, 111, 108]), .cmp .eq (.call "_law_draw" [.var 0, .cst (.int 2)]) (.cst (.int 1))])] [], .ifs (.cmp .lt (.var 1) (.cst (.int 5))) [.ret (.tup [.cst (.str [105, 110, 116]), .call "_law_number" [.var 0]])] [], .ret (.tup [.cst (.str [116, 101, 120, 116]), .call "_law_name" [.var 0]])]⟩
def d_law_with : Fn := ⟨3, 6, [.ifs (.cmp .eq (.ix (.var 0) (.cst (.int 0))) (.cst (.str [108, 105, 115, 116]))) [.ret (.tup [.cst (.str [108, 105, 115, 116]), .bin .add (.bin .add (.slc false (.ix (.var 0) (.cst (.int 1))) .nop (.var 1)) (.tup [.var 2])) (.slc false (.ix (.var 0) (.cst (.int 1))) (.bin .add (.var 1) (.cst (.int 1))) .nop)])] [], .asg 3 (.comp false [5] (.var 5) (.nm 5) .seq [.ix (.var 0) (.cst (.int 1))] [.cmp .lt (.ix (.var 5) (.cst (.int 0))) (.var 1)]), .asg 4 (.comp false [5] (.var 5) (.nm 5) .seq [.ix (.var 0) (.cst (.int 1))] [.cmp .gt (.ix (.var 5) (.cst (.int 0))) (.var 1)]), .ret (.tup [.cst (.str [111, 98, 106, 101, 99, 116]), .bin .add (.bin .add (.bi .tuple [.var 3]) (.tup [.tup [.var 1, .var 2]])) (.bi .tuple [.var 4])])]⟩
def d_law_object : Fn := ⟨1, 3, [.asg 1 (.tup [.cst (.str [111, 98, 106, 101, 99, 116]), .tup []]), .fr (.nm 2) .seq [.var 0] [.asg 1 (.call "_law_with" [.var 1, .ix (.var 2) (.cst (.int 0)), .ix (.var 2) (.cst (.int 1))])], .ret (.var 1)]⟩
def d_law_value : Fn := ⟨2, 4, [.asg 2 (.call "_law_draw" [.var 0, .cst (.int 9)]), .ifs (.orr [.cmp .lt (.var 1) (.cst (.int 2)), .cmp .lt (.var 2) (.cst (.int 3))]) [.ret (.call "_law_leaf" [.var 0])] [], .ifs (.cmp .lt (.var 2) (.cst (.int 6))) [.ret (.tup [.cst (.str [108, 105, 115, 116]), .bi .tuple [.comp false [3] (.call "_law_value" [.var 0, .bin .sub (.var 1) (.cst (.int 1))]) (.nm 3) .rng1 [.call "_law_draw" [.var 0, .cst (.int 4)]] []]])] [], .ret (.call "_law_object" [.comp false [3] (.tup [.call "_law_name" [.var 0], .call "_law_value" [.var 0, .bin .sub (.var 1) (.cst (.int 1))]]) (.nm 3) .rng1 [.call "_law_draw" [.var 0, .cst (.int 4)]] []])]⟩
/-- a value of the document -/
inductive Vl where
  | null
  | bool (b : Bool)
  | int (i : Int)
  | text (s : List Nat)
  | lst (xs : List Vl)
  | obj (fs : List (List Nat × Vl))
abbrev sNull : List Nat := [110, 117, 108, 108]
abbrev sBool : List Nat := [98, 111, 111, 108]
abbrev sInt : List Nat := [105, 110, 116]
abbrev sText : List Nat := [116, 101, 120, 116]
abbrev sList : List Nat := [108, 105, 115, 116]
abbrev sObj : List Nat := [111, 98, 106, 101, 99, 116]
mutual
def toD : Vl → D
  | .null => .tup [.str sNull]
  | .bool b => .tup [.str sBool, .bl b]
  | .int i => .tup [.str sInt, .int i]
  | .text s => .tup [.str sText, .str s]
  | .lst xs => .tup [.str sList, .tup (toDs xs)]
  | .obj fs => .tup [.str sObj, .tup (toDf fs)]
def toDs : List Vl → List D
  | [] => []
  | x :: xs => toD x :: toDs xs
def toDf : List (List Nat × Vl) → List D
  | [] => []
  | (k, x) :: xs => .tup [.str k, toD x] :: toDf xs
end
/-- a field -/
def fD (p : List Nat × Vl) : D := .tup [.str p.1, toD p.2]
theorem toDs_map : ∀ xs : List Vl, toDs xs = xs.map toD
  | [] => by unfold toDs; rfl
  | x :: xs => by unfold toDs; rw [toDs_map xs]; rfl
theorem toDf_map : ∀ xs : List (List Nat × Vl), toDf xs = xs.map fD
  | [] => by unfold toDf; rfl
  | (k, x) :: xs => by unfold toDf; rw [toDf_map xs]; rfl
theorem toD_null : toD .null = .tup [.str sNull] := by unfold toD; rfl
theorem toD_bool (b : Bool) : toD (.bool b) = .tup [.str sBool, .bl b] := by unfold toD; rfl
theorem toD_int (i : Int) : toD (.int i) = .tup [.str sInt, .int i] := by unfold toD; rfl
theorem toD_text (s : List Nat) : toD (.text s) = .tup [.str sText, .str s] := by unfold toD; rfl
theorem toD_lst (xs : List Vl) : toD (.lst xs) = .tup [.str sList, .tup (xs.map toD)] := by unfold toD; rw [toDs_map]
theorem toD_obj (xs : List (List Nat × Vl)) : toD (.obj xs) = .tup [.str sObj, .tup (xs.map fD)] := by unfold toD; rw [toDf_map]
mutual
def vsize : Vl → Nat
  | .lst xs => 1 + vsizes xs
  | .obj fs => 1 + vsizef fs
  | _ => 1
def vsizes : List Vl → Nat
  | [] => 0
  | x :: xs => vsize x + vsizes xs
def vsizef : List (List Nat × Vl) → Nat
  | [] => 0
  | (_, x) :: xs => vsize x + vsizef xs
end
mutual
def vdep : Vl → Nat
  | .lst xs => 1 + vdeps xs
  | .obj fs => 1 + vdepf fs
  | _ => 1
def vdeps : List Vl → Nat
  | [] => 0
  | x :: xs => max (vdep x) (vdeps xs)
def vdepf : List (List Nat × Vl) → Nat
  | [] => 0
  | (_, x) :: xs => max (vdep x) (vdepf xs)
end
/-- what stands directly in it -/
def vparts : Vl → List Vl
  | .lst xs => xs
  | .obj fs => fs.map (·.2)
  | _ => []
theorem vsizef_map : ∀ fs : List (List Nat × Vl), vsizef fs = vsizes (fs.map (·.2))
  | [] => by unfold vsizef; rfl
  | (k, x) :: fs => by unfold vsizef; rw [vsizef_map fs]; simp [vsizes]
theorem vdepf_map : ∀ fs : List (List Nat × Vl), vdepf fs = vdeps (fs.map (·.2))
  | [] => by unfold vdepf; rfl
  | (k, x) :: fs => by unfold vdepf; rw [vdepf_map fs]; simp [vdeps]
theorem vsize_eq (v : Vl) : vsize v = 1 + vsizes (vparts v) := by
  cases v <;> simp [vsize, vparts, vsizes, vsizef_map]
theorem vdep_eq (v : Vl) : vdep v = 1 + vdeps (vparts v) := by
  cases v <;> simp [vdep, vparts, vdeps, vdepf_map]
theorem vdeps_mem : ∀ {xs : List Vl} {x : Vl}, x ∈ xs → vdep x ≤ vdeps xs
  | y :: ys, x, h => by
    unfold vdeps
    rcases List.mem_cons.mp h with rfl | h
    · omega
    · have := vdeps_mem h; omega
theorem vdeps_le : ∀ {xs : List Vl} {k : Nat}, (∀ x ∈ xs, vdep x ≤ k) → vdeps xs ≤ k
  | [], _, _ => by unfold vdeps; omega
  | y :: ys, k, h => by
    unfold vdeps
    have := h y List.mem_cons_self
    have := vdeps_le fun x hx => h x (List.mem_cons_of_mem _ hx)
    omega
theorem vsizes_le : ∀ {xs : List Vl} {k : Nat}, (∀ x ∈ xs, vsize x ≤ k) → vsizes xs ≤ xs.length * k
  | [], _, _ => by unfold vsizes; omega
  | y :: ys, k, h => by
    unfold vsizes
    have h1 := h y List.mem_cons_self
    have h2 := vsizes_le fun x hx => h x (List.mem_cons_of_mem _ hx)
    rw [List.length_cons, Nat.succ_mul]
    omega
theorem vsizes_app : ∀ (xs ys : List Vl), vsizes (xs ++ ys) = vsizes xs + vsizes ys
  | [], ys => by simp [vsizes]
  | x :: xs, ys => by
    show vsizes (x :: (xs ++ ys)) = _
    simp only [vsizes]
    rw [vsizes_app xs ys]
    omega
theorem vsize_pos (v : Vl) : 1 ≤ vsize v := by rw [vsize_eq]; omega
theorem len_vsizes : ∀ xs : List Vl, xs.length ≤ vsizes xs
  | [] => Nat.zero_le _
  | x :: xs => by
    have := vsize_pos x
    have := len_vsizes xs
    unfold vsizes
    rw [List.length_cons]
    omega
section
variable {P : Prog} {n : Nat} {M : Sto} {k : Nat} {Q : W → Sto → Prop}
theorem do_number (hf : P.fn "_law_number" = some d_law_number) (hd : P.fn "_law_draw" = some d_law_draw) (hn : 2 ≤ n) (h : Src M k) (q : ∀ (i : Int) (M' : Sto), Dr M k M' → Src M' k → Q (.d (.int i)) M') : W1 (callF P n "_law_number" [.m k] M) Q := by
  refine x_run (by omega) hf rfl ?_
  simp only [W1_none, W1_some, Wl_none, Wl_some, Wd_none, Wd_some, Wb_none, Wb_some, W2_none, W2_nx, W2_rt, x_var, x_frz, x_cst, x_glb, x_evs0, x_evs1, x_ws0, x_ws1, x_tup, W1_fin, finQ_t, finQ_f, x_lst, x_bin, x_cat, x_ix, x_cmp, x_nt, x_neg, x_an, x_or, x_an0, x_or0, x_an1, x_or1, x_ite, x_call, x_bi, x_isi, x_nil, x_cons, x_asg, x_unp, x_ret, x_ex, x_ifs, x_fr, x_setix, x_app, x_mkl, deref_d, ex_if, add_ii, sub_ii, mul_ii, mod_ii, div_ii, add_ss, add_ll, add_tt, mul_si, ix_li, ix_ti, ix_si, eq_ii, ne_ii, eq_ss, ne_ss, lt_ii, le_ii, gt_ii, ge_ii, lt_ss, le_ss, gt_ss, ge_ss, int_i, int_b, ord_c, len_s, len_t, len_l, tuple_t, tuple_l, map1, map2, ret_d, setL_eq, take_set', nope, ex_and, at0, at1, at2, at3, at4, at5, at6, at7, at8, at9, ix30, ix31, ix32, pow1018, ret_new, x_join, x_comp, x_evc0, x_evc1, Wo_nop, x_slc, sl_l, sl_t, sl_s, x_mdic, wk_l, wk_t, wk_s, wk_r1, wk_r2, wk_e, wk_zl, wk_zt, wk_vl, wk_vt, ok_none, bind_nm, wipe_cons, wipe_nil, wo_cst, wo_var, wo_glb, wo_neg, wo_bin, wo_ix, wo_bi, wo_call, wo_ite, isN_i, isN_s, isN_n, notN_i, notN_s, notN_n, max2_i, min2_i, pow1020, pow1019, List.map_cons, List.map_nil, List.cons_append, List.nil_append, List.append_nil, List.replicate_succ, List.replicate_zero, List.getElem?_cons_zero, List.getElem?_cons_succ, List.set_cons_zero, List.set_cons_succ, List.length_cons, List.length_nil, List.length_set, Option.some.injEq, W.d.injEq, W.m.injEq, D.int.injEq, D.bl.injEq, D.str.injEq, D.tup.injEq, D.lst.injEq, exists_eq_left', exists_eq_left, exists_eq, decide_eq_true_eq, and_true, true_and, if_true, if_false, Nat.reduceSub, Nat.reduceAdd, reduceCtorEq, false_and, exists_false, and_self, ite_true, ite_false, Bool.false_eq_true, Int.reduceLT, Int.reduceLE, Int.reduceNeg, Nat.reduceLeDiff, Int.toNat_zero, eq_self, d_law_number]
  refine do_draw hd (by omega) h (by omega) (by omega) fun r M1 h1 h2 d1 s1 => ?_
  simp only [W1_none, W1_some, Wl_none, Wl_some, Wd_none, Wd_some, Wb_none, Wb_some, W2_none, W2_nx, W2_rt, x_var, x_frz, x_cst, x_glb, x_evs0, x_evs1, x_ws0, x_ws1, x_tup, W1_fin, finQ_t, finQ_f, x_lst, x_bin, x_cat, x_ix, x_cmp, x_nt, x_neg, x_an, x_or, x_an0, x_or0, x_an1, x_or1, x_ite, x_call, x_bi, x_isi, x_nil, x_cons, x_asg, x_unp, x_ret, x_ex, x_ifs, x_fr, x_setix, x_app, x_mkl, deref_d, ex_if, add_ii, sub_ii, mul_ii, mod_ii, div_ii, add_ss, add_ll, add_tt, mul_si, ix_li, ix_ti, ix_si, eq_ii, ne_ii, eq_ss, ne_ss, lt_ii, le_ii, gt_ii, ge_ii, lt_ss, le_ss, gt_ss, ge_ss, int_i, int_b, ord_c, len_s, len_t, len_l, tuple_t, tuple_l, map1, map2, ret_d, setL_eq, take_set', nope, ex_and, at0, at1, at2, at3, at4, at5, at6, at7, at8, at9, ix30, ix31, ix32, pow1018, ret_new, x_join, x_comp, x_evc0, x_evc1, Wo_nop, x_slc, sl_l, sl_t, sl_s, x_mdic, wk_l, wk_t, wk_s, wk_r1, wk_r2, wk_e, wk_zl, wk_zt, wk_vl, wk_vt, ok_none, bind_nm, wipe_cons, wipe_nil, wo_cst, wo_var, wo_glb, wo_neg, wo_bin, wo_ix, wo_bi, wo_call, wo_ite, isN_i, isN_s, isN_n, notN_i, notN_s, notN_n, max2_i, min2_i, pow1020, pow1019, List.map_cons, List.map_nil, List.cons_append, List.nil_append, List.append_nil, List.replicate_succ, List.replicate_zero, List.getElem?_cons_zero, List.getElem?_cons_succ, List.set_cons_zero, List.set_cons_succ, List.length_cons, List.length_nil, List.length_set, Option.some.injEq, W.d.injEq, W.m.injEq, D.int.injEq, D.bl.injEq, D.str.injEq, D.tup.injEq, D.lst.injEq, exists_eq_left', exists_eq_left, exists_eq, decide_eq_true_eq, and_true, true_and, if_true, if_false, Nat.reduceSub, Nat.reduceAdd, reduceCtorEq, false_and, exists_false, and_self, ite_true, ite_false, Bool.false_eq_true, Int.reduceLT, Int.reduceLE, Int.reduceNeg, Nat.reduceLeDiff, Int.toNat_zero, eq_self]
  split
  · refine do_draw hd (by omega) s1 (by omega) (by omega) fun r M2 h1 h2 d2 s2 => ?_
    simp only [W1_none, W1_some, Wl_none, Wl_some, Wd_none, Wd_some, Wb_none, Wb_some, W2_none, W2_nx, W2_rt, x_var, x_frz, x_cst, x_glb, x_evs0, x_evs1, x_ws0, x_ws1, x_tup, W1_fin, finQ_t, finQ_f, x_lst, x_bin, x_cat, x_ix, x_cmp, x_nt, x_neg, x_an, x_or, x_an0, x_or0, x_an1, x_or1, x_ite, x_call, x_bi, x_isi, x_nil, x_cons, x_asg, x_unp, x_ret, x_ex, x_ifs, x_fr, x_setix, x_app, x_mkl, deref_d, ex_if, add_ii, sub_ii, mul_ii, mod_ii, div_ii, add_ss, add_ll, add_tt, mul_si, ix_li, ix_ti, ix_si, eq_ii, ne_ii, eq_ss, ne_ss, lt_ii, le_ii, gt_ii, ge_ii, lt_ss, le_ss, gt_ss, ge_ss, int_i, int_b, ord_c, len_s, len_t, len_l, tuple_t, tuple_l, map1, map2, ret_d, setL_eq, take_set', nope, ex_and, at0, at1, at2, at3, at4, at5, at6, at7, at8, at9, ix30, ix31, ix32, pow1018, ret_new, x_join, x_comp, x_evc0, x_evc1, Wo_nop, x_slc, sl_l, sl_t, sl_s, x_mdic, wk_l, wk_t, wk_s, wk_r1, wk_r2, wk_e, wk_zl, wk_zt, wk_vl, wk_vt, ok_none, bind_nm, wipe_cons, wipe_nil, wo_cst, wo_var, wo_glb, wo_neg, wo_bin, wo_ix, wo_bi, wo_call, wo_ite, isN_i, isN_s, isN_n, notN_i, notN_s, notN_n, max2_i, min2_i, pow1020, pow1019, List.map_cons, List.map_nil, List.cons_append, List.nil_append, List.append_nil, List.replicate_succ, List.replicate_zero, List.getElem?_cons_zero, List.getElem?_cons_succ, List.set_cons_zero, List.set_cons_succ, List.length_cons, List.length_nil, List.length_set, Option.some.injEq, W.d.injEq, W.m.injEq, D.int.injEq, D.bl.injEq, D.str.injEq, D.tup.injEq, D.lst.injEq, exists_eq_left', exists_eq_left, exists_eq, decide_eq_true_eq, and_true, true_and, if_true, if_false, Nat.reduceSub, Nat.reduceAdd, reduceCtorEq, false_and, exists_false, and_self, ite_true, ite_false, Bool.false_eq_true, Int.reduceLT, Int.reduceLE, Int.reduceNeg, Nat.reduceLeDiff, Int.toNat_zero, eq_self, (d1.trans d2).take]
    exact q _ _ (d1.trans d2) s2
  · split
    · refine do_draw hd (by omega) s1 (by omega) (by omega) fun r M2 h1 h2 d2 s2 => ?_
      simp only [W1_none, W1_some, Wl_none, Wl_some, Wd_none, Wd_some, Wb_none, Wb_some, W2_none, W2_nx, W2_rt, x_var, x_frz, x_cst, x_glb, x_evs0, x_evs1, x_ws0, x_ws1, x_tup, W1_fin, finQ_t, finQ_f, x_lst, x_bin, x_cat, x_ix, x_cmp, x_nt, x_neg, x_an, x_or, x_an0, x_or0, x_an1, x_or1, x_ite, x_call, x_bi, x_isi, x_nil, x_cons, x_asg, x_unp, x_ret, x_ex, x_ifs, x_fr, x_setix, x_app, x_mkl, deref_d, ex_if, add_ii, sub_ii, mul_ii, mod_ii, div_ii, add_ss, add_ll, add_tt, mul_si, ix_li, ix_ti, ix_si, eq_ii, ne_ii, eq_ss, ne_ss, lt_ii, le_ii, gt_ii, ge_ii, lt_ss, le_ss, gt_ss, ge_ss, int_i, int_b, ord_c, len_s, len_t, len_l, tuple_t, tuple_l, map1, map2, ret_d, setL_eq, take_set', nope, ex_and, at0, at1, at2, at3, at4, at5, at6, at7, at8, at9, ix30, ix31, ix32, pow1018, ret_new, x_join, x_comp, x_evc0, x_evc1, Wo_nop, x_slc, sl_l, sl_t, sl_s, x_mdic, wk_l, wk_t, wk_s, wk_r1, wk_r2, wk_e, wk_zl, wk_zt, wk_vl, wk_vt, ok_none, bind_nm, wipe_cons, wipe_nil, wo_cst, wo_var, wo_glb, wo_neg, wo_bin, wo_ix, wo_bi, wo_call, wo_ite, isN_i, isN_s, isN_n, notN_i, notN_s, notN_n, max2_i, min2_i, pow1020, pow1019, List.map_cons, List.map_nil, List.cons_append, List.nil_append, List.append_nil, List.replicate_succ, List.replicate_zero, List.getElem?_cons_zero, List.getElem?_cons_succ, List.set_cons_zero, List.set_cons_succ, List.length_cons, List.length_nil, List.length_set, Option.some.injEq, W.d.injEq, W.m.injEq, D.int.injEq, D.bl.injEq, D.str.injEq, D.tup.injEq, D.lst.injEq, exists_eq_left', exists_eq_left, exists_eq, decide_eq_true_eq, and_true, true_and, if_true, if_false, Nat.reduceSub, Nat.reduceAdd, reduceCtorEq, false_and, exists_false, and_self, ite_true, ite_false, Bool.false_eq_true, Int.reduceLT, Int.reduceLE, Int.reduceNeg, Nat.reduceLeDiff, Int.toNat_zero, eq_self, (d1.trans d2).take]
      exact ⟨by decide, q _ _ (d1.trans d2) s2⟩
    · refine do_draw hd (by omega) s1 (by omega) (by omega) fun r M2 h1 h2 d2 s2 => ?_
      simp only [W1_none, W1_some, Wl_none, Wl_some, Wd_none, Wd_some, Wb_none, Wb_some, W2_none, W2_nx, W2_rt, x_var, x_frz, x_cst, x_glb, x_evs0, x_evs1, x_ws0, x_ws1, x_tup, W1_fin, finQ_t, finQ_f, x_lst, x_bin, x_cat, x_ix, x_cmp, x_nt, x_neg, x_an, x_or, x_an0, x_or0, x_an1, x_or1, x_ite, x_call, x_bi, x_isi, x_nil, x_cons, x_asg, x_unp, x_ret, x_ex, x_ifs, x_fr, x_setix, x_app, x_mkl, deref_d, ex_if, add_ii, sub_ii, mul_ii, mod_ii, div_ii, add_ss, add_ll, add_tt, mul_si, ix_li, ix_ti, ix_si, eq_ii, ne_ii, eq_ss, ne_ss, lt_ii, le_ii, gt_ii, ge_ii, lt_ss, le_ss, gt_ss, ge_ss, int_i, int_b, ord_c, len_s, len_t, len_l, tuple_t, tuple_l, map1, map2, ret_d, setL_eq, take_set', nope, ex_and, at0, at1, at2, at3, at4, at5, at6, at7, at8, at9, ix30, ix31, ix32, pow1018, ret_new, x_join, x_comp, x_evc0, x_evc1, Wo_nop, x_slc, sl_l, sl_t, sl_s, x_mdic, wk_l, wk_t, wk_s, wk_r1, wk_r2, wk_e, wk_zl, wk_zt, wk_vl, wk_vt, ok_none, bind_nm, wipe_cons, wipe_nil, wo_cst, wo_var, wo_glb, wo_neg, wo_bin, wo_ix, wo_bi, wo_call, wo_ite, isN_i, isN_s, isN_n, notN_i, notN_s, notN_n, max2_i, min2_i, pow1020, pow1019, List.map_cons, List.map_nil, List.cons_append, List.nil_append, List.append_nil, List.replicate_succ, List.replicate_zero, List.getElem?_cons_zero, List.getElem?_cons_succ, List.set_cons_zero, List.set_cons_succ, List.length_cons, List.length_nil, List.length_set, Option.some.injEq, W.d.injEq, W.m.injEq, D.int.injEq, D.bl.injEq, D.str.injEq, D.tup.injEq, D.lst.injEq, exists_eq_left', exists_eq_left, exists_eq, decide_eq_true_eq, and_true, true_and, if_true, if_false, Nat.reduceSub, Nat.reduceAdd, reduceCtorEq, false_and, exists_false, and_self, ite_true, ite_false, Bool.false_eq_true, Int.reduceLT, Int.reduceLE, Int.reduceNeg, Nat.reduceLeDiff, Int.toNat_zero, eq_self, (d1.trans d2).take]
      exact q _ _ (d1.trans d2) s2
/-- the defs that draw values -/
structure Drw (P : Prog) : Prop where
  draw : P.fn "_law_draw" = some d_law_draw
  char : P.fn "_law_char" = some d_law_char
  name : P.fn "_law_name" = some d_law_name
  number : P.fn "_law_number" = some d_law_number
  leaf : P.fn "_law_leaf" = some d_law_leaf
/-- a leaf whose text is drawn -/
def leafOk : Vl → Prop
  | .text s => nameOk s
  | .lst _ => False
  | .obj _ => False
  | _ => True
theorem do_leaf (H : Drw P) (hn : 4 ≤ n) (h : Src M k) (q : ∀ (v : Vl) (M' : Sto), leafOk v → Dr M k M' → Src M' k → Q (.d (toD v)) M') : W1 (callF P n "_law_leaf" [.m k] M) Q := by
  refine x_run (by omega) H.leaf rfl ?_
  simp only [W1_none, W1_some, Wl_none, Wl_some, Wd_none, Wd_some, Wb_none, Wb_some, W2_none, W2_nx, W2_rt, x_var, x_frz, x_cst, x_glb, x_evs0, x_evs1, x_ws0, x_ws1, x_tup, W1_fin, finQ_t, finQ_f, x_lst, x_bin, x_cat, x_ix, x_cmp, x_nt, x_neg, x_an, x_or, x_an0, x_or0, x_an1, x_or1, x_ite, x_call, x_bi, x_isi, x_nil, x_cons, x_asg, x_unp, x_ret, x_ex, x_ifs, x_fr, x_setix, x_app, x_mkl, deref_d, ex_if, add_ii, sub_ii, mul_ii, mod_ii, div_ii, add_ss, add_ll, add_tt, mul_si, ix_li, ix_ti, ix_si, eq_ii, ne_ii, eq_ss, ne_ss, lt_ii, le_ii, gt_ii, ge_ii, lt_ss, le_ss, gt_ss, ge_ss, int_i, int_b, ord_c, len_s, len_t, len_l, tuple_t, tuple_l, map1, map2, ret_d, setL_eq, take_set', nope, ex_and, at0, at1, at2, at3, at4, at5, at6, at7, at8, at9, ix30, ix31, ix32, pow1018, ret_new, x_join, x_comp, x_evc0, x_evc1, Wo_nop, x_slc, sl_l, sl_t, sl_s, x_mdic, wk_l, wk_t, wk_s, wk_r1, wk_r2, wk_e, wk_zl, wk_zt, wk_vl, wk_vt, ok_none, bind_nm, wipe_cons, wipe_nil, wo_cst, wo_var, wo_glb, wo_neg, wo_bin, wo_ix, wo_bi, wo_call, wo_ite, isN_i, isN_s, isN_n, notN_i, notN_s, notN_n, max2_i, min2_i, pow1020, pow1019, List.map_cons, List.map_nil, List.cons_append, List.nil_append, List.append_nil, List.replicate_succ, List.replicate_zero, List.getElem?_cons_zero, List.getElem?_cons_succ, List.set_cons_zero, List.set_cons_succ, List.length_cons, List.length_nil, List.length_set, Option.some.injEq, W.d.injEq, W.m.injEq, D.int.injEq, D.bl.injEq, D.str.injEq, D.tup.injEq, D.lst.injEq, exists_eq_left', exists_eq_left, exists_eq, decide_eq_true_eq, and_true, true_and, if_true, if_false, Nat.reduceSub, Nat.reduceAdd, reduceCtorEq, false_and, exists_false, and_self, ite_true, ite_false, Bool.false_eq_true, Int.reduceLT, Int.reduceLE, Int.reduceNeg, Nat.reduceLeDiff, Int.toNat_zero, eq_self, d_law_leaf]
  refine do_draw H.draw (by omega) h (by omega) (by omega) fun r M1 h1 h2 d1 s1 => ?_
  simp only [W1_none, W1_some, Wl_none, Wl_some, Wd_none, Wd_some, Wb_none, Wb_some, W2_none, W2_nx, W2_rt, x_var, x_frz, x_cst, x_glb, x_evs0, x_evs1, x_ws0, x_ws1, x_tup, W1_fin, finQ_t, finQ_f, x_lst, x_bin, x_cat, x_ix, x_cmp, x_nt, x_neg, x_an, x_or, x_an0, x_or0, x_an1, x_or1, x_ite, x_call, x_bi, x_isi, x_nil, x_cons, x_asg, x_unp, x_ret, x_ex, x_ifs, x_fr, x_setix, x_app, x_mkl, deref_d, ex_if, add_ii, sub_ii, mul_ii, mod_ii, div_ii, add_ss, add_ll, add_tt, mul_si, ix_li, ix_ti, ix_si, eq_ii, ne_ii, eq_ss, ne_ss, lt_ii, le_ii, gt_ii, ge_ii, lt_ss, le_ss, gt_ss, ge_ss, int_i, int_b, ord_c, len_s, len_t, len_l, tuple_t, tuple_l, map1, map2, ret_d, setL_eq, take_set', nope, ex_and, at0, at1, at2, at3, at4, at5, at6, at7, at8, at9, ix30, ix31, ix32, pow1018, ret_new, x_join, x_comp, x_evc0, x_evc1, Wo_nop, x_slc, sl_l, sl_t, sl_s, x_mdic, wk_l, wk_t, wk_s, wk_r1, wk_r2, wk_e, wk_zl, wk_zt, wk_vl, wk_vt, ok_none, bind_nm, wipe_cons, wipe_nil, wo_cst, wo_var, wo_glb, wo_neg, wo_bin, wo_ix, wo_bi, wo_call, wo_ite, isN_i, isN_s, isN_n, notN_i, notN_s, notN_n, max2_i, min2_i, pow1020, pow1019, List.map_cons, List.map_nil, List.cons_append, List.nil_append, List.append_nil, List.replicate_succ, List.replicate_zero, List.getElem?_cons_zero, List.getElem?_cons_succ, List.set_cons_zero, List.set_cons_succ, List.length_cons, List.length_nil, List.length_set, Option.some.injEq, W.d.injEq, W.m.injEq, D.int.injEq, D.bl.injEq, D.str.injEq, D.tup.injEq, D.lst.injEq, exists_eq_left', exists_eq_left, exists_eq, decide_eq_true_eq, and_true, true_and, if_true, if_false, Nat.reduceSub, Nat.reduceAdd, reduceCtorEq, false_and, exists_false, and_self, ite_true, ite_false, Bool.false_eq_true, Int.reduceLT, Int.reduceLE, Int.reduceNeg, Nat.reduceLeDiff, Int.toNat_zero, eq_self]
  split
  · rw [d1.take, ← toD_null]
    exact q .null _ True.intro d1 s1
  · split
    · refine do_draw H.draw (by omega) s1 (by omega) (by omega) fun r M2 h1 h2 d2 s2 => ?_
      simp only [W1_none, W1_some, Wl_none, Wl_some, Wd_none, Wd_some, Wb_none, Wb_some, W2_none, W2_nx, W2_rt, x_var, x_frz, x_cst, x_glb, x_evs0, x_evs1, x_ws0, x_ws1, x_tup, W1_fin, finQ_t, finQ_f, x_lst, x_bin, x_cat, x_ix, x_cmp, x_nt, x_neg, x_an, x_or, x_an0, x_or0, x_an1, x_or1, x_ite, x_call, x_bi, x_isi, x_nil, x_cons, x_asg, x_unp, x_ret, x_ex, x_ifs, x_fr, x_setix, x_app, x_mkl, deref_d, ex_if, add_ii, sub_ii, mul_ii, mod_ii, div_ii, add_ss, add_ll, add_tt, mul_si, ix_li, ix_ti, ix_si, eq_ii, ne_ii, eq_ss, ne_ss, lt_ii, le_ii, gt_ii, ge_ii, lt_ss, le_ss, gt_ss, ge_ss, int_i, int_b, ord_c, len_s, len_t, len_l, tuple_t, tuple_l, map1, map2, ret_d, setL_eq, take_set', nope, ex_and, at0, at1, at2, at3, at4, at5, at6, at7, at8, at9, ix30, ix31, ix32, pow1018, ret_new, x_join, x_comp, x_evc0, x_evc1, Wo_nop, x_slc, sl_l, sl_t, sl_s, x_mdic, wk_l, wk_t, wk_s, wk_r1, wk_r2, wk_e, wk_zl, wk_zt, wk_vl, wk_vt, ok_none, bind_nm, wipe_cons, wipe_nil, wo_cst, wo_var, wo_glb, wo_neg, wo_bin, wo_ix, wo_bi, wo_call, wo_ite, isN_i, isN_s, isN_n, notN_i, notN_s, notN_n, max2_i, min2_i, pow1020, pow1019, List.map_cons, List.map_nil, List.cons_append, List.nil_append, List.append_nil, List.replicate_succ, List.replicate_zero, List.getElem?_cons_zero, List.getElem?_cons_succ, List.set_cons_zero, List.set_cons_succ, List.length_cons, List.length_nil, List.length_set, Option.some.injEq, W.d.injEq, W.m.injEq, D.int.injEq, D.bl.injEq, D.str.injEq, D.tup.injEq, D.lst.injEq, exists_eq_left', exists_eq_left, exists_eq, decide_eq_true_eq, and_true, true_and, if_true, if_false, Nat.reduceSub, Nat.reduceAdd, reduceCtorEq, false_and, exists_false, and_self, ite_true, ite_false, Bool.false_eq_true, Int.reduceLT, Int.reduceLE, Int.reduceNeg, Nat.reduceLeDiff, Int.toNat_zero, eq_self, (d1.trans d2).take, ← toD_bool]
      exact q (.bool _) _ True.intro (d1.trans d2) s2
    · split
      · refine do_number H.number H.draw (by omega) s1 fun i M2 d2 s2 => ?_
        simp only [W1_none, W1_some, Wl_none, Wl_some, Wd_none, Wd_some, Wb_none, Wb_some, W2_none, W2_nx, W2_rt, x_var, x_frz, x_cst, x_glb, x_evs0, x_evs1, x_ws0, x_ws1, x_tup, W1_fin, finQ_t, finQ_f, x_lst, x_bin, x_cat, x_ix, x_cmp, x_nt, x_neg, x_an, x_or, x_an0, x_or0, x_an1, x_or1, x_ite, x_call, x_bi, x_isi, x_nil, x_cons, x_asg, x_unp, x_ret, x_ex, x_ifs, x_fr, x_setix, x_app, x_mkl, deref_d, ex_if, add_ii, sub_ii, mul_ii, mod_ii, div_ii, add_ss, add_ll, add_tt, mul_si, ix_li, ix_ti, ix_si, eq_ii, ne_ii, eq_ss, ne_ss, lt_ii, le_ii, gt_ii, ge_ii, lt_ss, le_ss, gt_ss, ge_ss, int_i, int_b, ord_c, len_s, len_t, len_l, tuple_t, tuple_l, map1, map2, ret_d, setL_eq, take_set', nope, ex_and, at0, at1, at2, at3, at4, at5, at6, at7, at8, at9, ix30, ix31, ix32, pow1018, ret_new, x_join, x_comp, x_evc0, x_evc1, Wo_nop, x_slc, sl_l, sl_t, sl_s, x_mdic, wk_l, wk_t, wk_s, wk_r1, wk_r2, wk_e, wk_zl, wk_zt, wk_vl, wk_vt, ok_none, bind_nm, wipe_cons, wipe_nil, wo_cst, wo_var, wo_glb, wo_neg, wo_bin, wo_ix, wo_bi, wo_call, wo_ite, isN_i, isN_s, isN_n, notN_i, notN_s, notN_n, max2_i, min2_i, pow1020, pow1019, List.map_cons, List.map_nil, List.cons_append, List.nil_append, List.append_nil, List.replicate_succ, List.replicate_zero, List.getElem?_cons_zero, List.getElem?_cons_succ, List.set_cons_zero, List.set_cons_succ, List.length_cons, List.length_nil, List.length_set, Option.some.injEq, W.d.injEq, W.m.injEq, D.int.injEq, D.bl.injEq, D.str.injEq, D.tup.injEq, D.lst.injEq, exists_eq_left', exists_eq_left, exists_eq, decide_eq_true_eq, and_true, true_and, if_true, if_false, Nat.reduceSub, Nat.reduceAdd, reduceCtorEq, false_and, exists_false, and_self, ite_true, ite_false, Bool.false_eq_true, Int.reduceLT, Int.reduceLE, Int.reduceNeg, Nat.reduceLeDiff, Int.toNat_zero, eq_self, (d1.trans d2).take, ← toD_int]
        exact q (.int _) _ True.intro (d1.trans d2) s2
      · refine do_name H.name H.char H.draw (by omega) s1 fun i M2 o d2 s2 => ?_
        simp only [W1_none, W1_some, Wl_none, Wl_some, Wd_none, Wd_some, Wb_none, Wb_some, W2_none, W2_nx, W2_rt, x_var, x_frz, x_cst, x_glb, x_evs0, x_evs1, x_ws0, x_ws1, x_tup, W1_fin, finQ_t, finQ_f, x_lst, x_bin, x_cat, x_ix, x_cmp, x_nt, x_neg, x_an, x_or, x_an0, x_or0, x_an1, x_or1, x_ite, x_call, x_bi, x_isi, x_nil, x_cons, x_asg, x_unp, x_ret, x_ex, x_ifs, x_fr, x_setix, x_app, x_mkl, deref_d, ex_if, add_ii, sub_ii, mul_ii, mod_ii, div_ii, add_ss, add_ll, add_tt, mul_si, ix_li, ix_ti, ix_si, eq_ii, ne_ii, eq_ss, ne_ss, lt_ii, le_ii, gt_ii, ge_ii, lt_ss, le_ss, gt_ss, ge_ss, int_i, int_b, ord_c, len_s, len_t, len_l, tuple_t, tuple_l, map1, map2, ret_d, setL_eq, take_set', nope, ex_and, at0, at1, at2, at3, at4, at5, at6, at7, at8, at9, ix30, ix31, ix32, pow1018, ret_new, x_join, x_comp, x_evc0, x_evc1, Wo_nop, x_slc, sl_l, sl_t, sl_s, x_mdic, wk_l, wk_t, wk_s, wk_r1, wk_r2, wk_e, wk_zl, wk_zt, wk_vl, wk_vt, ok_none, bind_nm, wipe_cons, wipe_nil, wo_cst, wo_var, wo_glb, wo_neg, wo_bin, wo_ix, wo_bi, wo_call, wo_ite, isN_i, isN_s, isN_n, notN_i, notN_s, notN_n, max2_i, min2_i, pow1020, pow1019, List.map_cons, List.map_nil, List.cons_append, List.nil_append, List.append_nil, List.replicate_succ, List.replicate_zero, List.getElem?_cons_zero, List.getElem?_cons_succ, List.set_cons_zero, List.set_cons_succ, List.length_cons, List.length_nil, List.length_set, Option.some.injEq, W.d.injEq, W.m.injEq, D.int.injEq, D.bl.injEq, D.str.injEq, D.tup.injEq, D.lst.injEq, exists_eq_left', exists_eq_left, exists_eq, decide_eq_true_eq, and_true, true_and, if_true, if_false, Nat.reduceSub, Nat.reduceAdd, reduceCtorEq, false_and, exists_false, and_self, ite_true, ite_false, Bool.false_eq_true, Int.reduceLT, Int.reduceLE, Int.reduceNeg, Nat.reduceLeDiff, Int.toNat_zero, eq_self, (d1.trans d2).take, ← toD_text]
        exact q (.text _) _ o (d1.trans d2) s2
/-- the fields with one more, by their names -/
def withF (fs : List (List Nat × Vl)) (s : List Nat) (v : Vl) : List (List Nat × Vl) := fs.filter (fun p => decide (p.1 < s)) ++ [(s, v)] ++ fs.filter (fun p => decide (s < p.1))
theorem withF_len (fs : List (List Nat × Vl)) (s : List Nat) (v : Vl) : (withF fs s v).length ≤ fs.length + 1 + fs.length := by
  unfold withF
  rw [List.length_append, List.length_append, List.length_cons, List.length_nil]
  have := List.length_filter_le (fun p : List Nat × Vl => decide (p.1 < s)) fs
  have := List.length_filter_le (fun p : List Nat × Vl => decide (s < p.1)) fs
  omega
theorem do_with (hf : P.fn "_law_with" = some d_law_with) (hn : 1 ≤ n) {fs : List (List Nat × Vl)} {s : List Nat} {v : Vl} (hl : fs.length ≤ 1000000) (q : Q (.d (toD (.obj (withF fs s v)))) M) : W1 (callF P n "_law_with" [.d (toD (.obj fs)), .d (.str s), .d (toD v)] M) Q := by
  refine x_run (by omega) hf rfl ?_
  have l1 := List.length_filter_le (fun p : List Nat × Vl => decide (p.1 < s)) fs
  have l2 := List.length_filter_le (fun p : List Nat × Vl => decide (s < p.1)) fs
  simp only [W1_none, W1_some, Wl_none, Wl_some, Wd_none, Wd_some, Wb_none, Wb_some, W2_none, W2_nx, W2_rt, x_var, x_frz, x_cst, x_glb, x_evs0, x_evs1, x_ws0, x_ws1, x_tup, W1_fin, finQ_t, finQ_f, x_lst, x_bin, x_cat, x_ix, x_cmp, x_nt, x_neg, x_an, x_or, x_an0, x_or0, x_an1, x_or1, x_ite, x_call, x_bi, x_isi, x_nil, x_cons, x_asg, x_unp, x_ret, x_ex, x_ifs, x_fr, x_setix, x_app, x_mkl, deref_d, ex_if, add_ii, sub_ii, mul_ii, mod_ii, div_ii, add_ss, add_ll, add_tt, mul_si, ix_li, ix_ti, ix_si, eq_ii, ne_ii, eq_ss, ne_ss, lt_ii, le_ii, gt_ii, ge_ii, lt_ss, le_ss, gt_ss, ge_ss, int_i, int_b, ord_c, len_s, len_t, len_l, tuple_t, tuple_l, map1, map2, ret_d, setL_eq, take_set', nope, ex_and, at0, at1, at2, at3, at4, at5, at6, at7, at8, at9, ix30, ix31, ix32, pow1018, ret_new, x_join, x_comp, x_evc0, x_evc1, Wo_nop, x_slc, sl_l, sl_t, sl_s, x_mdic, wk_l, wk_t, wk_s, wk_r1, wk_r2, wk_e, wk_zl, wk_zt, wk_vl, wk_vt, ok_none, bind_nm, wipe_cons, wipe_nil, wo_cst, wo_var, wo_glb, wo_neg, wo_bin, wo_ix, wo_bi, wo_call, wo_ite, isN_i, isN_s, isN_n, notN_i, notN_s, notN_n, max2_i, min2_i, pow1020, pow1019, List.map_cons, List.map_nil, List.cons_append, List.nil_append, List.append_nil, List.replicate_succ, List.replicate_zero, List.getElem?_cons_zero, List.getElem?_cons_succ, List.set_cons_zero, List.set_cons_succ, List.length_cons, List.length_nil, List.length_set, Option.some.injEq, W.d.injEq, W.m.injEq, D.int.injEq, D.bl.injEq, D.str.injEq, D.tup.injEq, D.lst.injEq, exists_eq_left', exists_eq_left, exists_eq, decide_eq_true_eq, and_true, true_and, if_true, if_false, Nat.reduceSub, Nat.reduceAdd, reduceCtorEq, false_and, exists_false, and_self, ite_true, ite_false, Bool.false_eq_true, Int.reduceLT, Int.reduceLE, Int.reduceNeg, Nat.reduceLeDiff, Int.toNat_zero, eq_self, d_law_with, toD_obj]
  rw [if_neg (by decide)]
  refine wd_pure (fun p => decide (p.1 < s)) fD (show Walk.ok ⟨fs.map fD, none⟩ M from True.intro) fs (fun x hx => ⟨_, rfl, ?_, fun _ => ?_⟩) ?_
  · simp only [W1_none, W1_some, Wl_none, Wl_some, Wd_none, Wd_some, Wb_none, Wb_some, W2_none, W2_nx, W2_rt, x_var, x_frz, x_cst, x_glb, x_evs0, x_evs1, x_ws0, x_ws1, x_tup, W1_fin, finQ_t, finQ_f, x_lst, x_bin, x_cat, x_ix, x_cmp, x_nt, x_neg, x_an, x_or, x_an0, x_or0, x_an1, x_or1, x_ite, x_call, x_bi, x_isi, x_nil, x_cons, x_asg, x_unp, x_ret, x_ex, x_ifs, x_fr, x_setix, x_app, x_mkl, deref_d, ex_if, add_ii, sub_ii, mul_ii, mod_ii, div_ii, add_ss, add_ll, add_tt, mul_si, ix_li, ix_ti, ix_si, eq_ii, ne_ii, eq_ss, ne_ss, lt_ii, le_ii, gt_ii, ge_ii, lt_ss, le_ss, gt_ss, ge_ss, int_i, int_b, ord_c, len_s, len_t, len_l, tuple_t, tuple_l, map1, map2, ret_d, setL_eq, take_set', nope, ex_and, at0, at1, at2, at3, at4, at5, at6, at7, at8, at9, ix30, ix31, ix32, pow1018, ret_new, x_join, x_comp, x_evc0, x_evc1, Wo_nop, x_slc, sl_l, sl_t, sl_s, x_mdic, wk_l, wk_t, wk_s, wk_r1, wk_r2, wk_e, wk_zl, wk_zt, wk_vl, wk_vt, ok_none, bind_nm, wipe_cons, wipe_nil, wo_cst, wo_var, wo_glb, wo_neg, wo_bin, wo_ix, wo_bi, wo_call, wo_ite, isN_i, isN_s, isN_n, notN_i, notN_s, notN_n, max2_i, min2_i, pow1020, pow1019, List.map_cons, List.map_nil, List.cons_append, List.nil_append, List.append_nil, List.replicate_succ, List.replicate_zero, List.getElem?_cons_zero, List.getElem?_cons_succ, List.set_cons_zero, List.set_cons_succ, List.length_cons, List.length_nil, List.length_set, Option.some.injEq, W.d.injEq, W.m.injEq, D.int.injEq, D.bl.injEq, D.str.injEq, D.tup.injEq, D.lst.injEq, exists_eq_left', exists_eq_left, exists_eq, decide_eq_true_eq, and_true, true_and, if_true, if_false, Nat.reduceSub, Nat.reduceAdd, reduceCtorEq, false_and, exists_false, and_self, ite_true, ite_false, Bool.false_eq_true, Int.reduceLT, Int.reduceLE, Int.reduceNeg, Nat.reduceLeDiff, Int.toNat_zero, eq_self, fD]
  · simp only [W1_none, W1_some, Wl_none, Wl_some, Wd_none, Wd_some, Wb_none, Wb_some, W2_none, W2_nx, W2_rt, x_var, x_frz, x_cst, x_glb, x_evs0, x_evs1, x_ws0, x_ws1, x_tup, W1_fin, finQ_t, finQ_f, x_lst, x_bin, x_cat, x_ix, x_cmp, x_nt, x_neg, x_an, x_or, x_an0, x_or0, x_an1, x_or1, x_ite, x_call, x_bi, x_isi, x_nil, x_cons, x_asg, x_unp, x_ret, x_ex, x_ifs, x_fr, x_setix, x_app, x_mkl, deref_d, ex_if, add_ii, sub_ii, mul_ii, mod_ii, div_ii, add_ss, add_ll, add_tt, mul_si, ix_li, ix_ti, ix_si, eq_ii, ne_ii, eq_ss, ne_ss, lt_ii, le_ii, gt_ii, ge_ii, lt_ss, le_ss, gt_ss, ge_ss, int_i, int_b, ord_c, len_s, len_t, len_l, tuple_t, tuple_l, map1, map2, ret_d, setL_eq, take_set', nope, ex_and, at0, at1, at2, at3, at4, at5, at6, at7, at8, at9, ix30, ix31, ix32, pow1018, ret_new, x_join, x_comp, x_evc0, x_evc1, Wo_nop, x_slc, sl_l, sl_t, sl_s, x_mdic, wk_l, wk_t, wk_s, wk_r1, wk_r2, wk_e, wk_zl, wk_zt, wk_vl, wk_vt, ok_none, bind_nm, wipe_cons, wipe_nil, wo_cst, wo_var, wo_glb, wo_neg, wo_bin, wo_ix, wo_bi, wo_call, wo_ite, isN_i, isN_s, isN_n, notN_i, notN_s, notN_n, max2_i, min2_i, pow1020, pow1019, List.map_cons, List.map_nil, List.cons_append, List.nil_append, List.append_nil, List.replicate_succ, List.replicate_zero, List.getElem?_cons_zero, List.getElem?_cons_succ, List.set_cons_zero, List.set_cons_succ, List.length_cons, List.length_nil, List.length_set, Option.some.injEq, W.d.injEq, W.m.injEq, D.int.injEq, D.bl.injEq, D.str.injEq, D.tup.injEq, D.lst.injEq, exists_eq_left', exists_eq_left, exists_eq, decide_eq_true_eq, and_true, true_and, if_true, if_false, Nat.reduceSub, Nat.reduceAdd, reduceCtorEq, false_and, exists_false, and_self, ite_true, ite_false, Bool.false_eq_true, Int.reduceLT, Int.reduceLE, Int.reduceNeg, Nat.reduceLeDiff, Int.toNat_zero, eq_self, fD]
  refine ⟨by rw [List.length_map]; show _ ≤ 16777216; omega, ?_⟩
  refine wd_pure (fun p => decide (s < p.1)) fD (show Walk.ok ⟨fs.map fD, none⟩ M from True.intro) fs (fun x hx => ⟨_, rfl, ?_, fun _ => ?_⟩) ?_
  · simp only [W1_none, W1_some, Wl_none, Wl_some, Wd_none, Wd_some, Wb_none, Wb_some, W2_none, W2_nx, W2_rt, x_var, x_frz, x_cst, x_glb, x_evs0, x_evs1, x_ws0, x_ws1, x_tup, W1_fin, finQ_t, finQ_f, x_lst, x_bin, x_cat, x_ix, x_cmp, x_nt, x_neg, x_an, x_or, x_an0, x_or0, x_an1, x_or1, x_ite, x_call, x_bi, x_isi, x_nil, x_cons, x_asg, x_unp, x_ret, x_ex, x_ifs, x_fr, x_setix, x_app, x_mkl, deref_d, ex_if, add_ii, sub_ii, mul_ii, mod_ii, div_ii, add_ss, add_ll, add_tt, mul_si, ix_li, ix_ti, ix_si, eq_ii, ne_ii, eq_ss, ne_ss, lt_ii, le_ii, gt_ii, ge_ii, lt_ss, le_ss, gt_ss, ge_ss, int_i, int_b, ord_c, len_s, len_t, len_l, tuple_t, tuple_l, map1, map2, ret_d, setL_eq, take_set', nope, ex_and, at0, at1, at2, at3, at4, at5, at6, at7, at8, at9, ix30, ix31, ix32, pow1018, ret_new, x_join, x_comp, x_evc0, x_evc1, Wo_nop, x_slc, sl_l, sl_t, sl_s, x_mdic, wk_l, wk_t, wk_s, wk_r1, wk_r2, wk_e, wk_zl, wk_zt, wk_vl, wk_vt, ok_none, bind_nm, wipe_cons, wipe_nil, wo_cst, wo_var, wo_glb, wo_neg, wo_bin, wo_ix, wo_bi, wo_call, wo_ite, isN_i, isN_s, isN_n, notN_i, notN_s, notN_n, max2_i, min2_i, pow1020, pow1019, List.map_cons, List.map_nil, List.cons_append, List.nil_append, List.append_nil, List.replicate_succ, List.replicate_zero, List.getElem?_cons_zero, List.getElem?_cons_succ, List.set_cons_zero, List.set_cons_succ, List.length_cons, List.length_nil, List.length_set, Option.some.injEq, W.d.injEq, W.m.injEq, D.int.injEq, D.bl.injEq, D.str.injEq, D.tup.injEq, D.lst.injEq, exists_eq_left', exists_eq_left, exists_eq, decide_eq_true_eq, and_true, true_and, if_true, if_false, Nat.reduceSub, Nat.reduceAdd, reduceCtorEq, false_and, exists_false, and_self, ite_true, ite_false, Bool.false_eq_true, Int.reduceLT, Int.reduceLE, Int.reduceNeg, Nat.reduceLeDiff, Int.toNat_zero, eq_self, fD]
  · simp only [W1_none, W1_some, Wl_none, Wl_some, Wd_none, Wd_some, Wb_none, Wb_some, W2_none, W2_nx, W2_rt, x_var, x_frz, x_cst, x_glb, x_evs0, x_evs1, x_ws0, x_ws1, x_tup, W1_fin, finQ_t, finQ_f, x_lst, x_bin, x_cat, x_ix, x_cmp, x_nt, x_neg, x_an, x_or, x_an0, x_or0, x_an1, x_or1, x_ite, x_call, x_bi, x_isi, x_nil, x_cons, x_asg, x_unp, x_ret, x_ex, x_ifs, x_fr, x_setix, x_app, x_mkl, deref_d, ex_if, add_ii, sub_ii, mul_ii, mod_ii, div_ii, add_ss, add_ll, add_tt, mul_si, ix_li, ix_ti, ix_si, eq_ii, ne_ii, eq_ss, ne_ss, lt_ii, le_ii, gt_ii, ge_ii, lt_ss, le_ss, gt_ss, ge_ss, int_i, int_b, ord_c, len_s, len_t, len_l, tuple_t, tuple_l, map1, map2, ret_d, setL_eq, take_set', nope, ex_and, at0, at1, at2, at3, at4, at5, at6, at7, at8, at9, ix30, ix31, ix32, pow1018, ret_new, x_join, x_comp, x_evc0, x_evc1, Wo_nop, x_slc, sl_l, sl_t, sl_s, x_mdic, wk_l, wk_t, wk_s, wk_r1, wk_r2, wk_e, wk_zl, wk_zt, wk_vl, wk_vt, ok_none, bind_nm, wipe_cons, wipe_nil, wo_cst, wo_var, wo_glb, wo_neg, wo_bin, wo_ix, wo_bi, wo_call, wo_ite, isN_i, isN_s, isN_n, notN_i, notN_s, notN_n, max2_i, min2_i, pow1020, pow1019, List.map_cons, List.map_nil, List.cons_append, List.nil_append, List.append_nil, List.replicate_succ, List.replicate_zero, List.getElem?_cons_zero, List.getElem?_cons_succ, List.set_cons_zero, List.set_cons_succ, List.length_cons, List.length_nil, List.length_set, Option.some.injEq, W.d.injEq, W.m.injEq, D.int.injEq, D.bl.injEq, D.str.injEq, D.tup.injEq, D.lst.injEq, exists_eq_left', exists_eq_left, exists_eq, decide_eq_true_eq, and_true, true_and, if_true, if_false, Nat.reduceSub, Nat.reduceAdd, reduceCtorEq, false_and, exists_false, and_self, ite_true, ite_false, Bool.false_eq_true, Int.reduceLT, Int.reduceLE, Int.reduceNeg, Nat.reduceLeDiff, Int.toNat_zero, eq_self, fD]
  simp only [List.length_map, take_self]
  refine ⟨by show _ ≤ 16777216; omega, by show _ ≤ 16777216; omega, by rw [List.length_append, List.length_map, List.length_cons, List.length_nil]; show _ ≤ 16777216; omega, ?_⟩
  have e : ((fs.filter fun p => decide (p.1 < s)).map fD ++ [D.tup [.str s, toD v]]) ++ (fs.filter fun p => decide (s < p.1)).map fD = (withF fs s v).map fD := by
    unfold withF
    rw [List.map_append, List.map_append]
    rfl
  rw [e, ← toD_obj]
  exact q
def withAll (ps : List (List Nat × Vl)) (fs : List (List Nat × Vl)) : List (List Nat × Vl) := ps.foldl (fun acc p => withF acc p.1 p.2) fs
theorem do_object (hf : P.fn "_law_object" = some d_law_object) (hw : P.fn "_law_with" = some d_law_with) (hn : 2 ≤ n) {ps : List (List Nat × Vl)} (hl : ps.length ≤ 5) (q : Q (.d (toD (.obj (withAll ps [])))) M) : W1 (callF P n "_law_object" [.d (.lst (ps.map fD))] M) Q := by
  refine x_run (by omega) hf rfl ?_
  simp only [W1_none, W1_some, Wl_none, Wl_some, Wd_none, Wd_some, Wb_none, Wb_some, W2_none, W2_nx, W2_rt, x_var, x_frz, x_cst, x_glb, x_evs0, x_evs1, x_ws0, x_ws1, x_tup, W1_fin, finQ_t, finQ_f, x_lst, x_bin, x_cat, x_ix, x_cmp, x_nt, x_neg, x_an, x_or, x_an0, x_or0, x_an1, x_or1, x_ite, x_call, x_bi, x_isi, x_nil, x_cons, x_asg, x_unp, x_ret, x_ex, x_ifs, x_fr, x_setix, x_app, x_mkl, deref_d, ex_if, add_ii, sub_ii, mul_ii, mod_ii, div_ii, add_ss, add_ll, add_tt, mul_si, ix_li, ix_ti, ix_si, eq_ii, ne_ii, eq_ss, ne_ss, lt_ii, le_ii, gt_ii, ge_ii, lt_ss, le_ss, gt_ss, ge_ss, int_i, int_b, ord_c, len_s, len_t, len_l, tuple_t, tuple_l, map1, map2, ret_d, setL_eq, take_set', nope, ex_and, at0, at1, at2, at3, at4, at5, at6, at7, at8, at9, ix30, ix31, ix32, pow1018, ret_new, x_join, x_comp, x_evc0, x_evc1, Wo_nop, x_slc, sl_l, sl_t, sl_s, x_mdic, wk_l, wk_t, wk_s, wk_r1, wk_r2, wk_e, wk_zl, wk_zt, wk_vl, wk_vt, ok_none, bind_nm, wipe_cons, wipe_nil, wo_cst, wo_var, wo_glb, wo_neg, wo_bin, wo_ix, wo_bi, wo_call, wo_ite, isN_i, isN_s, isN_n, notN_i, notN_s, notN_n, max2_i, min2_i, pow1020, pow1019, List.map_cons, List.map_nil, List.cons_append, List.nil_append, List.append_nil, List.replicate_succ, List.replicate_zero, List.getElem?_cons_zero, List.getElem?_cons_succ, List.set_cons_zero, List.set_cons_succ, List.length_cons, List.length_nil, List.length_set, Option.some.injEq, W.d.injEq, W.m.injEq, D.int.injEq, D.bl.injEq, D.str.injEq, D.tup.injEq, D.lst.injEq, exists_eq_left', exists_eq_left, exists_eq, decide_eq_true_eq, and_true, true_and, if_true, if_false, Nat.reduceSub, Nat.reduceAdd, reduceCtorEq, false_and, exists_false, and_self, ite_true, ite_false, Bool.false_eq_true, Int.reduceLT, Int.reduceLE, Int.reduceNeg, Nat.reduceLeDiff, Int.toNat_zero, eq_self, d_law_object]
  refine w2_for (fun rest δ M' => M' = M ∧ ∃ t fs c, rest = t.map fD ∧ withAll ps [] = withAll t fs ∧ δ = [some (.d (.lst (ps.map fD))), some (.d (toD (.obj fs))), c] ∧ fs.length + 1 ≤ 2 ^ (6 - t.length) ∧ t.length ≤ 5) ?_ ?_ _ _ _ ⟨rfl, ps, [], _, rfl, rfl, by rw [toD_obj]; rfl, Nat.one_le_two_pow, hl⟩
  · rintro x r δ M' ⟨rfl, t, fs, c, ht, hr, rfl, hl, h5⟩
    cases t with
    | nil => cases ht
    | cons p t =>
      cases ht
      refine ⟨_, rfl, ?_⟩
      rw [List.length_cons] at hl h5
      have hb : 2 ^ (6 - (t.length + 1)) ≤ 64 := Nat.pow_le_pow_right (by omega) (by omega : 6 - (t.length + 1) ≤ 6)
      simp only [W1_none, W1_some, Wl_none, Wl_some, Wd_none, Wd_some, Wb_none, Wb_some, W2_none, W2_nx, W2_rt, x_var, x_frz, x_cst, x_glb, x_evs0, x_evs1, x_ws0, x_ws1, x_tup, W1_fin, finQ_t, finQ_f, x_lst, x_bin, x_cat, x_ix, x_cmp, x_nt, x_neg, x_an, x_or, x_an0, x_or0, x_an1, x_or1, x_ite, x_call, x_bi, x_isi, x_nil, x_cons, x_asg, x_unp, x_ret, x_ex, x_ifs, x_fr, x_setix, x_app, x_mkl, deref_d, ex_if, add_ii, sub_ii, mul_ii, mod_ii, div_ii, add_ss, add_ll, add_tt, mul_si, ix_li, ix_ti, ix_si, eq_ii, ne_ii, eq_ss, ne_ss, lt_ii, le_ii, gt_ii, ge_ii, lt_ss, le_ss, gt_ss, ge_ss, int_i, int_b, ord_c, len_s, len_t, len_l, tuple_t, tuple_l, map1, map2, ret_d, setL_eq, take_set', nope, ex_and, at0, at1, at2, at3, at4, at5, at6, at7, at8, at9, ix30, ix31, ix32, pow1018, ret_new, x_join, x_comp, x_evc0, x_evc1, Wo_nop, x_slc, sl_l, sl_t, sl_s, x_mdic, wk_l, wk_t, wk_s, wk_r1, wk_r2, wk_e, wk_zl, wk_zt, wk_vl, wk_vt, ok_none, bind_nm, wipe_cons, wipe_nil, wo_cst, wo_var, wo_glb, wo_neg, wo_bin, wo_ix, wo_bi, wo_call, wo_ite, isN_i, isN_s, isN_n, notN_i, notN_s, notN_n, max2_i, min2_i, pow1020, pow1019, List.map_cons, List.map_nil, List.cons_append, List.nil_append, List.append_nil, List.replicate_succ, List.replicate_zero, List.getElem?_cons_zero, List.getElem?_cons_succ, List.set_cons_zero, List.set_cons_succ, List.length_cons, List.length_nil, List.length_set, Option.some.injEq, W.d.injEq, W.m.injEq, D.int.injEq, D.bl.injEq, D.str.injEq, D.tup.injEq, D.lst.injEq, exists_eq_left', exists_eq_left, exists_eq, decide_eq_true_eq, and_true, true_and, if_true, if_false, Nat.reduceSub, Nat.reduceAdd, reduceCtorEq, false_and, exists_false, and_self, ite_true, ite_false, Bool.false_eq_true, Int.reduceLT, Int.reduceLE, Int.reduceNeg, Nat.reduceLeDiff, Int.toNat_zero, eq_self, fD]
      refine do_with hw (by omega) (by omega) ?_
      simp only [W1_none, W1_some, Wl_none, Wl_some, Wd_none, Wd_some, Wb_none, Wb_some, W2_none, W2_nx, W2_rt, x_var, x_frz, x_cst, x_glb, x_evs0, x_evs1, x_ws0, x_ws1, x_tup, W1_fin, finQ_t, finQ_f, x_lst, x_bin, x_cat, x_ix, x_cmp, x_nt, x_neg, x_an, x_or, x_an0, x_or0, x_an1, x_or1, x_ite, x_call, x_bi, x_isi, x_nil, x_cons, x_asg, x_unp, x_ret, x_ex, x_ifs, x_fr, x_setix, x_app, x_mkl, deref_d, ex_if, add_ii, sub_ii, mul_ii, mod_ii, div_ii, add_ss, add_ll, add_tt, mul_si, ix_li, ix_ti, ix_si, eq_ii, ne_ii, eq_ss, ne_ss, lt_ii, le_ii, gt_ii, ge_ii, lt_ss, le_ss, gt_ss, ge_ss, int_i, int_b, ord_c, len_s, len_t, len_l, tuple_t, tuple_l, map1, map2, ret_d, setL_eq, take_set', nope, ex_and, at0, at1, at2, at3, at4, at5, at6, at7, at8, at9, ix30, ix31, ix32, pow1018, ret_new, x_join, x_comp, x_evc0, x_evc1, Wo_nop, x_slc, sl_l, sl_t, sl_s, x_mdic, wk_l, wk_t, wk_s, wk_r1, wk_r2, wk_e, wk_zl, wk_zt, wk_vl, wk_vt, ok_none, bind_nm, wipe_cons, wipe_nil, wo_cst, wo_var, wo_glb, wo_neg, wo_bin, wo_ix, wo_bi, wo_call, wo_ite, isN_i, isN_s, isN_n, notN_i, notN_s, notN_n, max2_i, min2_i, pow1020, pow1019, List.map_cons, List.map_nil, List.cons_append, List.nil_append, List.append_nil, List.replicate_succ, List.replicate_zero, List.getElem?_cons_zero, List.getElem?_cons_succ, List.set_cons_zero, List.set_cons_succ, List.length_cons, List.length_nil, List.length_set, Option.some.injEq, W.d.injEq, W.m.injEq, D.int.injEq, D.bl.injEq, D.str.injEq, D.tup.injEq, D.lst.injEq, exists_eq_left', exists_eq_left, exists_eq, decide_eq_true_eq, and_true, true_and, if_true, if_false, Nat.reduceSub, Nat.reduceAdd, reduceCtorEq, false_and, exists_false, and_self, ite_true, ite_false, Bool.false_eq_true, Int.reduceLT, Int.reduceLE, Int.reduceNeg, Nat.reduceLeDiff, Int.toNat_zero, eq_self]
      refine ⟨t, _, _, rfl, hr, rfl, ?_, by omega⟩
      have := withF_len fs p.1 p.2
      have e : 6 - t.length = (6 - (t.length + 1)) + 1 := by omega
      rw [e, Nat.pow_succ]
      show (withF fs p.1 p.2).length + 1 ≤ _
      omega
  · rintro δ M' ⟨rfl, t, fs, c, ht, hr, rfl, hl⟩
    cases t with
    | cons _ _ => cases ht
    | nil =>
      simp only [W1_none, W1_some, Wl_none, Wl_some, Wd_none, Wd_some, Wb_none, Wb_some, W2_none, W2_nx, W2_rt, x_var, x_frz, x_cst, x_glb, x_evs0, x_evs1, x_ws0, x_ws1, x_tup, W1_fin, finQ_t, finQ_f, x_lst, x_bin, x_cat, x_ix, x_cmp, x_nt, x_neg, x_an, x_or, x_an0, x_or0, x_an1, x_or1, x_ite, x_call, x_bi, x_isi, x_nil, x_cons, x_asg, x_unp, x_ret, x_ex, x_ifs, x_fr, x_setix, x_app, x_mkl, deref_d, ex_if, add_ii, sub_ii, mul_ii, mod_ii, div_ii, add_ss, add_ll, add_tt, mul_si, ix_li, ix_ti, ix_si, eq_ii, ne_ii, eq_ss, ne_ss, lt_ii, le_ii, gt_ii, ge_ii, lt_ss, le_ss, gt_ss, ge_ss, int_i, int_b, ord_c, len_s, len_t, len_l, tuple_t, tuple_l, map1, map2, ret_d, setL_eq, take_set', nope, ex_and, at0, at1, at2, at3, at4, at5, at6, at7, at8, at9, ix30, ix31, ix32, pow1018, ret_new, x_join, x_comp, x_evc0, x_evc1, Wo_nop, x_slc, sl_l, sl_t, sl_s, x_mdic, wk_l, wk_t, wk_s, wk_r1, wk_r2, wk_e, wk_zl, wk_zt, wk_vl, wk_vt, ok_none, bind_nm, wipe_cons, wipe_nil, wo_cst, wo_var, wo_glb, wo_neg, wo_bin, wo_ix, wo_bi, wo_call, wo_ite, isN_i, isN_s, isN_n, notN_i, notN_s, notN_n, max2_i, min2_i, pow1020, pow1019, List.map_cons, List.map_nil, List.cons_append, List.nil_append, List.append_nil, List.replicate_succ, List.replicate_zero, List.getElem?_cons_zero, List.getElem?_cons_succ, List.set_cons_zero, List.set_cons_succ, List.length_cons, List.length_nil, List.length_set, Option.some.injEq, W.d.injEq, W.m.injEq, D.int.injEq, D.bl.injEq, D.str.injEq, D.tup.injEq, D.lst.injEq, exists_eq_left', exists_eq_left, exists_eq, decide_eq_true_eq, and_true, true_and, if_true, if_false, Nat.reduceSub, Nat.reduceAdd, reduceCtorEq, false_and, exists_false, and_self, ite_true, ite_false, Bool.false_eq_true, Int.reduceLT, Int.reduceLE, Int.reduceNeg, Nat.reduceLeDiff, Int.toNat_zero, eq_self, take_self]
      rw [hr] at q
      exact q
end
theorem sLt_trans {a b c : List Nat} (h1 : a < b) (h2 : b < c) : a < c := List.lt_trans h1 h2
theorem withF_mem {fs : List (List Nat × Vl)} {s : List Nat} {v : Vl} {p : List Nat × Vl} (h : p ∈ withF fs s v) : p ∈ fs ∨ p = (s, v) := by
  unfold withF at h
  rcases List.mem_append.mp h with h | h
  · rcases List.mem_append.mp h with h | h
    · exact .inl ((List.mem_filter.mp h).1)
    · exact .inr (List.mem_singleton.mp h)
  · exact .inl ((List.mem_filter.mp h).1)
theorem withF_len1 (fs : List (List Nat × Vl)) (s : List Nat) (v : Vl) : (withF fs s v).length ≤ fs.length + 1 := by
  have : ∀ fs : List (List Nat × Vl), (fs.filter fun p => decide (p.1 < s)).length + (fs.filter fun p => decide (s < p.1)).length ≤ fs.length := by
    intro fs
    induction fs with
    | nil => exact Nat.le_refl _
    | cons p r ih =>
      simp only [List.filter_cons, List.length_cons]
      by_cases h1 : p.1 < s
      · have h2 : ¬ s < p.1 := fun h2 => List.lt_irrefl _ (sLt_trans h1 h2)
        simp only [h1, h2, decide_true, decide_false, if_true, Bool.false_eq_true, if_false, List.length_cons]
        omega
      · by_cases h2 : s < p.1
        · simp only [h1, h2, decide_true, decide_false, if_true, Bool.false_eq_true, if_false, List.length_cons]
          omega
        · simp only [h1, h2, decide_false, Bool.false_eq_true, if_false]
          omega
  have := this fs
  unfold withF
  rw [List.length_append, List.length_append, List.length_cons, List.length_nil]
  omega
theorem withF_sorted {fs : List (List Nat × Vl)} {s : List Nat} {v : Vl} (h : fs.Pairwise fun a b => a.1 < b.1) : (withF fs s v).Pairwise fun a b => a.1 < b.1 := by
  unfold withF
  rw [List.pairwise_append, List.pairwise_append]
  have lo : ∀ a ∈ fs.filter (fun p => decide (p.1 < s)), a.1 < s := fun a ha => of_decide_eq_true (List.mem_filter.mp ha).2
  have hi : ∀ a ∈ fs.filter (fun p => decide (s < p.1)), s < a.1 := fun a ha => of_decide_eq_true (List.mem_filter.mp ha).2
  refine ⟨⟨h.filter _, List.pairwise_singleton _ _, fun a ha b hb => ?_⟩, h.filter _, fun a ha b hb => ?_⟩
  · rw [List.mem_singleton.mp hb]; exact lo a ha
  · rcases List.mem_append.mp ha with ha | ha
    · exact sLt_trans (lo a ha) (hi b hb)
    · rw [List.mem_singleton.mp ha]; exact hi b hb
theorem withAll_ok {R : List Nat × Vl → Prop} : ∀ {ps fs : List (List Nat × Vl)}, (∀ p ∈ ps, R p) → (∀ p ∈ fs, R p) → (fs.Pairwise fun a b => a.1 < b.1) → (∀ p ∈ withAll ps fs, R p) ∧ ((withAll ps fs).Pairwise fun a b => a.1 < b.1) ∧ (withAll ps fs).length ≤ fs.length + ps.length
  | [], fs, _, h, s => ⟨h, s, Nat.le_refl _⟩
  | p :: ps, fs, hp, h, s => by
    obtain ⟨h1, h2, h3⟩ := withAll_ok (ps := ps) (fs := withF fs p.1 p.2) (fun q hq => hp q (List.mem_cons_of_mem _ hq)) (fun q hq => by
      rcases withF_mem hq with hq | rfl
      · exact h q hq
      · exact hp _ List.mem_cons_self) (withF_sorted s)
    refine ⟨h1, h2, ?_⟩
    have := withF_len1 fs p.1 p.2
    show (withAll ps (withF fs p.1 p.2)).length ≤ _
    rw [List.length_cons]
    omega
mutual
/-- a value of the document, of drawn texts -/
def vwf : Vl → Prop
  | .text s => nameOk s
  | .lst xs => vwfs xs
  | .obj fs => (fs.Pairwise fun a b => a.1 < b.1) ∧ vwff fs
  | _ => True
def vwfs : List Vl → Prop
  | [] => True
  | x :: xs => vwf x ∧ vwfs xs
def vwff : List (List Nat × Vl) → Prop
  | [] => True
  | (k, x) :: xs => (nameOk k ∧ vwf x) ∧ vwff xs
end
theorem vwfs_iff : ∀ {xs : List Vl}, vwfs xs ↔ ∀ x ∈ xs, vwf x
  | [] => by simp [vwfs]
  | x :: xs => by simp [vwfs, vwfs_iff (xs := xs)]
theorem vwff_iff : ∀ {xs : List (List Nat × Vl)}, vwff xs ↔ ∀ p ∈ xs, nameOk p.1 ∧ vwf p.2
  | [] => by simp [vwff]
  | (k, x) :: xs => by simp [vwff, vwff_iff (xs := xs)]
/-- drawn to a depth -/
def vOk (d : Nat) (v : Vl) : Prop := vwf v ∧ vdep v ≤ max 1 d ∧ vsize v ≤ 4 ^ d
theorem vOk_leaf {d : Nat} {v : Vl} (h : leafOk v) : vOk d v := by
  have : 1 ≤ 4 ^ d := Nat.one_le_pow _ _ (by omega)
  cases v <;> first | exact h.elim | exact ⟨by simpa [vwf, leafOk] using h, by simp [vdep]; omega, by simp [vsize]; omega⟩
theorem vOk_lst {d : Nat} {xs : List Vl} (hl : xs.length ≤ 3) (h : ∀ x ∈ xs, vOk (d + 1) x) : vOk (d + 2) (.lst xs) := by
  refine ⟨?_, ?_, ?_⟩
  · unfold vwf; exact vwfs_iff.mpr fun x hx => (h x hx).1
  · unfold vdep
    have := vdeps_le (xs := xs) (k := d + 1) fun x hx => by have := (h x hx).2.1; omega
    omega
  · unfold vsize
    have h1 := vsizes_le (xs := xs) (k := 4 ^ (d + 1)) fun x hx => (h x hx).2.2
    have h2 : xs.length * 4 ^ (d + 1) ≤ 3 * 4 ^ (d + 1) := Nat.mul_le_mul_right _ hl
    have h3 : 1 ≤ 4 ^ (d + 1) := Nat.one_le_pow _ _ (by omega)
    rw [Nat.pow_succ 4 (d + 1)]
    omega
theorem vOk_obj {d : Nat} {fs : List (List Nat × Vl)} (hl : fs.length ≤ 3) (hs : fs.Pairwise fun a b => a.1 < b.1) (h : ∀ p ∈ fs, nameOk p.1 ∧ vOk (d + 1) p.2) : vOk (d + 2) (.obj fs) := by
  refine ⟨?_, ?_, ?_⟩
  · unfold vwf; exact ⟨hs, vwff_iff.mpr fun x hx => ⟨(h x hx).1, (h x hx).2.1⟩⟩
  · unfold vdep
    rw [vdepf_map]
    have := vdeps_le (xs := fs.map (·.2)) (k := d + 1) fun x hx => by
      obtain ⟨p, hp, rfl⟩ := List.mem_map.mp hx
      have := (h p hp).2.2.1
      omega
    omega
  · unfold vsize
    rw [vsizef_map]
    have h1 := vsizes_le (xs := fs.map (·.2)) (k := 4 ^ (d + 1)) fun x hx => by
      obtain ⟨p, hp, rfl⟩ := List.mem_map.mp hx
      exact (h p hp).2.2.2
    rw [List.length_map] at h1
    have h2 : fs.length * 4 ^ (d + 1) ≤ 3 * 4 ^ (d + 1) := Nat.mul_le_mul_right _ hl
    have h3 : 1 ≤ 4 ^ (d + 1) := Nat.one_le_pow _ _ (by omega)
    rw [Nat.pow_succ 4 (d + 1)]
    omega
section
variable {P : Prog}
structure Drv (P : Prog) : Prop extends Drw P where
  vl : P.fn "_law_value" = some d_law_value
  ob : P.fn "_law_object" = some d_law_object
  wt : P.fn "_law_with" = some d_law_with
theorem do_value (H : Drv P) : ∀ (d : Nat) {n : Nat} {M : Sto} {k : Nat} {Q : W → Sto → Prop}, d + 6 ≤ n → Src M k → (∀ (v : Vl) (M' : Sto), vOk d v → Dr M k M' → Src M' k → Q (.d (toD v)) M') → W1 (callF P n "_law_value" [.m k, .d (.int (d : Int))] M) Q := by
  intro d
  induction d with
  | zero =>
    intro n M k Q hn h q
    refine x_run (by omega) H.vl rfl ?_
    simp only [W1_none, W1_some, Wl_none, Wl_some, Wd_none, Wd_some, Wb_none, Wb_some, W2_none, W2_nx, W2_rt, x_var, x_frz, x_cst, x_glb, x_evs0, x_evs1, x_ws0, x_ws1, x_tup, W1_fin, finQ_t, finQ_f, x_lst, x_bin, x_cat, x_ix, x_cmp, x_nt, x_neg, x_an, x_or, x_an0, x_or0, x_an1, x_or1, x_ite, x_call, x_bi, x_isi, x_nil, x_cons, x_asg, x_unp, x_ret, x_ex, x_ifs, x_fr, x_setix, x_app, x_mkl, deref_d, ex_if, add_ii, sub_ii, mul_ii, mod_ii, div_ii, add_ss, add_ll, add_tt, mul_si, ix_li, ix_ti, ix_si, eq_ii, ne_ii, eq_ss, ne_ss, lt_ii, le_ii, gt_ii, ge_ii, lt_ss, le_ss, gt_ss, ge_ss, int_i, int_b, ord_c, len_s, len_t, len_l, tuple_t, tuple_l, map1, map2, ret_d, setL_eq, take_set', nope, ex_and, at0, at1, at2, at3, at4, at5, at6, at7, at8, at9, ix30, ix31, ix32, pow1018, ret_new, x_join, x_comp, x_evc0, x_evc1, Wo_nop, x_slc, sl_l, sl_t, sl_s, x_mdic, wk_l, wk_t, wk_s, wk_r1, wk_r2, wk_e, wk_zl, wk_zt, wk_vl, wk_vt, ok_none, bind_nm, wipe_cons, wipe_nil, wo_cst, wo_var, wo_glb, wo_neg, wo_bin, wo_ix, wo_bi, wo_call, wo_ite, isN_i, isN_s, isN_n, notN_i, notN_s, notN_n, max2_i, min2_i, pow1020, pow1019, List.map_cons, List.map_nil, List.cons_append, List.nil_append, List.append_nil, List.replicate_succ, List.replicate_zero, List.getElem?_cons_zero, List.getElem?_cons_succ, List.set_cons_zero, List.set_cons_succ, List.length_cons, List.length_nil, List.length_set, Option.some.injEq, W.d.injEq, W.m.injEq, D.int.injEq, D.bl.injEq, D.str.injEq, D.tup.injEq, D.lst.injEq, exists_eq_left', exists_eq_left, exists_eq, decide_eq_true_eq, and_true, true_and, if_true, if_false, Nat.reduceSub, Nat.reduceAdd, reduceCtorEq, false_and, exists_false, and_self, ite_true, ite_false, Bool.false_eq_true, Int.reduceLT, Int.reduceLE, Int.reduceNeg, Nat.reduceLeDiff, Int.toNat_zero, eq_self, d_law_value]
    refine do_draw H.draw (by omega) h (by omega) (by omega) fun r M1 h1 h2 d1 s1 => ?_
    simp only [W1_none, W1_some, Wl_none, Wl_some, Wd_none, Wd_some, Wb_none, Wb_some, W2_none, W2_nx, W2_rt, x_var, x_frz, x_cst, x_glb, x_evs0, x_evs1, x_ws0, x_ws1, x_tup, W1_fin, finQ_t, finQ_f, x_lst, x_bin, x_cat, x_ix, x_cmp, x_nt, x_neg, x_an, x_or, x_an0, x_or0, x_an1, x_or1, x_ite, x_call, x_bi, x_isi, x_nil, x_cons, x_asg, x_unp, x_ret, x_ex, x_ifs, x_fr, x_setix, x_app, x_mkl, deref_d, ex_if, add_ii, sub_ii, mul_ii, mod_ii, div_ii, add_ss, add_ll, add_tt, mul_si, ix_li, ix_ti, ix_si, eq_ii, ne_ii, eq_ss, ne_ss, lt_ii, le_ii, gt_ii, ge_ii, lt_ss, le_ss, gt_ss, ge_ss, int_i, int_b, ord_c, len_s, len_t, len_l, tuple_t, tuple_l, map1, map2, ret_d, setL_eq, take_set', nope, ex_and, at0, at1, at2, at3, at4, at5, at6, at7, at8, at9, ix30, ix31, ix32, pow1018, ret_new, x_join, x_comp, x_evc0, x_evc1, Wo_nop, x_slc, sl_l, sl_t, sl_s, x_mdic, wk_l, wk_t, wk_s, wk_r1, wk_r2, wk_e, wk_zl, wk_zt, wk_vl, wk_vt, ok_none, bind_nm, wipe_cons, wipe_nil, wo_cst, wo_var, wo_glb, wo_neg, wo_bin, wo_ix, wo_bi, wo_call, wo_ite, isN_i, isN_s, isN_n, notN_i, notN_s, notN_n, max2_i, min2_i, pow1020, pow1019, List.map_cons, List.map_nil, List.cons_append, List.nil_append, List.append_nil, List.replicate_succ, List.replicate_zero, List.getElem?_cons_zero, List.getElem?_cons_succ, List.set_cons_zero, List.set_cons_succ, List.length_cons, List.length_nil, List.length_set, Option.some.injEq, W.d.injEq, W.m.injEq, D.int.injEq, D.bl.injEq, D.str.injEq, D.tup.injEq, D.lst.injEq, exists_eq_left', exists_eq_left, exists_eq, decide_eq_true_eq, and_true, true_and, if_true, if_false, Nat.reduceSub, Nat.reduceAdd, reduceCtorEq, false_and, exists_false, and_self, ite_true, ite_false, Bool.false_eq_true, Int.reduceLT, Int.reduceLE, Int.reduceNeg, Nat.reduceLeDiff, Int.toNat_zero, eq_self]
    rw [if_pos (by omega)]
    refine do_leaf H.toDrw (by omega) s1 fun v M2 o d2 s2 => ?_
    simp only [W1_none, W1_some, Wl_none, Wl_some, Wd_none, Wd_some, Wb_none, Wb_some, W2_none, W2_nx, W2_rt, x_var, x_frz, x_cst, x_glb, x_evs0, x_evs1, x_ws0, x_ws1, x_tup, W1_fin, finQ_t, finQ_f, x_lst, x_bin, x_cat, x_ix, x_cmp, x_nt, x_neg, x_an, x_or, x_an0, x_or0, x_an1, x_or1, x_ite, x_call, x_bi, x_isi, x_nil, x_cons, x_asg, x_unp, x_ret, x_ex, x_ifs, x_fr, x_setix, x_app, x_mkl, deref_d, ex_if, add_ii, sub_ii, mul_ii, mod_ii, div_ii, add_ss, add_ll, add_tt, mul_si, ix_li, ix_ti, ix_si, eq_ii, ne_ii, eq_ss, ne_ss, lt_ii, le_ii, gt_ii, ge_ii, lt_ss, le_ss, gt_ss, ge_ss, int_i, int_b, ord_c, len_s, len_t, len_l, tuple_t, tuple_l, map1, map2, ret_d, setL_eq, take_set', nope, ex_and, at0, at1, at2, at3, at4, at5, at6, at7, at8, at9, ix30, ix31, ix32, pow1018, ret_new, x_join, x_comp, x_evc0, x_evc1, Wo_nop, x_slc, sl_l, sl_t, sl_s, x_mdic, wk_l, wk_t, wk_s, wk_r1, wk_r2, wk_e, wk_zl, wk_zt, wk_vl, wk_vt, ok_none, bind_nm, wipe_cons, wipe_nil, wo_cst, wo_var, wo_glb, wo_neg, wo_bin, wo_ix, wo_bi, wo_call, wo_ite, isN_i, isN_s, isN_n, notN_i, notN_s, notN_n, max2_i, min2_i, pow1020, pow1019, List.map_cons, List.map_nil, List.cons_append, List.nil_append, List.append_nil, List.replicate_succ, List.replicate_zero, List.getElem?_cons_zero, List.getElem?_cons_succ, List.set_cons_zero, List.set_cons_succ, List.length_cons, List.length_nil, List.length_set, Option.some.injEq, W.d.injEq, W.m.injEq, D.int.injEq, D.bl.injEq, D.str.injEq, D.tup.injEq, D.lst.injEq, exists_eq_left', exists_eq_left, exists_eq, decide_eq_true_eq, and_true, true_and, if_true, if_false, Nat.reduceSub, Nat.reduceAdd, reduceCtorEq, false_and, exists_false, and_self, ite_true, ite_false, Bool.false_eq_true, Int.reduceLT, Int.reduceLE, Int.reduceNeg, Nat.reduceLeDiff, Int.toNat_zero, eq_self, (d1.trans d2).take]
    exact q v M2 (vOk_leaf o) (d1.trans d2) s2
  | succ d ih =>
    intro n M k Q hn h q
    refine x_run (by omega) H.vl rfl ?_
    simp only [W1_none, W1_some, Wl_none, Wl_some, Wd_none, Wd_some, Wb_none, Wb_some, W2_none, W2_nx, W2_rt, x_var, x_frz, x_cst, x_glb, x_evs0, x_evs1, x_ws0, x_ws1, x_tup, W1_fin, finQ_t, finQ_f, x_lst, x_bin, x_cat, x_ix, x_cmp, x_nt, x_neg, x_an, x_or, x_an0, x_or0, x_an1, x_or1, x_ite, x_call, x_bi, x_isi, x_nil, x_cons, x_asg, x_unp, x_ret, x_ex, x_ifs, x_fr, x_setix, x_app, x_mkl, deref_d, ex_if, add_ii, sub_ii, mul_ii, mod_ii, div_ii, add_ss, add_ll, add_tt, mul_si, ix_li, ix_ti, ix_si, eq_ii, ne_ii, eq_ss, ne_ss, lt_ii, le_ii, gt_ii, ge_ii, lt_ss, le_ss, gt_ss, ge_ss, int_i, int_b, ord_c, len_s, len_t, len_l, tuple_t, tuple_l, map1, map2, ret_d, setL_eq, take_set', nope, ex_and, at0, at1, at2, at3, at4, at5, at6, at7, at8, at9, ix30, ix31, ix32, pow1018, ret_new, x_join, x_comp, x_evc0, x_evc1, Wo_nop, x_slc, sl_l, sl_t, sl_s, x_mdic, wk_l, wk_t, wk_s, wk_r1, wk_r2, wk_e, wk_zl, wk_zt, wk_vl, wk_vt, ok_none, bind_nm, wipe_cons, wipe_nil, wo_cst, wo_var, wo_glb, wo_neg, wo_bin, wo_ix, wo_bi, wo_call, wo_ite, isN_i, isN_s, isN_n, notN_i, notN_s, notN_n, max2_i, min2_i, pow1020, pow1019, List.map_cons, List.map_nil, List.cons_append, List.nil_append, List.append_nil, List.replicate_succ, List.replicate_zero, List.getElem?_cons_zero, List.getElem?_cons_succ, List.set_cons_zero, List.set_cons_succ, List.length_cons, List.length_nil, List.length_set, Option.some.injEq, W.d.injEq, W.m.injEq, D.int.injEq, D.bl.injEq, D.str.injEq, D.tup.injEq, D.lst.injEq, exists_eq_left', exists_eq_left, exists_eq, decide_eq_true_eq, and_true, true_and, if_true, if_false, Nat.reduceSub, Nat.reduceAdd, reduceCtorEq, false_and, exists_false, and_self, ite_true, ite_false, Bool.false_eq_true, Int.reduceLT, Int.reduceLE, Int.reduceNeg, Nat.reduceLeDiff, Int.toNat_zero, eq_self, d_law_value]
    refine do_draw H.draw (by omega) h (by omega) (by omega) fun r M1 h1 h2 d1 s1 => ?_
    simp only [W1_none, W1_some, Wl_none, Wl_some, Wd_none, Wd_some, Wb_none, Wb_some, W2_none, W2_nx, W2_rt, x_var, x_frz, x_cst, x_glb, x_evs0, x_evs1, x_ws0, x_ws1, x_tup, W1_fin, finQ_t, finQ_f, x_lst, x_bin, x_cat, x_ix, x_cmp, x_nt, x_neg, x_an, x_or, x_an0, x_or0, x_an1, x_or1, x_ite, x_call, x_bi, x_isi, x_nil, x_cons, x_asg, x_unp, x_ret, x_ex, x_ifs, x_fr, x_setix, x_app, x_mkl, deref_d, ex_if, add_ii, sub_ii, mul_ii, mod_ii, div_ii, add_ss, add_ll, add_tt, mul_si, ix_li, ix_ti, ix_si, eq_ii, ne_ii, eq_ss, ne_ss, lt_ii, le_ii, gt_ii, ge_ii, lt_ss, le_ss, gt_ss, ge_ss, int_i, int_b, ord_c, len_s, len_t, len_l, tuple_t, tuple_l, map1, map2, ret_d, setL_eq, take_set', nope, ex_and, at0, at1, at2, at3, at4, at5, at6, at7, at8, at9, ix30, ix31, ix32, pow1018, ret_new, x_join, x_comp, x_evc0, x_evc1, Wo_nop, x_slc, sl_l, sl_t, sl_s, x_mdic, wk_l, wk_t, wk_s, wk_r1, wk_r2, wk_e, wk_zl, wk_zt, wk_vl, wk_vt, ok_none, bind_nm, wipe_cons, wipe_nil, wo_cst, wo_var, wo_glb, wo_neg, wo_bin, wo_ix, wo_bi, wo_call, wo_ite, isN_i, isN_s, isN_n, notN_i, notN_s, notN_n, max2_i, min2_i, pow1020, pow1019, List.map_cons, List.map_nil, List.cons_append, List.nil_append, List.append_nil, List.replicate_succ, List.replicate_zero, List.getElem?_cons_zero, List.getElem?_cons_succ, List.set_cons_zero, List.set_cons_succ, List.length_cons, List.length_nil, List.length_set, Option.some.injEq, W.d.injEq, W.m.injEq, D.int.injEq, D.bl.injEq, D.str.injEq, D.tup.injEq, D.lst.injEq, exists_eq_left', exists_eq_left, exists_eq, decide_eq_true_eq, and_true, true_and, if_true, if_false, Nat.reduceSub, Nat.reduceAdd, reduceCtorEq, false_and, exists_false, and_self, ite_true, ite_false, Bool.false_eq_true, Int.reduceLT, Int.reduceLE, Int.reduceNeg, Nat.reduceLeDiff, Int.toNat_zero, eq_self]
    have lf : W1 (callF P (n - 1) "_law_leaf" [W.m k] M1) fun w M1 => W1 (retE (List.length M) w M1) Q := by
      refine do_leaf H.toDrw (by omega) s1 fun v M2 o d2 s2 => ?_
      simp only [W1_none, W1_some, Wl_none, Wl_some, Wd_none, Wd_some, Wb_none, Wb_some, W2_none, W2_nx, W2_rt, x_var, x_frz, x_cst, x_glb, x_evs0, x_evs1, x_ws0, x_ws1, x_tup, W1_fin, finQ_t, finQ_f, x_lst, x_bin, x_cat, x_ix, x_cmp, x_nt, x_neg, x_an, x_or, x_an0, x_or0, x_an1, x_or1, x_ite, x_call, x_bi, x_isi, x_nil, x_cons, x_asg, x_unp, x_ret, x_ex, x_ifs, x_fr, x_setix, x_app, x_mkl, deref_d, ex_if, add_ii, sub_ii, mul_ii, mod_ii, div_ii, add_ss, add_ll, add_tt, mul_si, ix_li, ix_ti, ix_si, eq_ii, ne_ii, eq_ss, ne_ss, lt_ii, le_ii, gt_ii, ge_ii, lt_ss, le_ss, gt_ss, ge_ss, int_i, int_b, ord_c, len_s, len_t, len_l, tuple_t, tuple_l, map1, map2, ret_d, setL_eq, take_set', nope, ex_and, at0, at1, at2, at3, at4, at5, at6, at7, at8, at9, ix30, ix31, ix32, pow1018, ret_new, x_join, x_comp, x_evc0, x_evc1, Wo_nop, x_slc, sl_l, sl_t, sl_s, x_mdic, wk_l, wk_t, wk_s, wk_r1, wk_r2, wk_e, wk_zl, wk_zt, wk_vl, wk_vt, ok_none, bind_nm, wipe_cons, wipe_nil, wo_cst, wo_var, wo_glb, wo_neg, wo_bin, wo_ix, wo_bi, wo_call, wo_ite, isN_i, isN_s, isN_n, notN_i, notN_s, notN_n, max2_i, min2_i, pow1020, pow1019, List.map_cons, List.map_nil, List.cons_append, List.nil_append, List.append_nil, List.replicate_succ, List.replicate_zero, List.getElem?_cons_zero, List.getElem?_cons_succ, List.set_cons_zero, List.set_cons_succ, List.length_cons, List.length_nil, List.length_set, Option.some.injEq, W.d.injEq, W.m.injEq, D.int.injEq, D.bl.injEq, D.str.injEq, D.tup.injEq, D.lst.injEq, exists_eq_left', exists_eq_left, exists_eq, decide_eq_true_eq, and_true, true_and, if_true, if_false, Nat.reduceSub, Nat.reduceAdd, reduceCtorEq, false_and, exists_false, and_self, ite_true, ite_false, Bool.false_eq_true, Int.reduceLT, Int.reduceLE, Int.reduceNeg, Nat.reduceLeDiff, Int.toNat_zero, eq_self, (d1.trans d2).take]
      exact q v M2 (vOk_leaf o) (d1.trans d2) s2
    have ed : (((d + 1 : Nat) : Int) - 1) = (d : Int) := by omega
    split
    · exact lf
    rename_i hd2
    split
    · exact lf
    obtain ⟨e, rfl⟩ : ∃ e, d = e + 1 := ⟨d - 1, by omega⟩
    split
    · refine do_draw H.draw (by omega) s1 (by omega) (by omega) fun r2 M2 h3 h4 d2 s2 => ?_
      simp only [W1_none, W1_some, Wl_none, Wl_some, Wd_none, Wd_some, Wb_none, Wb_some, W2_none, W2_nx, W2_rt, x_var, x_frz, x_cst, x_glb, x_evs0, x_evs1, x_ws0, x_ws1, x_tup, W1_fin, finQ_t, finQ_f, x_lst, x_bin, x_cat, x_ix, x_cmp, x_nt, x_neg, x_an, x_or, x_an0, x_or0, x_an1, x_or1, x_ite, x_call, x_bi, x_isi, x_nil, x_cons, x_asg, x_unp, x_ret, x_ex, x_ifs, x_fr, x_setix, x_app, x_mkl, deref_d, ex_if, add_ii, sub_ii, mul_ii, mod_ii, div_ii, add_ss, add_ll, add_tt, mul_si, ix_li, ix_ti, ix_si, eq_ii, ne_ii, eq_ss, ne_ss, lt_ii, le_ii, gt_ii, ge_ii, lt_ss, le_ss, gt_ss, ge_ss, int_i, int_b, ord_c, len_s, len_t, len_l, tuple_t, tuple_l, map1, map2, ret_d, setL_eq, take_set', nope, ex_and, at0, at1, at2, at3, at4, at5, at6, at7, at8, at9, ix30, ix31, ix32, pow1018, ret_new, x_join, x_comp, x_evc0, x_evc1, Wo_nop, x_slc, sl_l, sl_t, sl_s, x_mdic, wk_l, wk_t, wk_s, wk_r1, wk_r2, wk_e, wk_zl, wk_zt, wk_vl, wk_vt, ok_none, bind_nm, wipe_cons, wipe_nil, wo_cst, wo_var, wo_glb, wo_neg, wo_bin, wo_ix, wo_bi, wo_call, wo_ite, isN_i, isN_s, isN_n, notN_i, notN_s, notN_n, max2_i, min2_i, pow1020, pow1019, List.map_cons, List.map_nil, List.cons_append, List.nil_append, List.append_nil, List.replicate_succ, List.replicate_zero, List.getElem?_cons_zero, List.getElem?_cons_succ, List.set_cons_zero, List.set_cons_succ, List.length_cons, List.length_nil, List.length_set, Option.some.injEq, W.d.injEq, W.m.injEq, D.int.injEq, D.bl.injEq, D.str.injEq, D.tup.injEq, D.lst.injEq, exists_eq_left', exists_eq_left, exists_eq, decide_eq_true_eq, and_true, true_and, if_true, if_false, Nat.reduceSub, Nat.reduceAdd, reduceCtorEq, false_and, exists_false, and_self, ite_true, ite_false, Bool.false_eq_true, Int.reduceLT, Int.reduceLE, Int.reduceNeg, Nat.reduceLeDiff, Int.toNat_zero, eq_self]
      refine ⟨by omega, ?_⟩
      refine wd_comp0 (fun rest acc M' => Dr M k M' ∧ Src M' k ∧ acc.length + rest.length = r2.toNat ∧ ∃ vs : List Vl, acc = vs.map toD ∧ ∀ v ∈ vs, vOk (e + 1) v) ⟨d1.trans d2, s2, by simp [rangeL], [], rfl, fun _ h => nomatch h⟩ ?_ ?_
      · rintro x rest acc M4 ⟨d4, s4, hl, vs, rfl, hv⟩
        refine ⟨_, rfl, ?_⟩
        simp only [W1_none, W1_some, Wl_none, Wl_some, Wd_none, Wd_some, Wb_none, Wb_some, W2_none, W2_nx, W2_rt, x_var, x_frz, x_cst, x_glb, x_evs0, x_evs1, x_ws0, x_ws1, x_tup, W1_fin, finQ_t, finQ_f, x_lst, x_bin, x_cat, x_ix, x_cmp, x_nt, x_neg, x_an, x_or, x_an0, x_or0, x_an1, x_or1, x_ite, x_call, x_bi, x_isi, x_nil, x_cons, x_asg, x_unp, x_ret, x_ex, x_ifs, x_fr, x_setix, x_app, x_mkl, deref_d, ex_if, add_ii, sub_ii, mul_ii, mod_ii, div_ii, add_ss, add_ll, add_tt, mul_si, ix_li, ix_ti, ix_si, eq_ii, ne_ii, eq_ss, ne_ss, lt_ii, le_ii, gt_ii, ge_ii, lt_ss, le_ss, gt_ss, ge_ss, int_i, int_b, ord_c, len_s, len_t, len_l, tuple_t, tuple_l, map1, map2, ret_d, setL_eq, take_set', nope, ex_and, at0, at1, at2, at3, at4, at5, at6, at7, at8, at9, ix30, ix31, ix32, pow1018, ret_new, x_join, x_comp, x_evc0, x_evc1, Wo_nop, x_slc, sl_l, sl_t, sl_s, x_mdic, wk_l, wk_t, wk_s, wk_r1, wk_r2, wk_e, wk_zl, wk_zt, wk_vl, wk_vt, ok_none, bind_nm, wipe_cons, wipe_nil, wo_cst, wo_var, wo_glb, wo_neg, wo_bin, wo_ix, wo_bi, wo_call, wo_ite, isN_i, isN_s, isN_n, notN_i, notN_s, notN_n, max2_i, min2_i, pow1020, pow1019, List.map_cons, List.map_nil, List.cons_append, List.nil_append, List.append_nil, List.replicate_succ, List.replicate_zero, List.getElem?_cons_zero, List.getElem?_cons_succ, List.set_cons_zero, List.set_cons_succ, List.length_cons, List.length_nil, List.length_set, Option.some.injEq, W.d.injEq, W.m.injEq, D.int.injEq, D.bl.injEq, D.str.injEq, D.tup.injEq, D.lst.injEq, exists_eq_left', exists_eq_left, exists_eq, decide_eq_true_eq, and_true, true_and, if_true, if_false, Nat.reduceSub, Nat.reduceAdd, reduceCtorEq, false_and, exists_false, and_self, ite_true, ite_false, Bool.false_eq_true, Int.reduceLT, Int.reduceLE, Int.reduceNeg, Nat.reduceLeDiff, Int.toNat_zero, eq_self, ed]
        refine ih (by omega) s4 fun v M5 hx d5 s5 => ⟨_, rfl, d4.trans d5, s5, by rw [List.length_append, List.length_cons, List.length_nil]; rw [List.length_cons] at hl; omega, vs ++ [v], by simp, fun z hz => ?_⟩
        rcases List.mem_append.mp hz with hz | hz
        · exact hv z hz
        · rw [List.mem_singleton.mp hz]; exact hx
      · rintro acc M4 ⟨d4, s4, hl, vs, rfl, hv⟩
        rw [List.length_map, List.length_nil] at hl
        refine ⟨by rw [List.length_map]; show _ ≤ 16777216; omega, ?_⟩
        rw [d4.take, ← toD_lst]
        exact q _ M4 (vOk_lst (by omega) hv) d4 s4
    · refine do_draw H.draw (by omega) s1 (by omega) (by omega) fun r2 M2 h3 h4 d2 s2 => ?_
      simp only [W1_none, W1_some, Wl_none, Wl_some, Wd_none, Wd_some, Wb_none, Wb_some, W2_none, W2_nx, W2_rt, x_var, x_frz, x_cst, x_glb, x_evs0, x_evs1, x_ws0, x_ws1, x_tup, W1_fin, finQ_t, finQ_f, x_lst, x_bin, x_cat, x_ix, x_cmp, x_nt, x_neg, x_an, x_or, x_an0, x_or0, x_an1, x_or1, x_ite, x_call, x_bi, x_isi, x_nil, x_cons, x_asg, x_unp, x_ret, x_ex, x_ifs, x_fr, x_setix, x_app, x_mkl, deref_d, ex_if, add_ii, sub_ii, mul_ii, mod_ii, div_ii, add_ss, add_ll, add_tt, mul_si, ix_li, ix_ti, ix_si, eq_ii, ne_ii, eq_ss, ne_ss, lt_ii, le_ii, gt_ii, ge_ii, lt_ss, le_ss, gt_ss, ge_ss, int_i, int_b, ord_c, len_s, len_t, len_l, tuple_t, tuple_l, map1, map2, ret_d, setL_eq, take_set', nope, ex_and, at0, at1, at2, at3, at4, at5, at6, at7, at8, at9, ix30, ix31, ix32, pow1018, ret_new, x_join, x_comp, x_evc0, x_evc1, Wo_nop, x_slc, sl_l, sl_t, sl_s, x_mdic, wk_l, wk_t, wk_s, wk_r1, wk_r2, wk_e, wk_zl, wk_zt, wk_vl, wk_vt, ok_none, bind_nm, wipe_cons, wipe_nil, wo_cst, wo_var, wo_glb, wo_neg, wo_bin, wo_ix, wo_bi, wo_call, wo_ite, isN_i, isN_s, isN_n, notN_i, notN_s, notN_n, max2_i, min2_i, pow1020, pow1019, List.map_cons, List.map_nil, List.cons_append, List.nil_append, List.append_nil, List.replicate_succ, List.replicate_zero, List.getElem?_cons_zero, List.getElem?_cons_succ, List.set_cons_zero, List.set_cons_succ, List.length_cons, List.length_nil, List.length_set, Option.some.injEq, W.d.injEq, W.m.injEq, D.int.injEq, D.bl.injEq, D.str.injEq, D.tup.injEq, D.lst.injEq, exists_eq_left', exists_eq_left, exists_eq, decide_eq_true_eq, and_true, true_and, if_true, if_false, Nat.reduceSub, Nat.reduceAdd, reduceCtorEq, false_and, exists_false, and_self, ite_true, ite_false, Bool.false_eq_true, Int.reduceLT, Int.reduceLE, Int.reduceNeg, Nat.reduceLeDiff, Int.toNat_zero, eq_self]
      refine ⟨by omega, ?_⟩
      refine wd_comp0 (fun rest acc M' => Dr M k M' ∧ Src M' k ∧ acc.length + rest.length = r2.toNat ∧ ∃ vs : List (List Nat × Vl), acc = vs.map fD ∧ ∀ p ∈ vs, nameOk p.1 ∧ vOk (e + 1) p.2) ⟨d1.trans d2, s2, by simp [rangeL], [], rfl, fun _ h => nomatch h⟩ ?_ ?_
      · rintro x rest acc M4 ⟨d4, s4, hl, vs, rfl, hv⟩
        refine ⟨_, rfl, ?_⟩
        simp only [W1_none, W1_some, Wl_none, Wl_some, Wd_none, Wd_some, Wb_none, Wb_some, W2_none, W2_nx, W2_rt, x_var, x_frz, x_cst, x_glb, x_evs0, x_evs1, x_ws0, x_ws1, x_tup, W1_fin, finQ_t, finQ_f, x_lst, x_bin, x_cat, x_ix, x_cmp, x_nt, x_neg, x_an, x_or, x_an0, x_or0, x_an1, x_or1, x_ite, x_call, x_bi, x_isi, x_nil, x_cons, x_asg, x_unp, x_ret, x_ex, x_ifs, x_fr, x_setix, x_app, x_mkl, deref_d, ex_if, add_ii, sub_ii, mul_ii, mod_ii, div_ii, add_ss, add_ll, add_tt, mul_si, ix_li, ix_ti, ix_si, eq_ii, ne_ii, eq_ss, ne_ss, lt_ii, le_ii, gt_ii, ge_ii, lt_ss, le_ss, gt_ss, ge_ss, int_i, int_b, ord_c, len_s, len_t, len_l, tuple_t, tuple_l, map1, map2, ret_d, setL_eq, take_set', nope, ex_and, at0, at1, at2, at3, at4, at5, at6, at7, at8, at9, ix30, ix31, ix32, pow1018, ret_new, x_join, x_comp, x_evc0, x_evc1, Wo_nop, x_slc, sl_l, sl_t, sl_s, x_mdic, wk_l, wk_t, wk_s, wk_r1, wk_r2, wk_e, wk_zl, wk_zt, wk_vl, wk_vt, ok_none, bind_nm, wipe_cons, wipe_nil, wo_cst, wo_var, wo_glb, wo_neg, wo_bin, wo_ix, wo_bi, wo_call, wo_ite, isN_i, isN_s, isN_n, notN_i, notN_s, notN_n, max2_i, min2_i, pow1020, pow1019, List.map_cons, List.map_nil, List.cons_append, List.nil_append, List.append_nil, List.replicate_succ, List.replicate_zero, List.getElem?_cons_zero, List.getElem?_cons_succ, List.set_cons_zero, List.set_cons_succ, List.length_cons, List.length_nil, List.length_set, Option.some.injEq, W.d.injEq, W.m.injEq, D.int.injEq, D.bl.injEq, D.str.injEq, D.tup.injEq, D.lst.injEq, exists_eq_left', exists_eq_left, exists_eq, decide_eq_true_eq, and_true, true_and, if_true, if_false, Nat.reduceSub, Nat.reduceAdd, reduceCtorEq, false_and, exists_false, and_self, ite_true, ite_false, Bool.false_eq_true, Int.reduceLT, Int.reduceLE, Int.reduceNeg, Nat.reduceLeDiff, Int.toNat_zero, eq_self, ed]
        refine do_name H.name H.char H.draw (by omega) s4 fun nm M5 o5 d5 s5 => ?_
        simp only [W1_none, W1_some, Wl_none, Wl_some, Wd_none, Wd_some, Wb_none, Wb_some, W2_none, W2_nx, W2_rt, x_var, x_frz, x_cst, x_glb, x_evs0, x_evs1, x_ws0, x_ws1, x_tup, W1_fin, finQ_t, finQ_f, x_lst, x_bin, x_cat, x_ix, x_cmp, x_nt, x_neg, x_an, x_or, x_an0, x_or0, x_an1, x_or1, x_ite, x_call, x_bi, x_isi, x_nil, x_cons, x_asg, x_unp, x_ret, x_ex, x_ifs, x_fr, x_setix, x_app, x_mkl, deref_d, ex_if, add_ii, sub_ii, mul_ii, mod_ii, div_ii, add_ss, add_ll, add_tt, mul_si, ix_li, ix_ti, ix_si, eq_ii, ne_ii, eq_ss, ne_ss, lt_ii, le_ii, gt_ii, ge_ii, lt_ss, le_ss, gt_ss, ge_ss, int_i, int_b, ord_c, len_s, len_t, len_l, tuple_t, tuple_l, map1, map2, ret_d, setL_eq, take_set', nope, ex_and, at0, at1, at2, at3, at4, at5, at6, at7, at8, at9, ix30, ix31, ix32, pow1018, ret_new, x_join, x_comp, x_evc0, x_evc1, Wo_nop, x_slc, sl_l, sl_t, sl_s, x_mdic, wk_l, wk_t, wk_s, wk_r1, wk_r2, wk_e, wk_zl, wk_zt, wk_vl, wk_vt, ok_none, bind_nm, wipe_cons, wipe_nil, wo_cst, wo_var, wo_glb, wo_neg, wo_bin, wo_ix, wo_bi, wo_call, wo_ite, isN_i, isN_s, isN_n, notN_i, notN_s, notN_n, max2_i, min2_i, pow1020, pow1019, List.map_cons, List.map_nil, List.cons_append, List.nil_append, List.append_nil, List.replicate_succ, List.replicate_zero, List.getElem?_cons_zero, List.getElem?_cons_succ, List.set_cons_zero, List.set_cons_succ, List.length_cons, List.length_nil, List.length_set, Option.some.injEq, W.d.injEq, W.m.injEq, D.int.injEq, D.bl.injEq, D.str.injEq, D.tup.injEq, D.lst.injEq, exists_eq_left', exists_eq_left, exists_eq, decide_eq_true_eq, and_true, true_and, if_true, if_false, Nat.reduceSub, Nat.reduceAdd, reduceCtorEq, false_and, exists_false, and_self, ite_true, ite_false, Bool.false_eq_true, Int.reduceLT, Int.reduceLE, Int.reduceNeg, Nat.reduceLeDiff, Int.toNat_zero, eq_self]
        refine ih (by omega) s5 fun v M6 hx d6 s6 => ?_
        simp only [W1_none, W1_some, Wl_none, Wl_some, Wd_none, Wd_some, Wb_none, Wb_some, W2_none, W2_nx, W2_rt, x_var, x_frz, x_cst, x_glb, x_evs0, x_evs1, x_ws0, x_ws1, x_tup, W1_fin, finQ_t, finQ_f, x_lst, x_bin, x_cat, x_ix, x_cmp, x_nt, x_neg, x_an, x_or, x_an0, x_or0, x_an1, x_or1, x_ite, x_call, x_bi, x_isi, x_nil, x_cons, x_asg, x_unp, x_ret, x_ex, x_ifs, x_fr, x_setix, x_app, x_mkl, deref_d, ex_if, add_ii, sub_ii, mul_ii, mod_ii, div_ii, add_ss, add_ll, add_tt, mul_si, ix_li, ix_ti, ix_si, eq_ii, ne_ii, eq_ss, ne_ss, lt_ii, le_ii, gt_ii, ge_ii, lt_ss, le_ss, gt_ss, ge_ss, int_i, int_b, ord_c, len_s, len_t, len_l, tuple_t, tuple_l, map1, map2, ret_d, setL_eq, take_set', nope, ex_and, at0, at1, at2, at3, at4, at5, at6, at7, at8, at9, ix30, ix31, ix32, pow1018, ret_new, x_join, x_comp, x_evc0, x_evc1, Wo_nop, x_slc, sl_l, sl_t, sl_s, x_mdic, wk_l, wk_t, wk_s, wk_r1, wk_r2, wk_e, wk_zl, wk_zt, wk_vl, wk_vt, ok_none, bind_nm, wipe_cons, wipe_nil, wo_cst, wo_var, wo_glb, wo_neg, wo_bin, wo_ix, wo_bi, wo_call, wo_ite, isN_i, isN_s, isN_n, notN_i, notN_s, notN_n, max2_i, min2_i, pow1020, pow1019, List.map_cons, List.map_nil, List.cons_append, List.nil_append, List.append_nil, List.replicate_succ, List.replicate_zero, List.getElem?_cons_zero, List.getElem?_cons_succ, List.set_cons_zero, List.set_cons_succ, List.length_cons, List.length_nil, List.length_set, Option.some.injEq, W.d.injEq, W.m.injEq, D.int.injEq, D.bl.injEq, D.str.injEq, D.tup.injEq, D.lst.injEq, exists_eq_left', exists_eq_left, exists_eq, decide_eq_true_eq, and_true, true_and, if_true, if_false, Nat.reduceSub, Nat.reduceAdd, reduceCtorEq, false_and, exists_false, and_self, ite_true, ite_false, Bool.false_eq_true, Int.reduceLT, Int.reduceLE, Int.reduceNeg, Nat.reduceLeDiff, Int.toNat_zero, eq_self]
        refine ⟨d4.trans (d5.trans d6), s6, by rw [List.length_append, List.length_cons, List.length_nil]; rw [List.length_cons] at hl; omega, vs ++ [(nm, v)], by simp [fD], fun z hz => ?_⟩
        rcases List.mem_append.mp hz with hz | hz
        · exact hv z hz
        · rw [List.mem_singleton.mp hz]; exact ⟨o5, hx⟩
      · rintro acc M4 ⟨d4, s4, hl, vs, rfl, hv⟩
        rw [List.length_map, List.length_nil] at hl
        refine ⟨by rw [List.length_map]; show _ ≤ 16777216; omega, ?_⟩
        refine do_object H.ob H.wt (by omega) (by omega) ?_
        simp only [W1_none, W1_some, Wl_none, Wl_some, Wd_none, Wd_some, Wb_none, Wb_some, W2_none, W2_nx, W2_rt, x_var, x_frz, x_cst, x_glb, x_evs0, x_evs1, x_ws0, x_ws1, x_tup, W1_fin, finQ_t, finQ_f, x_lst, x_bin, x_cat, x_ix, x_cmp, x_nt, x_neg, x_an, x_or, x_an0, x_or0, x_an1, x_or1, x_ite, x_call, x_bi, x_isi, x_nil, x_cons, x_asg, x_unp, x_ret, x_ex, x_ifs, x_fr, x_setix, x_app, x_mkl, deref_d, ex_if, add_ii, sub_ii, mul_ii, mod_ii, div_ii, add_ss, add_ll, add_tt, mul_si, ix_li, ix_ti, ix_si, eq_ii, ne_ii, eq_ss, ne_ss, lt_ii, le_ii, gt_ii, ge_ii, lt_ss, le_ss, gt_ss, ge_ss, int_i, int_b, ord_c, len_s, len_t, len_l, tuple_t, tuple_l, map1, map2, ret_d, setL_eq, take_set', nope, ex_and, at0, at1, at2, at3, at4, at5, at6, at7, at8, at9, ix30, ix31, ix32, pow1018, ret_new, x_join, x_comp, x_evc0, x_evc1, Wo_nop, x_slc, sl_l, sl_t, sl_s, x_mdic, wk_l, wk_t, wk_s, wk_r1, wk_r2, wk_e, wk_zl, wk_zt, wk_vl, wk_vt, ok_none, bind_nm, wipe_cons, wipe_nil, wo_cst, wo_var, wo_glb, wo_neg, wo_bin, wo_ix, wo_bi, wo_call, wo_ite, isN_i, isN_s, isN_n, notN_i, notN_s, notN_n, max2_i, min2_i, pow1020, pow1019, List.map_cons, List.map_nil, List.cons_append, List.nil_append, List.append_nil, List.replicate_succ, List.replicate_zero, List.getElem?_cons_zero, List.getElem?_cons_succ, List.set_cons_zero, List.set_cons_succ, List.length_cons, List.length_nil, List.length_set, Option.some.injEq, W.d.injEq, W.m.injEq, D.int.injEq, D.bl.injEq, D.str.injEq, D.tup.injEq, D.lst.injEq, exists_eq_left', exists_eq_left, exists_eq, decide_eq_true_eq, and_true, true_and, if_true, if_false, Nat.reduceSub, Nat.reduceAdd, reduceCtorEq, false_and, exists_false, and_self, ite_true, ite_false, Bool.false_eq_true, Int.reduceLT, Int.reduceLE, Int.reduceNeg, Nat.reduceLeDiff, Int.toNat_zero, eq_self, d4.take]
        obtain ⟨k1, k2, k3⟩ := withAll_ok (fs := []) (R := fun p => nameOk p.1 ∧ vOk (e + 1) p.2) hv (fun _ h => nomatch h) List.Pairwise.nil
        exact q _ M4 (vOk_obj (by simp at k3; omega) k2 k1) d4 s4
end
end Pv

namespace Pv
def d_parts_of : Fn := ⟨1, 2, [.ifs (.cmp .eq (.ix (.var 0) (.cst (.int 0))) (.cst (.str [108, 105, 115, 116]))) [.ret (.mkl false (.ix (.var 0) (.cst (.int 1))))] [], .ifs (.cmp .eq (.ix (.var 0) (.cst (.int 0))) (.cst (.str [111, 98, 106, 101, 99, 116]))) [.ret (.comp false [1] (.ix (.var 1) (.cst (.int 1))) (.nm 1) .seq [.ix (.var 0) (.cst (.int 1))] [])] [], .ret (.lst false [])]⟩
def d_size_of : Fn := ⟨1, 2, [.ret (.bin .add (.cst (.int 1)) (.bi .sum [.comp false [1] (.call "size_of" [.var 1]) (.nm 1) .seq [.call "parts_of" [.var 0]] []]))]⟩
def d_depth_of : Fn := ⟨1, 2, [.ret (.bin .add (.cst (.int 1)) (.bi .maxl [.bin .add (.lst false [.cst (.int 0)]) (.comp false [1] (.call "depth_of" [.var 1]) (.nm 1) .seq [.call "parts_of" [.var 0]] [])]))]⟩
def d_law_cell : Fn := ⟨2, 2, [.ifs (.cmp .lt (.var 1) (.bi .len [.var 0])) [.ret (.ix (.var 0) (.var 1))] [], .ret (.cst (.int 0))]⟩
def d_law_parts : Fn := ⟨1, 2, [.ifs (.cmp .eq (.ix (.var 0) (.cst (.int 0))) (.cst (.str [108, 105, 115, 116]))) [.ret (.mkl false (.ix (.var 0) (.cst (.int 1))))] [], .ifs (.cmp .eq (.ix (.var 0) (.cst (.int 0))) (.cst (.str [111, 98, 106, 101, 99, 116]))) [.ret (.comp false [1] (.ix (.var 1) (.cst (.int 1))) (.nm 1) .seq [.ix (.var 0) (.cst (.int 1))] [])] [], .ret (.lst false [])]⟩
def d_law_is_integer : Fn := ⟨1, 1, [.ret (.an [.isi (.var 0) "int", .nt (.isi (.var 0) "bool")])]⟩
def d_law_k02 : Fn := ⟨1, 10, [.asg 1 (.call "_law_value" [.call "_law_source" [.call "_law_cell" [.var 0, .cst (.int 0)]], .cst (.int 4)]), .ifs (.cmp .eq (.bin .mod (.call "_law_cell" [.var 0, .cst (.int 1)]) (.cst (.int 4))) (.cst (.int 1))) [.fr (.nm 2) .rng1 [.bin .mod (.bin .fdiv (.call "_law_cell" [.var 0, .cst (.int 1)]) (.cst (.int 4))) (.cst (.int 36))] [.asg 1 (.ix (.lst false [.tup [.cst (.str [108, 105, 115, 116]), .tup [.var 1]], .tup [.cst (.str [111, 98, 106, 101, 99, 116]), .tup [.tup [.cst (.str [97]), .var 1]]]]) (.bin .mod (.bin .fdiv (.call "_law_cell" [.var 0, .cst (.int 2)]) (.bin .add (.var 2) (.cst (.int 1)))) (.cst (.int 2))))]] [], .ifs (.cmp .eq (.bin .mod (.call "_law_cell" [.var 0, .cst (.int 1)]) (.cst (.int 4))) (.cst (.int 2))) [.asg 3 (.comp false [2] (.call "_law_leaf" [.call "_law_source" [.bin .add (.call "_law_cell" [.var 0, .cst (.int 3)]) (.var 2)]]) (.nm 2) .rng1 [.bin .mod (.bin .fdiv (.call "_law_cell" [.var 0, .cst (.int 1)]) (.cst (.int 4))) (.cst (.int 201))] []), .asg 1 (.tup [.cst (.str [108, 105, 115, 116]), .bin .add (.tup [.var 1]) (.bi .tuple [.var 3])])] [], .asg 4 (.cst (.int 0)), .asg 5 (.cst (.int 0)), .asg 6 (.lst false [.var 1]), .whl (.cmp .gt (.bi .len [.var 6]) (.cst (.int 0))) [.asg 4 (.bin .add (.var 4) (.bi .len [.var 6])), .asg 5 (.bin .add (.var 5) (.cst (.int 1))), .asg 7 (.lst false []), .fr (.nm 8) .seq [.var 6] [.asg 7 (.bin .add (.var 7) (.call "_law_parts" [.var 8]))], .asg 6 (.var 7)], .asg 9 (.call "size_of" [.var 1]), .ifs (.orr [.nt (.call "_law_is_integer" [.var 9]), .cmp .ne (.var 9) (.var 4)]) [.ret (.cst (.bl false))] [], .asg 9 (.call "depth_of" [.var 1]), .ret (.an [.call "_law_is_integer" [.var 9], .cmp .eq (.var 9) (.var 5)])]⟩
def tbl : List (String × Fn) := [("parts_of", d_parts_of), ("size_of", d_size_of), ("depth_of", d_depth_of), ("_law_parts", d_law_parts), ("_law_with", d_law_with), ("_law_is_integer", d_law_is_integer), ("_law_cell", d_law_cell), ("_law_source", d_law_source), ("_law_draw", d_law_draw), ("_law_char", d_law_char), ("_law_name", d_law_name), ("_law_number", d_law_number), ("_law_leaf", d_law_leaf), ("_law_object", d_law_object), ("_law_value", d_law_value), ("law", d_law_k02)]
def gtbl : List (String × D) := []
def prg : Prog := mkP tbl gtbl
theorem fn_parts_of : prg.fn "parts_of" = some d_parts_of := rfl
theorem fn_size_of : prg.fn "size_of" = some d_size_of := rfl
theorem fn_depth_of : prg.fn "depth_of" = some d_depth_of := rfl
theorem fn__law_parts : prg.fn "_law_parts" = some d_law_parts := rfl
theorem fn__law_with : prg.fn "_law_with" = some d_law_with := rfl
theorem fn__law_is_integer : prg.fn "_law_is_integer" = some d_law_is_integer := rfl
theorem fn__law_cell : prg.fn "_law_cell" = some d_law_cell := rfl
theorem fn__law_source : prg.fn "_law_source" = some d_law_source := rfl
theorem fn__law_draw : prg.fn "_law_draw" = some d_law_draw := rfl
theorem fn__law_char : prg.fn "_law_char" = some d_law_char := rfl
theorem fn__law_name : prg.fn "_law_name" = some d_law_name := rfl
theorem fn__law_number : prg.fn "_law_number" = some d_law_number := rfl
theorem fn__law_leaf : prg.fn "_law_leaf" = some d_law_leaf := rfl
theorem fn__law_object : prg.fn "_law_object" = some d_law_object := rfl
theorem fn__law_value : prg.fn "_law_value" = some d_law_value := rfl
theorem fn_law : prg.fn "law" = some d_law_k02 := rfl
theorem dInts_map {α : Type} (f : α → Int) : ∀ xs : List α, dInts (xs.map fun x => D.int (f x)) = some (xs.map f)
  | [] => rfl
  | x :: r => by
    show (dInts (r.map fun x => D.int (f x))).map _ = _
    rw [dInts_map f r]
    rfl
theorem sum_sizes : ∀ xs : List Vl, (xs.map fun x => (vsize x : Int)).sum = (vsizes xs : Int)
  | [] => by simp [vsizes]
  | x :: r => by
    rw [List.map_cons, List.sum_cons, sum_sizes r]
    simp only [vsizes]
    omega
theorem max_deps : ∀ (xs : List Vl) (a : Nat), maxI (a : Int) (xs.map fun x => (vdep x : Int)) = (max a (vdeps xs) : Nat)
  | [], a => by simp [maxI, vdeps]
  | x :: r, a => by
    rw [List.map_cons]
    unfold maxI
    have e : (if (vdep x : Int) > a then (vdep x : Int) else a) = ((max a (vdep x) : Nat) : Int) := by split <;> omega
    rw [e, max_deps r]
    simp only [vdeps]
    rw [Nat.max_assoc]
theorem filterT {α : Type} {xs : List α} : xs.filter (fun _ => true) = xs := List.filter_eq_self.2 fun _ _ => rfl
theorem vsize_mem {x : Vl} : ∀ {xs : List Vl}, x ∈ xs → vsize x ≤ vsizes xs
  | y :: ys, h => by
    simp only [vsizes]
    rcases List.mem_cons.mp h with rfl | h
    · omega
    · have := vsize_mem h; omega
section
variable {n : Nat} {M : Sto} {Q : W → Sto → Prop}
theorem run_parts {f : String} (hf : prg.fn f = some d_parts_of) (hn : 1 ≤ n) {v : Vl} (hs : vsize v ≤ 1000000) (q : Q (.d (.lst ((vparts v).map toD))) M) : W1 (callF prg n f [.d (toD v)] M) Q := by
  refine x_run (by omega) hf rfl ?_
  have hp : (vparts v).length ≤ 1000000 := by
    have := len_vsizes (vparts v)
    rw [vsize_eq] at hs
    omega
  cases v with
  | null => simp only [W1_none, W1_some, Wl_none, Wl_some, Wd_none, Wd_some, Wb_none, Wb_some, W2_none, W2_nx, W2_rt, x_var, x_frz, x_cst, x_glb, x_evs0, x_evs1, x_ws0, x_ws1, x_tup, W1_fin, finQ_t, finQ_f, x_lst, x_bin, x_cat, x_ix, x_cmp, x_nt, x_neg, x_an, x_or, x_an0, x_or0, x_an1, x_or1, x_ite, x_call, x_bi, x_isi, x_nil, x_cons, x_asg, x_unp, x_ret, x_ex, x_ifs, x_fr, x_setix, x_app, x_mkl, deref_d, ex_if, add_ii, sub_ii, mul_ii, mod_ii, div_ii, add_ss, add_ll, add_tt, mul_si, ix_li, ix_ti, ix_si, eq_ii, ne_ii, eq_ss, ne_ss, lt_ii, le_ii, gt_ii, ge_ii, lt_ss, le_ss, gt_ss, ge_ss, int_i, int_b, ord_c, len_s, len_t, len_l, tuple_t, tuple_l, map1, map2, ret_d, setL_eq, take_set', nope, ex_and, at0, at1, at2, at3, at4, at5, at6, at7, at8, at9, ix30, ix31, ix32, pow1018, ret_new, x_join, x_comp, x_evc0, x_evc1, Wo_nop, x_slc, sl_l, sl_t, sl_s, x_mdic, wk_l, wk_t, wk_s, wk_r1, wk_r2, wk_e, wk_zl, wk_zt, wk_vl, wk_vt, ok_none, bind_nm, wipe_cons, wipe_nil, wo_cst, wo_var, wo_glb, wo_neg, wo_bin, wo_ix, wo_bi, wo_call, wo_ite, isN_i, isN_s, isN_n, notN_i, notN_s, notN_n, max2_i, min2_i, pow1020, pow1019, List.map_cons, List.map_nil, List.cons_append, List.nil_append, List.append_nil, List.replicate_succ, List.replicate_zero, List.getElem?_cons_zero, List.getElem?_cons_succ, List.set_cons_zero, List.set_cons_succ, List.length_cons, List.length_nil, List.length_set, Option.some.injEq, W.d.injEq, W.m.injEq, D.int.injEq, D.bl.injEq, D.str.injEq, D.tup.injEq, D.lst.injEq, exists_eq_left', exists_eq_left, exists_eq, decide_eq_true_eq, and_true, true_and, if_true, if_false, Nat.reduceSub, Nat.reduceAdd, reduceCtorEq, false_and, exists_false, and_self, ite_true, ite_false, Bool.false_eq_true, Int.reduceLT, Int.reduceLE, Int.reduceNeg, Nat.reduceLeDiff, Int.toNat_zero, eq_self, d_parts_of, toD_null]; rw [if_neg (by decide), if_neg (by decide), take_self]; exact q
  | bool b => simp only [W1_none, W1_some, Wl_none, Wl_some, Wd_none, Wd_some, Wb_none, Wb_some, W2_none, W2_nx, W2_rt, x_var, x_frz, x_cst, x_glb, x_evs0, x_evs1, x_ws0, x_ws1, x_tup, W1_fin, finQ_t, finQ_f, x_lst, x_bin, x_cat, x_ix, x_cmp, x_nt, x_neg, x_an, x_or, x_an0, x_or0, x_an1, x_or1, x_ite, x_call, x_bi, x_isi, x_nil, x_cons, x_asg, x_unp, x_ret, x_ex, x_ifs, x_fr, x_setix, x_app, x_mkl, deref_d, ex_if, add_ii, sub_ii, mul_ii, mod_ii, div_ii, add_ss, add_ll, add_tt, mul_si, ix_li, ix_ti, ix_si, eq_ii, ne_ii, eq_ss, ne_ss, lt_ii, le_ii, gt_ii, ge_ii, lt_ss, le_ss, gt_ss, ge_ss, int_i, int_b, ord_c, len_s, len_t, len_l, tuple_t, tuple_l, map1, map2, ret_d, setL_eq, take_set', nope, ex_and, at0, at1, at2, at3, at4, at5, at6, at7, at8, at9, ix30, ix31, ix32, pow1018, ret_new, x_join, x_comp, x_evc0, x_evc1, Wo_nop, x_slc, sl_l, sl_t, sl_s, x_mdic, wk_l, wk_t, wk_s, wk_r1, wk_r2, wk_e, wk_zl, wk_zt, wk_vl, wk_vt, ok_none, bind_nm, wipe_cons, wipe_nil, wo_cst, wo_var, wo_glb, wo_neg, wo_bin, wo_ix, wo_bi, wo_call, wo_ite, isN_i, isN_s, isN_n, notN_i, notN_s, notN_n, max2_i, min2_i, pow1020, pow1019, List.map_cons, List.map_nil, List.cons_append, List.nil_append, List.append_nil, List.replicate_succ, List.replicate_zero, List.getElem?_cons_zero, List.getElem?_cons_succ, List.set_cons_zero, List.set_cons_succ, List.length_cons, List.length_nil, List.length_set, Option.some.injEq, W.d.injEq, W.m.injEq, D.int.injEq, D.bl.injEq, D.str.injEq, D.tup.injEq, D.lst.injEq, exists_eq_left', exists_eq_left, exists_eq, decide_eq_true_eq, and_true, true_and, if_true, if_false, Nat.reduceSub, Nat.reduceAdd, reduceCtorEq, false_and, exists_false, and_self, ite_true, ite_false, Bool.false_eq_true, Int.reduceLT, Int.reduceLE, Int.reduceNeg, Nat.reduceLeDiff, Int.toNat_zero, eq_self, d_parts_of, toD_bool]; rw [if_neg (by decide), if_neg (by decide), take_self]; exact q
  | int b => simp only [W1_none, W1_some, Wl_none, Wl_some, Wd_none, Wd_some, Wb_none, Wb_some, W2_none, W2_nx, W2_rt, x_var, x_frz, x_cst, x_glb, x_evs0, x_evs1, x_ws0, x_ws1, x_tup, W1_fin, finQ_t, finQ_f, x_lst, x_bin, x_cat, x_ix, x_cmp, x_nt, x_neg, x_an, x_or, x_an0, x_or0, x_an1, x_or1, x_ite, x_call, x_bi, x_isi, x_nil, x_cons, x_asg, x_unp, x_ret, x_ex, x_ifs, x_fr, x_setix, x_app, x_mkl, deref_d, ex_if, add_ii, sub_ii, mul_ii, mod_ii, div_ii, add_ss, add_ll, add_tt, mul_si, ix_li, ix_ti, ix_si, eq_ii, ne_ii, eq_ss, ne_ss, lt_ii, le_ii, gt_ii, ge_ii, lt_ss, le_ss, gt_ss, ge_ss, int_i, int_b, ord_c, len_s, len_t, len_l, tuple_t, tuple_l, map1, map2, ret_d, setL_eq, take_set', nope, ex_and, at0, at1, at2, at3, at4, at5, at6, at7, at8, at9, ix30, ix31, ix32, pow1018, ret_new, x_join, x_comp, x_evc0, x_evc1, Wo_nop, x_slc, sl_l, sl_t, sl_s, x_mdic, wk_l, wk_t, wk_s, wk_r1, wk_r2, wk_e, wk_zl, wk_zt, wk_vl, wk_vt, ok_none, bind_nm, wipe_cons, wipe_nil, wo_cst, wo_var, wo_glb, wo_neg, wo_bin, wo_ix, wo_bi, wo_call, wo_ite, isN_i, isN_s, isN_n, notN_i, notN_s, notN_n, max2_i, min2_i, pow1020, pow1019, List.map_cons, List.map_nil, List.cons_append, List.nil_append, List.append_nil, List.replicate_succ, List.replicate_zero, List.getElem?_cons_zero, List.getElem?_cons_succ, List.set_cons_zero, List.set_cons_succ, List.length_cons, List.length_nil, List.length_set, Option.some.injEq, W.d.injEq, W.m.injEq, D.int.injEq, D.bl.injEq, D.str.injEq, D.tup.injEq, D.lst.injEq, exists_eq_left', exists_eq_left, exists_eq, decide_eq_true_eq, and_true, true_and, if_true, if_false, Nat.reduceSub, Nat.reduceAdd, reduceCtorEq, false_and, exists_false, and_self, ite_true, ite_false, Bool.false_eq_true, Int.reduceLT, Int.reduceLE, Int.reduceNeg, Nat.reduceLeDiff, Int.toNat_zero, eq_self, d_parts_of, toD_int]; rw [if_neg (by decide), if_neg (by decide), take_self]; exact q
  | text b => simp only [W1_none, W1_some, Wl_none, Wl_some, Wd_none, Wd_some, Wb_none, Wb_some, W2_none, W2_nx, W2_rt, x_var, x_frz, x_cst, x_glb, x_evs0, x_evs1, x_ws0, x_ws1, x_tup, W1_fin, finQ_t, finQ_f, x_lst, x_bin, x_cat, x_ix, x_cmp, x_nt, x_neg, x_an, x_or, x_an0, x_or0, x_an1, x_or1, x_ite, x_call, x_bi, x_isi, x_nil, x_cons, x_asg, x_unp, x_ret, x_ex, x_ifs, x_fr, x_setix, x_app, x_mkl, deref_d, ex_if, add_ii, sub_ii, mul_ii, mod_ii, div_ii, add_ss, add_ll, add_tt, mul_si, ix_li, ix_ti, ix_si, eq_ii, ne_ii, eq_ss, ne_ss, lt_ii, le_ii, gt_ii, ge_ii, lt_ss, le_ss, gt_ss, ge_ss, int_i, int_b, ord_c, len_s, len_t, len_l, tuple_t, tuple_l, map1, map2, ret_d, setL_eq, take_set', nope, ex_and, at0, at1, at2, at3, at4, at5, at6, at7, at8, at9, ix30, ix31, ix32, pow1018, ret_new, x_join, x_comp, x_evc0, x_evc1, Wo_nop, x_slc, sl_l, sl_t, sl_s, x_mdic, wk_l, wk_t, wk_s, wk_r1, wk_r2, wk_e, wk_zl, wk_zt, wk_vl, wk_vt, ok_none, bind_nm, wipe_cons, wipe_nil, wo_cst, wo_var, wo_glb, wo_neg, wo_bin, wo_ix, wo_bi, wo_call, wo_ite, isN_i, isN_s, isN_n, notN_i, notN_s, notN_n, max2_i, min2_i, pow1020, pow1019, List.map_cons, List.map_nil, List.cons_append, List.nil_append, List.append_nil, List.replicate_succ, List.replicate_zero, List.getElem?_cons_zero, List.getElem?_cons_succ, List.set_cons_zero, List.set_cons_succ, List.length_cons, List.length_nil, List.length_set, Option.some.injEq, W.d.injEq, W.m.injEq, D.int.injEq, D.bl.injEq, D.str.injEq, D.tup.injEq, D.lst.injEq, exists_eq_left', exists_eq_left, exists_eq, decide_eq_true_eq, and_true, true_and, if_true, if_false, Nat.reduceSub, Nat.reduceAdd, reduceCtorEq, false_and, exists_false, and_self, ite_true, ite_false, Bool.false_eq_true, Int.reduceLT, Int.reduceLE, Int.reduceNeg, Nat.reduceLeDiff, Int.toNat_zero, eq_self, d_parts_of, toD_text]; rw [if_neg (by decide), if_neg (by decide), take_self]; exact q
  | lst xs => simp only [W1_none, W1_some, Wl_none, Wl_some, Wd_none, Wd_some, Wb_none, Wb_some, W2_none, W2_nx, W2_rt, x_var, x_frz, x_cst, x_glb, x_evs0, x_evs1, x_ws0, x_ws1, x_tup, W1_fin, finQ_t, finQ_f, x_lst, x_bin, x_cat, x_ix, x_cmp, x_nt, x_neg, x_an, x_or, x_an0, x_or0, x_an1, x_or1, x_ite, x_call, x_bi, x_isi, x_nil, x_cons, x_asg, x_unp, x_ret, x_ex, x_ifs, x_fr, x_setix, x_app, x_mkl, deref_d, ex_if, add_ii, sub_ii, mul_ii, mod_ii, div_ii, add_ss, add_ll, add_tt, mul_si, ix_li, ix_ti, ix_si, eq_ii, ne_ii, eq_ss, ne_ss, lt_ii, le_ii, gt_ii, ge_ii, lt_ss, le_ss, gt_ss, ge_ss, int_i, int_b, ord_c, len_s, len_t, len_l, tuple_t, tuple_l, map1, map2, ret_d, setL_eq, take_set', nope, ex_and, at0, at1, at2, at3, at4, at5, at6, at7, at8, at9, ix30, ix31, ix32, pow1018, ret_new, x_join, x_comp, x_evc0, x_evc1, Wo_nop, x_slc, sl_l, sl_t, sl_s, x_mdic, wk_l, wk_t, wk_s, wk_r1, wk_r2, wk_e, wk_zl, wk_zt, wk_vl, wk_vt, ok_none, bind_nm, wipe_cons, wipe_nil, wo_cst, wo_var, wo_glb, wo_neg, wo_bin, wo_ix, wo_bi, wo_call, wo_ite, isN_i, isN_s, isN_n, notN_i, notN_s, notN_n, max2_i, min2_i, pow1020, pow1019, List.map_cons, List.map_nil, List.cons_append, List.nil_append, List.append_nil, List.replicate_succ, List.replicate_zero, List.getElem?_cons_zero, List.getElem?_cons_succ, List.set_cons_zero, List.set_cons_succ, List.length_cons, List.length_nil, List.length_set, Option.some.injEq, W.d.injEq, W.m.injEq, D.int.injEq, D.bl.injEq, D.str.injEq, D.tup.injEq, D.lst.injEq, exists_eq_left', exists_eq_left, exists_eq, decide_eq_true_eq, and_true, true_and, if_true, if_false, Nat.reduceSub, Nat.reduceAdd, reduceCtorEq, false_and, exists_false, and_self, ite_true, ite_false, Bool.false_eq_true, Int.reduceLT, Int.reduceLE, Int.reduceNeg, Nat.reduceLeDiff, Int.toNat_zero, eq_self, d_parts_of, toD_lst, seqOf]; rw [take_self]; exact q
  | obj fs =>
    simp only [W1_none, W1_some, Wl_none, Wl_some, Wd_none, Wd_some, Wb_none, Wb_some, W2_none, W2_nx, W2_rt, x_var, x_frz, x_cst, x_glb, x_evs0, x_evs1, x_ws0, x_ws1, x_tup, W1_fin, finQ_t, finQ_f, x_lst, x_bin, x_cat, x_ix, x_cmp, x_nt, x_neg, x_an, x_or, x_an0, x_or0, x_an1, x_or1, x_ite, x_call, x_bi, x_isi, x_nil, x_cons, x_asg, x_unp, x_ret, x_ex, x_ifs, x_fr, x_setix, x_app, x_mkl, deref_d, ex_if, add_ii, sub_ii, mul_ii, mod_ii, div_ii, add_ss, add_ll, add_tt, mul_si, ix_li, ix_ti, ix_si, eq_ii, ne_ii, eq_ss, ne_ss, lt_ii, le_ii, gt_ii, ge_ii, lt_ss, le_ss, gt_ss, ge_ss, int_i, int_b, ord_c, len_s, len_t, len_l, tuple_t, tuple_l, map1, map2, ret_d, setL_eq, take_set', nope, ex_and, at0, at1, at2, at3, at4, at5, at6, at7, at8, at9, ix30, ix31, ix32, pow1018, ret_new, x_join, x_comp, x_evc0, x_evc1, Wo_nop, x_slc, sl_l, sl_t, sl_s, x_mdic, wk_l, wk_t, wk_s, wk_r1, wk_r2, wk_e, wk_zl, wk_zt, wk_vl, wk_vt, ok_none, bind_nm, wipe_cons, wipe_nil, wo_cst, wo_var, wo_glb, wo_neg, wo_bin, wo_ix, wo_bi, wo_call, wo_ite, isN_i, isN_s, isN_n, notN_i, notN_s, notN_n, max2_i, min2_i, pow1020, pow1019, List.map_cons, List.map_nil, List.cons_append, List.nil_append, List.append_nil, List.replicate_succ, List.replicate_zero, List.getElem?_cons_zero, List.getElem?_cons_succ, List.set_cons_zero, List.set_cons_succ, List.length_cons, List.length_nil, List.length_set, Option.some.injEq, W.d.injEq, W.m.injEq, D.int.injEq, D.bl.injEq, D.str.injEq, D.tup.injEq, D.lst.injEq, exists_eq_left', exists_eq_left, exists_eq, decide_eq_true_eq, and_true, true_and, if_true, if_false, Nat.reduceSub, Nat.reduceAdd, reduceCtorEq, false_and, exists_false, and_self, ite_true, ite_false, Bool.false_eq_true, Int.reduceLT, Int.reduceLE, Int.reduceNeg, Nat.reduceLeDiff, Int.toNat_zero, eq_self, d_parts_of, toD_obj]
    rw [if_neg (by decide)]
    refine wd_pure (fun _ => true) (fun p => toD p.2) (show Walk.ok ⟨fs.map fD, none⟩ M from True.intro) fs (fun x hx => ⟨_, rfl, ?_, fun _ => ?_⟩) ?_
    · simp only [W1_none, W1_some, Wl_none, Wl_some, Wd_none, Wd_some, Wb_none, Wb_some, W2_none, W2_nx, W2_rt, x_var, x_frz, x_cst, x_glb, x_evs0, x_evs1, x_ws0, x_ws1, x_tup, W1_fin, finQ_t, finQ_f, x_lst, x_bin, x_cat, x_ix, x_cmp, x_nt, x_neg, x_an, x_or, x_an0, x_or0, x_an1, x_or1, x_ite, x_call, x_bi, x_isi, x_nil, x_cons, x_asg, x_unp, x_ret, x_ex, x_ifs, x_fr, x_setix, x_app, x_mkl, deref_d, ex_if, add_ii, sub_ii, mul_ii, mod_ii, div_ii, add_ss, add_ll, add_tt, mul_si, ix_li, ix_ti, ix_si, eq_ii, ne_ii, eq_ss, ne_ss, lt_ii, le_ii, gt_ii, ge_ii, lt_ss, le_ss, gt_ss, ge_ss, int_i, int_b, ord_c, len_s, len_t, len_l, tuple_t, tuple_l, map1, map2, ret_d, setL_eq, take_set', nope, ex_and, at0, at1, at2, at3, at4, at5, at6, at7, at8, at9, ix30, ix31, ix32, pow1018, ret_new, x_join, x_comp, x_evc0, x_evc1, Wo_nop, x_slc, sl_l, sl_t, sl_s, x_mdic, wk_l, wk_t, wk_s, wk_r1, wk_r2, wk_e, wk_zl, wk_zt, wk_vl, wk_vt, ok_none, bind_nm, wipe_cons, wipe_nil, wo_cst, wo_var, wo_glb, wo_neg, wo_bin, wo_ix, wo_bi, wo_call, wo_ite, isN_i, isN_s, isN_n, notN_i, notN_s, notN_n, max2_i, min2_i, pow1020, pow1019, List.map_cons, List.map_nil, List.cons_append, List.nil_append, List.append_nil, List.replicate_succ, List.replicate_zero, List.getElem?_cons_zero, List.getElem?_cons_succ, List.set_cons_zero, List.set_cons_succ, List.length_cons, List.length_nil, List.length_set, Option.some.injEq, W.d.injEq, W.m.injEq, D.int.injEq, D.bl.injEq, D.str.injEq, D.tup.injEq, D.lst.injEq, exists_eq_left', exists_eq_left, exists_eq, decide_eq_true_eq, and_true, true_and, if_true, if_false, Nat.reduceSub, Nat.reduceAdd, reduceCtorEq, false_and, exists_false, and_self, ite_true, ite_false, Bool.false_eq_true, Int.reduceLT, Int.reduceLE, Int.reduceNeg, Nat.reduceLeDiff, Int.toNat_zero, eq_self]
    · simp only [W1_none, W1_some, Wl_none, Wl_some, Wd_none, Wd_some, Wb_none, Wb_some, W2_none, W2_nx, W2_rt, x_var, x_frz, x_cst, x_glb, x_evs0, x_evs1, x_ws0, x_ws1, x_tup, W1_fin, finQ_t, finQ_f, x_lst, x_bin, x_cat, x_ix, x_cmp, x_nt, x_neg, x_an, x_or, x_an0, x_or0, x_an1, x_or1, x_ite, x_call, x_bi, x_isi, x_nil, x_cons, x_asg, x_unp, x_ret, x_ex, x_ifs, x_fr, x_setix, x_app, x_mkl, deref_d, ex_if, add_ii, sub_ii, mul_ii, mod_ii, div_ii, add_ss, add_ll, add_tt, mul_si, ix_li, ix_ti, ix_si, eq_ii, ne_ii, eq_ss, ne_ss, lt_ii, le_ii, gt_ii, ge_ii, lt_ss, le_ss, gt_ss, ge_ss, int_i, int_b, ord_c, len_s, len_t, len_l, tuple_t, tuple_l, map1, map2, ret_d, setL_eq, take_set', nope, ex_and, at0, at1, at2, at3, at4, at5, at6, at7, at8, at9, ix30, ix31, ix32, pow1018, ret_new, x_join, x_comp, x_evc0, x_evc1, Wo_nop, x_slc, sl_l, sl_t, sl_s, x_mdic, wk_l, wk_t, wk_s, wk_r1, wk_r2, wk_e, wk_zl, wk_zt, wk_vl, wk_vt, ok_none, bind_nm, wipe_cons, wipe_nil, wo_cst, wo_var, wo_glb, wo_neg, wo_bin, wo_ix, wo_bi, wo_call, wo_ite, isN_i, isN_s, isN_n, notN_i, notN_s, notN_n, max2_i, min2_i, pow1020, pow1019, List.map_cons, List.map_nil, List.cons_append, List.nil_append, List.append_nil, List.replicate_succ, List.replicate_zero, List.getElem?_cons_zero, List.getElem?_cons_succ, List.set_cons_zero, List.set_cons_succ, List.length_cons, List.length_nil, List.length_set, Option.some.injEq, W.d.injEq, W.m.injEq, D.int.injEq, D.bl.injEq, D.str.injEq, D.tup.injEq, D.lst.injEq, exists_eq_left', exists_eq_left, exists_eq, decide_eq_true_eq, and_true, true_and, if_true, if_false, Nat.reduceSub, Nat.reduceAdd, reduceCtorEq, false_and, exists_false, and_self, ite_true, ite_false, Bool.false_eq_true, Int.reduceLT, Int.reduceLE, Int.reduceNeg, Nat.reduceLeDiff, Int.toNat_zero, eq_self, fD]
    · rw [filterT, take_self, List.length_map]
      have hl : fs.length ≤ 1000000 := by simpa [vparts] using hp
      refine ⟨by show _ ≤ 16777216; omega, ?_⟩
      have e : (vparts (.obj fs)).map toD = fs.map fun p => toD p.2 := by simp [vparts]
      rw [e] at q
      exact q
theorem run_size : ∀ (d : Nat) {n : Nat} {M : Sto} {Q : W → Sto → Prop} {v : Vl}, vdep v ≤ d → d + 2 ≤ n → vsize v ≤ 1000000 → Q (.d (.int (vsize v))) M → W1 (callF prg n "size_of" [.d (toD v)] M) Q := by
  intro d
  induction d with
  | zero => intro n M Q v hd; rw [vdep_eq] at hd; omega
  | succ d ih =>
    intro n M Q v hd hn hs q
    refine x_run (by omega) fn_size_of rfl ?_
    simp only [W1_none, W1_some, Wl_none, Wl_some, Wd_none, Wd_some, Wb_none, Wb_some, W2_none, W2_nx, W2_rt, x_var, x_frz, x_cst, x_glb, x_evs0, x_evs1, x_ws0, x_ws1, x_tup, W1_fin, finQ_t, finQ_f, x_lst, x_bin, x_cat, x_ix, x_cmp, x_nt, x_neg, x_an, x_or, x_an0, x_or0, x_an1, x_or1, x_ite, x_call, x_bi, x_isi, x_nil, x_cons, x_asg, x_unp, x_ret, x_ex, x_ifs, x_fr, x_setix, x_app, x_mkl, deref_d, ex_if, add_ii, sub_ii, mul_ii, mod_ii, div_ii, add_ss, add_ll, add_tt, mul_si, ix_li, ix_ti, ix_si, eq_ii, ne_ii, eq_ss, ne_ss, lt_ii, le_ii, gt_ii, ge_ii, lt_ss, le_ss, gt_ss, ge_ss, int_i, int_b, ord_c, len_s, len_t, len_l, tuple_t, tuple_l, map1, map2, ret_d, setL_eq, take_set', nope, ex_and, at0, at1, at2, at3, at4, at5, at6, at7, at8, at9, ix30, ix31, ix32, pow1018, ret_new, x_join, x_comp, x_evc0, x_evc1, Wo_nop, x_slc, sl_l, sl_t, sl_s, x_mdic, wk_l, wk_t, wk_s, wk_r1, wk_r2, wk_e, wk_zl, wk_zt, wk_vl, wk_vt, ok_none, bind_nm, wipe_cons, wipe_nil, wo_cst, wo_var, wo_glb, wo_neg, wo_bin, wo_ix, wo_bi, wo_call, wo_ite, isN_i, isN_s, isN_n, notN_i, notN_s, notN_n, max2_i, min2_i, pow1020, pow1019, List.map_cons, List.map_nil, List.cons_append, List.nil_append, List.append_nil, List.replicate_succ, List.replicate_zero, List.getElem?_cons_zero, List.getElem?_cons_succ, List.set_cons_zero, List.set_cons_succ, List.length_cons, List.length_nil, List.length_set, Option.some.injEq, W.d.injEq, W.m.injEq, D.int.injEq, D.bl.injEq, D.str.injEq, D.tup.injEq, D.lst.injEq, exists_eq_left', exists_eq_left, exists_eq, decide_eq_true_eq, and_true, true_and, if_true, if_false, Nat.reduceSub, Nat.reduceAdd, reduceCtorEq, false_and, exists_false, and_self, ite_true, ite_false, Bool.false_eq_true, Int.reduceLT, Int.reduceLE, Int.reduceNeg, Nat.reduceLeDiff, Int.toNat_zero, eq_self, d_size_of]
    refine run_parts fn_parts_of (by omega) hs ?_
    have hs2 := hs
    rw [vsize_eq] at hs2
    rw [vdep_eq] at hd
    have hl := len_vsizes (vparts v)
    simp only [W1_none, W1_some, Wl_none, Wl_some, Wd_none, Wd_some, Wb_none, Wb_some, W2_none, W2_nx, W2_rt, x_var, x_frz, x_cst, x_glb, x_evs0, x_evs1, x_ws0, x_ws1, x_tup, W1_fin, finQ_t, finQ_f, x_lst, x_bin, x_cat, x_ix, x_cmp, x_nt, x_neg, x_an, x_or, x_an0, x_or0, x_an1, x_or1, x_ite, x_call, x_bi, x_isi, x_nil, x_cons, x_asg, x_unp, x_ret, x_ex, x_ifs, x_fr, x_setix, x_app, x_mkl, deref_d, ex_if, add_ii, sub_ii, mul_ii, mod_ii, div_ii, add_ss, add_ll, add_tt, mul_si, ix_li, ix_ti, ix_si, eq_ii, ne_ii, eq_ss, ne_ss, lt_ii, le_ii, gt_ii, ge_ii, lt_ss, le_ss, gt_ss, ge_ss, int_i, int_b, ord_c, len_s, len_t, len_l, tuple_t, tuple_l, map1, map2, ret_d, setL_eq, take_set', nope, ex_and, at0, at1, at2, at3, at4, at5, at6, at7, at8, at9, ix30, ix31, ix32, pow1018, ret_new, x_join, x_comp, x_evc0, x_evc1, Wo_nop, x_slc, sl_l, sl_t, sl_s, x_mdic, wk_l, wk_t, wk_s, wk_r1, wk_r2, wk_e, wk_zl, wk_zt, wk_vl, wk_vt, ok_none, bind_nm, wipe_cons, wipe_nil, wo_cst, wo_var, wo_glb, wo_neg, wo_bin, wo_ix, wo_bi, wo_call, wo_ite, isN_i, isN_s, isN_n, notN_i, notN_s, notN_n, max2_i, min2_i, pow1020, pow1019, List.map_cons, List.map_nil, List.cons_append, List.nil_append, List.append_nil, List.replicate_succ, List.replicate_zero, List.getElem?_cons_zero, List.getElem?_cons_succ, List.set_cons_zero, List.set_cons_succ, List.length_cons, List.length_nil, List.length_set, Option.some.injEq, W.d.injEq, W.m.injEq, D.int.injEq, D.bl.injEq, D.str.injEq, D.tup.injEq, D.lst.injEq, exists_eq_left', exists_eq_left, exists_eq, decide_eq_true_eq, and_true, true_and, if_true, if_false, Nat.reduceSub, Nat.reduceAdd, reduceCtorEq, false_and, exists_false, and_self, ite_true, ite_false, Bool.false_eq_true, Int.reduceLT, Int.reduceLE, Int.reduceNeg, Nat.reduceLeDiff, Int.toNat_zero, eq_self]
    refine wd_pure (fun _ => true) (fun x => D.int (vsize x)) (show Walk.ok ⟨(vparts v).map toD, none⟩ M from True.intro) _ (fun x hx => ⟨_, rfl, ?_, fun _ => ?_⟩) ?_
    · simp only [W1_none, W1_some, Wl_none, Wl_some, Wd_none, Wd_some, Wb_none, Wb_some, W2_none, W2_nx, W2_rt, x_var, x_frz, x_cst, x_glb, x_evs0, x_evs1, x_ws0, x_ws1, x_tup, W1_fin, finQ_t, finQ_f, x_lst, x_bin, x_cat, x_ix, x_cmp, x_nt, x_neg, x_an, x_or, x_an0, x_or0, x_an1, x_or1, x_ite, x_call, x_bi, x_isi, x_nil, x_cons, x_asg, x_unp, x_ret, x_ex, x_ifs, x_fr, x_setix, x_app, x_mkl, deref_d, ex_if, add_ii, sub_ii, mul_ii, mod_ii, div_ii, add_ss, add_ll, add_tt, mul_si, ix_li, ix_ti, ix_si, eq_ii, ne_ii, eq_ss, ne_ss, lt_ii, le_ii, gt_ii, ge_ii, lt_ss, le_ss, gt_ss, ge_ss, int_i, int_b, ord_c, len_s, len_t, len_l, tuple_t, tuple_l, map1, map2, ret_d, setL_eq, take_set', nope, ex_and, at0, at1, at2, at3, at4, at5, at6, at7, at8, at9, ix30, ix31, ix32, pow1018, ret_new, x_join, x_comp, x_evc0, x_evc1, Wo_nop, x_slc, sl_l, sl_t, sl_s, x_mdic, wk_l, wk_t, wk_s, wk_r1, wk_r2, wk_e, wk_zl, wk_zt, wk_vl, wk_vt, ok_none, bind_nm, wipe_cons, wipe_nil, wo_cst, wo_var, wo_glb, wo_neg, wo_bin, wo_ix, wo_bi, wo_call, wo_ite, isN_i, isN_s, isN_n, notN_i, notN_s, notN_n, max2_i, min2_i, pow1020, pow1019, List.map_cons, List.map_nil, List.cons_append, List.nil_append, List.append_nil, List.replicate_succ, List.replicate_zero, List.getElem?_cons_zero, List.getElem?_cons_succ, List.set_cons_zero, List.set_cons_succ, List.length_cons, List.length_nil, List.length_set, Option.some.injEq, W.d.injEq, W.m.injEq, D.int.injEq, D.bl.injEq, D.str.injEq, D.tup.injEq, D.lst.injEq, exists_eq_left', exists_eq_left, exists_eq, decide_eq_true_eq, and_true, true_and, if_true, if_false, Nat.reduceSub, Nat.reduceAdd, reduceCtorEq, false_and, exists_false, and_self, ite_true, ite_false, Bool.false_eq_true, Int.reduceLT, Int.reduceLE, Int.reduceNeg, Nat.reduceLeDiff, Int.toNat_zero, eq_self]
    · simp only [W1_none, W1_some, Wl_none, Wl_some, Wd_none, Wd_some, Wb_none, Wb_some, W2_none, W2_nx, W2_rt, x_var, x_frz, x_cst, x_glb, x_evs0, x_evs1, x_ws0, x_ws1, x_tup, W1_fin, finQ_t, finQ_f, x_lst, x_bin, x_cat, x_ix, x_cmp, x_nt, x_neg, x_an, x_or, x_an0, x_or0, x_an1, x_or1, x_ite, x_call, x_bi, x_isi, x_nil, x_cons, x_asg, x_unp, x_ret, x_ex, x_ifs, x_fr, x_setix, x_app, x_mkl, deref_d, ex_if, add_ii, sub_ii, mul_ii, mod_ii, div_ii, add_ss, add_ll, add_tt, mul_si, ix_li, ix_ti, ix_si, eq_ii, ne_ii, eq_ss, ne_ss, lt_ii, le_ii, gt_ii, ge_ii, lt_ss, le_ss, gt_ss, ge_ss, int_i, int_b, ord_c, len_s, len_t, len_l, tuple_t, tuple_l, map1, map2, ret_d, setL_eq, take_set', nope, ex_and, at0, at1, at2, at3, at4, at5, at6, at7, at8, at9, ix30, ix31, ix32, pow1018, ret_new, x_join, x_comp, x_evc0, x_evc1, Wo_nop, x_slc, sl_l, sl_t, sl_s, x_mdic, wk_l, wk_t, wk_s, wk_r1, wk_r2, wk_e, wk_zl, wk_zt, wk_vl, wk_vt, ok_none, bind_nm, wipe_cons, wipe_nil, wo_cst, wo_var, wo_glb, wo_neg, wo_bin, wo_ix, wo_bi, wo_call, wo_ite, isN_i, isN_s, isN_n, notN_i, notN_s, notN_n, max2_i, min2_i, pow1020, pow1019, List.map_cons, List.map_nil, List.cons_append, List.nil_append, List.append_nil, List.replicate_succ, List.replicate_zero, List.getElem?_cons_zero, List.getElem?_cons_succ, List.set_cons_zero, List.set_cons_succ, List.length_cons, List.length_nil, List.length_set, Option.some.injEq, W.d.injEq, W.m.injEq, D.int.injEq, D.bl.injEq, D.str.injEq, D.tup.injEq, D.lst.injEq, exists_eq_left', exists_eq_left, exists_eq, decide_eq_true_eq, and_true, true_and, if_true, if_false, Nat.reduceSub, Nat.reduceAdd, reduceCtorEq, false_and, exists_false, and_self, ite_true, ite_false, Bool.false_eq_true, Int.reduceLT, Int.reduceLE, Int.reduceNeg, Nat.reduceLeDiff, Int.toNat_zero, eq_self]
      have h1 := vdeps_mem hx
      have h2 : vsize x ≤ vsizes (vparts v) := by
        have : ∀ {xs : List Vl}, x ∈ xs → vsize x ≤ vsizes xs := by
          intro xs
          induction xs with
          | nil => intro h; cases h
          | cons y ys ih =>
            intro h
            simp only [vsizes]
            rcases List.mem_cons.mp h with rfl | h
            · omega
            · have := ih h; omega
        exact this hx
      exact ih (by omega) (by omega) (by omega) ⟨rfl, rfl⟩
    · rw [filterT, List.length_map]
      refine ⟨by show _ ≤ 16777216; omega, .int (vsizes (vparts v)), ?_, ?_⟩
      · show (dInts _).map _ = _
        rw [dInts_map, Option.map_some, sum_sizes]
      · rw [add_ii]
        simp only [W1_none, W1_some, Wl_none, Wl_some, Wd_none, Wd_some, Wb_none, Wb_some, W2_none, W2_nx, W2_rt, x_var, x_frz, x_cst, x_glb, x_evs0, x_evs1, x_ws0, x_ws1, x_tup, W1_fin, finQ_t, finQ_f, x_lst, x_bin, x_cat, x_ix, x_cmp, x_nt, x_neg, x_an, x_or, x_an0, x_or0, x_an1, x_or1, x_ite, x_call, x_bi, x_isi, x_nil, x_cons, x_asg, x_unp, x_ret, x_ex, x_ifs, x_fr, x_setix, x_app, x_mkl, deref_d, ex_if, add_ii, sub_ii, mul_ii, mod_ii, div_ii, add_ss, add_ll, add_tt, mul_si, ix_li, ix_ti, ix_si, eq_ii, ne_ii, eq_ss, ne_ss, lt_ii, le_ii, gt_ii, ge_ii, lt_ss, le_ss, gt_ss, ge_ss, int_i, int_b, ord_c, len_s, len_t, len_l, tuple_t, tuple_l, map1, map2, ret_d, setL_eq, take_set', nope, ex_and, at0, at1, at2, at3, at4, at5, at6, at7, at8, at9, ix30, ix31, ix32, pow1018, ret_new, x_join, x_comp, x_evc0, x_evc1, Wo_nop, x_slc, sl_l, sl_t, sl_s, x_mdic, wk_l, wk_t, wk_s, wk_r1, wk_r2, wk_e, wk_zl, wk_zt, wk_vl, wk_vt, ok_none, bind_nm, wipe_cons, wipe_nil, wo_cst, wo_var, wo_glb, wo_neg, wo_bin, wo_ix, wo_bi, wo_call, wo_ite, isN_i, isN_s, isN_n, notN_i, notN_s, notN_n, max2_i, min2_i, pow1020, pow1019, List.map_cons, List.map_nil, List.cons_append, List.nil_append, List.append_nil, List.replicate_succ, List.replicate_zero, List.getElem?_cons_zero, List.getElem?_cons_succ, List.set_cons_zero, List.set_cons_succ, List.length_cons, List.length_nil, List.length_set, Option.some.injEq, W.d.injEq, W.m.injEq, D.int.injEq, D.bl.injEq, D.str.injEq, D.tup.injEq, D.lst.injEq, exists_eq_left', exists_eq_left, exists_eq, decide_eq_true_eq, and_true, true_and, if_true, if_false, Nat.reduceSub, Nat.reduceAdd, reduceCtorEq, false_and, exists_false, and_self, ite_true, ite_false, Bool.false_eq_true, Int.reduceLT, Int.reduceLE, Int.reduceNeg, Nat.reduceLeDiff, Int.toNat_zero, eq_self]
        have e : (1 : Int) + (vsizes (vparts v) : Int) = (vsize v : Int) := by rw [vsize_eq]; omega
        rw [e, take_self]
        exact q
theorem run_depth : ∀ (d : Nat) {n : Nat} {M : Sto} {Q : W → Sto → Prop} {v : Vl}, vdep v ≤ d → d + 2 ≤ n → vsize v ≤ 1000000 → Q (.d (.int (vdep v))) M → W1 (callF prg n "depth_of" [.d (toD v)] M) Q := by
  intro d
  induction d with
  | zero => intro n M Q v hd; rw [vdep_eq] at hd; omega
  | succ d ih =>
    intro n M Q v hd hn hs q
    refine x_run (by omega) fn_depth_of rfl ?_
    simp only [W1_none, W1_some, Wl_none, Wl_some, Wd_none, Wd_some, Wb_none, Wb_some, W2_none, W2_nx, W2_rt, x_var, x_frz, x_cst, x_glb, x_evs0, x_evs1, x_ws0, x_ws1, x_tup, W1_fin, finQ_t, finQ_f, x_lst, x_bin, x_cat, x_ix, x_cmp, x_nt, x_neg, x_an, x_or, x_an0, x_or0, x_an1, x_or1, x_ite, x_call, x_bi, x_isi, x_nil, x_cons, x_asg, x_unp, x_ret, x_ex, x_ifs, x_fr, x_setix, x_app, x_mkl, deref_d, ex_if, add_ii, sub_ii, mul_ii, mod_ii, div_ii, add_ss, add_ll, add_tt, mul_si, ix_li, ix_ti, ix_si, eq_ii, ne_ii, eq_ss, ne_ss, lt_ii, le_ii, gt_ii, ge_ii, lt_ss, le_ss, gt_ss, ge_ss, int_i, int_b, ord_c, len_s, len_t, len_l, tuple_t, tuple_l, map1, map2, ret_d, setL_eq, take_set', nope, ex_and, at0, at1, at2, at3, at4, at5, at6, at7, at8, at9, ix30, ix31, ix32, pow1018, ret_new, x_join, x_comp, x_evc0, x_evc1, Wo_nop, x_slc, sl_l, sl_t, sl_s, x_mdic, wk_l, wk_t, wk_s, wk_r1, wk_r2, wk_e, wk_zl, wk_zt, wk_vl, wk_vt, ok_none, bind_nm, wipe_cons, wipe_nil, wo_cst, wo_var, wo_glb, wo_neg, wo_bin, wo_ix, wo_bi, wo_call, wo_ite, isN_i, isN_s, isN_n, notN_i, notN_s, notN_n, max2_i, min2_i, pow1020, pow1019, List.map_cons, List.map_nil, List.cons_append, List.nil_append, List.append_nil, List.replicate_succ, List.replicate_zero, List.getElem?_cons_zero, List.getElem?_cons_succ, List.set_cons_zero, List.set_cons_succ, List.length_cons, List.length_nil, List.length_set, Option.some.injEq, W.d.injEq, W.m.injEq, D.int.injEq, D.bl.injEq, D.str.injEq, D.tup.injEq, D.lst.injEq, exists_eq_left', exists_eq_left, exists_eq, decide_eq_true_eq, and_true, true_and, if_true, if_false, Nat.reduceSub, Nat.reduceAdd, reduceCtorEq, false_and, exists_false, and_self, ite_true, ite_false, Bool.false_eq_true, Int.reduceLT, Int.reduceLE, Int.reduceNeg, Nat.reduceLeDiff, Int.toNat_zero, eq_self, d_depth_of]
    refine run_parts fn_parts_of (by omega) hs ?_
    have hs2 := hs
    rw [vsize_eq] at hs2
    rw [vdep_eq] at hd
    have hl := len_vsizes (vparts v)
    simp only [W1_none, W1_some, Wl_none, Wl_some, Wd_none, Wd_some, Wb_none, Wb_some, W2_none, W2_nx, W2_rt, x_var, x_frz, x_cst, x_glb, x_evs0, x_evs1, x_ws0, x_ws1, x_tup, W1_fin, finQ_t, finQ_f, x_lst, x_bin, x_cat, x_ix, x_cmp, x_nt, x_neg, x_an, x_or, x_an0, x_or0, x_an1, x_or1, x_ite, x_call, x_bi, x_isi, x_nil, x_cons, x_asg, x_unp, x_ret, x_ex, x_ifs, x_fr, x_setix, x_app, x_mkl, deref_d, ex_if, add_ii, sub_ii, mul_ii, mod_ii, div_ii, add_ss, add_ll, add_tt, mul_si, ix_li, ix_ti, ix_si, eq_ii, ne_ii, eq_ss, ne_ss, lt_ii, le_ii, gt_ii, ge_ii, lt_ss, le_ss, gt_ss, ge_ss, int_i, int_b, ord_c, len_s, len_t, len_l, tuple_t, tuple_l, map1, map2, ret_d, setL_eq, take_set', nope, ex_and, at0, at1, at2, at3, at4, at5, at6, at7, at8, at9, ix30, ix31, ix32, pow1018, ret_new, x_join, x_comp, x_evc0, x_evc1, Wo_nop, x_slc, sl_l, sl_t, sl_s, x_mdic, wk_l, wk_t, wk_s, wk_r1, wk_r2, wk_e, wk_zl, wk_zt, wk_vl, wk_vt, ok_none, bind_nm, wipe_cons, wipe_nil, wo_cst, wo_var, wo_glb, wo_neg, wo_bin, wo_ix, wo_bi, wo_call, wo_ite, isN_i, isN_s, isN_n, notN_i, notN_s, notN_n, max2_i, min2_i, pow1020, pow1019, List.map_cons, List.map_nil, List.cons_append, List.nil_append, List.append_nil, List.replicate_succ, List.replicate_zero, List.getElem?_cons_zero, List.getElem?_cons_succ, List.set_cons_zero, List.set_cons_succ, List.length_cons, List.length_nil, List.length_set, Option.some.injEq, W.d.injEq, W.m.injEq, D.int.injEq, D.bl.injEq, D.str.injEq, D.tup.injEq, D.lst.injEq, exists_eq_left', exists_eq_left, exists_eq, decide_eq_true_eq, and_true, true_and, if_true, if_false, Nat.reduceSub, Nat.reduceAdd, reduceCtorEq, false_and, exists_false, and_self, ite_true, ite_false, Bool.false_eq_true, Int.reduceLT, Int.reduceLE, Int.reduceNeg, Nat.reduceLeDiff, Int.toNat_zero, eq_self]
    refine wd_pure (fun _ => true) (fun x => D.int (vdep x)) (show Walk.ok ⟨(vparts v).map toD, none⟩ M from True.intro) _ (fun x hx => ⟨_, rfl, ?_, fun _ => ?_⟩) ?_
    · simp only [W1_none, W1_some, Wl_none, Wl_some, Wd_none, Wd_some, Wb_none, Wb_some, W2_none, W2_nx, W2_rt, x_var, x_frz, x_cst, x_glb, x_evs0, x_evs1, x_ws0, x_ws1, x_tup, W1_fin, finQ_t, finQ_f, x_lst, x_bin, x_cat, x_ix, x_cmp, x_nt, x_neg, x_an, x_or, x_an0, x_or0, x_an1, x_or1, x_ite, x_call, x_bi, x_isi, x_nil, x_cons, x_asg, x_unp, x_ret, x_ex, x_ifs, x_fr, x_setix, x_app, x_mkl, deref_d, ex_if, add_ii, sub_ii, mul_ii, mod_ii, div_ii, add_ss, add_ll, add_tt, mul_si, ix_li, ix_ti, ix_si, eq_ii, ne_ii, eq_ss, ne_ss, lt_ii, le_ii, gt_ii, ge_ii, lt_ss, le_ss, gt_ss, ge_ss, int_i, int_b, ord_c, len_s, len_t, len_l, tuple_t, tuple_l, map1, map2, ret_d, setL_eq, take_set', nope, ex_and, at0, at1, at2, at3, at4, at5, at6, at7, at8, at9, ix30, ix31, ix32, pow1018, ret_new, x_join, x_comp, x_evc0, x_evc1, Wo_nop, x_slc, sl_l, sl_t, sl_s, x_mdic, wk_l, wk_t, wk_s, wk_r1, wk_r2, wk_e, wk_zl, wk_zt, wk_vl, wk_vt, ok_none, bind_nm, wipe_cons, wipe_nil, wo_cst, wo_var, wo_glb, wo_neg, wo_bin, wo_ix, wo_bi, wo_call, wo_ite, isN_i, isN_s, isN_n, notN_i, notN_s, notN_n, max2_i, min2_i, pow1020, pow1019, List.map_cons, List.map_nil, List.cons_append, List.nil_append, List.append_nil, List.replicate_succ, List.replicate_zero, List.getElem?_cons_zero, List.getElem?_cons_succ, List.set_cons_zero, List.set_cons_succ, List.length_cons, List.length_nil, List.length_set, Option.some.injEq, W.d.injEq, W.m.injEq, D.int.injEq, D.bl.injEq, D.str.injEq, D.tup.injEq, D.lst.injEq, exists_eq_left', exists_eq_left, exists_eq, decide_eq_true_eq, and_true, true_and, if_true, if_false, Nat.reduceSub, Nat.reduceAdd, reduceCtorEq, false_and, exists_false, and_self, ite_true, ite_false, Bool.false_eq_true, Int.reduceLT, Int.reduceLE, Int.reduceNeg, Nat.reduceLeDiff, Int.toNat_zero, eq_self]
    · simp only [W1_none, W1_some, Wl_none, Wl_some, Wd_none, Wd_some, Wb_none, Wb_some, W2_none, W2_nx, W2_rt, x_var, x_frz, x_cst, x_glb, x_evs0, x_evs1, x_ws0, x_ws1, x_tup, W1_fin, finQ_t, finQ_f, x_lst, x_bin, x_cat, x_ix, x_cmp, x_nt, x_neg, x_an, x_or, x_an0, x_or0, x_an1, x_or1, x_ite, x_call, x_bi, x_isi, x_nil, x_cons, x_asg, x_unp, x_ret, x_ex, x_ifs, x_fr, x_setix, x_app, x_mkl, deref_d, ex_if, add_ii, sub_ii, mul_ii, mod_ii, div_ii, add_ss, add_ll, add_tt, mul_si, ix_li, ix_ti, ix_si, eq_ii, ne_ii, eq_ss, ne_ss, lt_ii, le_ii, gt_ii, ge_ii, lt_ss, le_ss, gt_ss, ge_ss, int_i, int_b, ord_c, len_s, len_t, len_l, tuple_t, tuple_l, map1, map2, ret_d, setL_eq, take_set', nope, ex_and, at0, at1, at2, at3, at4, at5, at6, at7, at8, at9, ix30, ix31, ix32, pow1018, ret_new, x_join, x_comp, x_evc0, x_evc1, Wo_nop, x_slc, sl_l, sl_t, sl_s, x_mdic, wk_l, wk_t, wk_s, wk_r1, wk_r2, wk_e, wk_zl, wk_zt, wk_vl, wk_vt, ok_none, bind_nm, wipe_cons, wipe_nil, wo_cst, wo_var, wo_glb, wo_neg, wo_bin, wo_ix, wo_bi, wo_call, wo_ite, isN_i, isN_s, isN_n, notN_i, notN_s, notN_n, max2_i, min2_i, pow1020, pow1019, List.map_cons, List.map_nil, List.cons_append, List.nil_append, List.append_nil, List.replicate_succ, List.replicate_zero, List.getElem?_cons_zero, List.getElem?_cons_succ, List.set_cons_zero, List.set_cons_succ, List.length_cons, List.length_nil, List.length_set, Option.some.injEq, W.d.injEq, W.m.injEq, D.int.injEq, D.bl.injEq, D.str.injEq, D.tup.injEq, D.lst.injEq, exists_eq_left', exists_eq_left, exists_eq, decide_eq_true_eq, and_true, true_and, if_true, if_false, Nat.reduceSub, Nat.reduceAdd, reduceCtorEq, false_and, exists_false, and_self, ite_true, ite_false, Bool.false_eq_true, Int.reduceLT, Int.reduceLE, Int.reduceNeg, Nat.reduceLeDiff, Int.toNat_zero, eq_self]
      have h1 := vdeps_mem hx
      have h2 := vsize_mem hx
      exact ih (by omega) (by omega) (by omega) ⟨rfl, rfl⟩
    · rw [filterT, List.length_map]
      refine ⟨by show _ ≤ 16777216; omega, by show _ ≤ 16777216; omega, .int (vdeps (vparts v)), ?_, ?_⟩
      · show (match dInts (.int 0 :: _) with | some (a :: r) => some (D.int (maxI a r)) | _ => none) = _
        have : dInts (D.int 0 :: (vparts v).map fun x => D.int (vdep x)) = some (0 :: (vparts v).map fun x => (vdep x : Int)) := by
          show (dInts _).map _ = _
          rw [dInts_map]
          rfl
        rw [this]
        have := max_deps (vparts v) 0
        simp only
        rw [show (0 : Int) = ((0 : Nat) : Int) from rfl, this, Nat.zero_max]
      · rw [add_ii]
        simp only [W1_none, W1_some, Wl_none, Wl_some, Wd_none, Wd_some, Wb_none, Wb_some, W2_none, W2_nx, W2_rt, x_var, x_frz, x_cst, x_glb, x_evs0, x_evs1, x_ws0, x_ws1, x_tup, W1_fin, finQ_t, finQ_f, x_lst, x_bin, x_cat, x_ix, x_cmp, x_nt, x_neg, x_an, x_or, x_an0, x_or0, x_an1, x_or1, x_ite, x_call, x_bi, x_isi, x_nil, x_cons, x_asg, x_unp, x_ret, x_ex, x_ifs, x_fr, x_setix, x_app, x_mkl, deref_d, ex_if, add_ii, sub_ii, mul_ii, mod_ii, div_ii, add_ss, add_ll, add_tt, mul_si, ix_li, ix_ti, ix_si, eq_ii, ne_ii, eq_ss, ne_ss, lt_ii, le_ii, gt_ii, ge_ii, lt_ss, le_ss, gt_ss, ge_ss, int_i, int_b, ord_c, len_s, len_t, len_l, tuple_t, tuple_l, map1, map2, ret_d, setL_eq, take_set', nope, ex_and, at0, at1, at2, at3, at4, at5, at6, at7, at8, at9, ix30, ix31, ix32, pow1018, ret_new, x_join, x_comp, x_evc0, x_evc1, Wo_nop, x_slc, sl_l, sl_t, sl_s, x_mdic, wk_l, wk_t, wk_s, wk_r1, wk_r2, wk_e, wk_zl, wk_zt, wk_vl, wk_vt, ok_none, bind_nm, wipe_cons, wipe_nil, wo_cst, wo_var, wo_glb, wo_neg, wo_bin, wo_ix, wo_bi, wo_call, wo_ite, isN_i, isN_s, isN_n, notN_i, notN_s, notN_n, max2_i, min2_i, pow1020, pow1019, List.map_cons, List.map_nil, List.cons_append, List.nil_append, List.append_nil, List.replicate_succ, List.replicate_zero, List.getElem?_cons_zero, List.getElem?_cons_succ, List.set_cons_zero, List.set_cons_succ, List.length_cons, List.length_nil, List.length_set, Option.some.injEq, W.d.injEq, W.m.injEq, D.int.injEq, D.bl.injEq, D.str.injEq, D.tup.injEq, D.lst.injEq, exists_eq_left', exists_eq_left, exists_eq, decide_eq_true_eq, and_true, true_and, if_true, if_false, Nat.reduceSub, Nat.reduceAdd, reduceCtorEq, false_and, exists_false, and_self, ite_true, ite_false, Bool.false_eq_true, Int.reduceLT, Int.reduceLE, Int.reduceNeg, Nat.reduceLeDiff, Int.toNat_zero, eq_self]
        have e : (1 : Int) + (vdeps (vparts v) : Int) = (vdep v : Int) := by rw [vdep_eq]; omega
        rw [e, take_self]
        exact q
theorem do_isint (hn : 1 ≤ n) {i : Int} (q : Q (.d (.bl true)) M) : W1 (callF prg n "_law_is_integer" [.d (.int i)] M) Q := by
  refine x_run (by omega) fn__law_is_integer rfl ?_
  simp only [W1_none, W1_some, Wl_none, Wl_some, Wd_none, Wd_some, Wb_none, Wb_some, W2_none, W2_nx, W2_rt, x_var, x_frz, x_cst, x_glb, x_evs0, x_evs1, x_ws0, x_ws1, x_tup, W1_fin, finQ_t, finQ_f, x_lst, x_bin, x_cat, x_ix, x_cmp, x_nt, x_neg, x_an, x_or, x_an0, x_or0, x_an1, x_or1, x_ite, x_call, x_bi, x_isi, x_nil, x_cons, x_asg, x_unp, x_ret, x_ex, x_ifs, x_fr, x_setix, x_app, x_mkl, deref_d, ex_if, add_ii, sub_ii, mul_ii, mod_ii, div_ii, add_ss, add_ll, add_tt, mul_si, ix_li, ix_ti, ix_si, eq_ii, ne_ii, eq_ss, ne_ss, lt_ii, le_ii, gt_ii, ge_ii, lt_ss, le_ss, gt_ss, ge_ss, int_i, int_b, ord_c, len_s, len_t, len_l, tuple_t, tuple_l, map1, map2, ret_d, setL_eq, take_set', nope, ex_and, at0, at1, at2, at3, at4, at5, at6, at7, at8, at9, ix30, ix31, ix32, pow1018, ret_new, x_join, x_comp, x_evc0, x_evc1, Wo_nop, x_slc, sl_l, sl_t, sl_s, x_mdic, wk_l, wk_t, wk_s, wk_r1, wk_r2, wk_e, wk_zl, wk_zt, wk_vl, wk_vt, ok_none, bind_nm, wipe_cons, wipe_nil, wo_cst, wo_var, wo_glb, wo_neg, wo_bin, wo_ix, wo_bi, wo_call, wo_ite, isN_i, isN_s, isN_n, notN_i, notN_s, notN_n, max2_i, min2_i, pow1020, pow1019, List.map_cons, List.map_nil, List.cons_append, List.nil_append, List.append_nil, List.replicate_succ, List.replicate_zero, List.getElem?_cons_zero, List.getElem?_cons_succ, List.set_cons_zero, List.set_cons_succ, List.length_cons, List.length_nil, List.length_set, Option.some.injEq, W.d.injEq, W.m.injEq, D.int.injEq, D.bl.injEq, D.str.injEq, D.tup.injEq, D.lst.injEq, exists_eq_left', exists_eq_left, exists_eq, decide_eq_true_eq, and_true, true_and, if_true, if_false, Nat.reduceSub, Nat.reduceAdd, reduceCtorEq, false_and, exists_false, and_self, ite_true, ite_false, Bool.false_eq_true, Int.reduceLT, Int.reduceLE, Int.reduceNeg, Nat.reduceLeDiff, Int.toNat_zero, eq_self, d_law_is_integer, isiE, take_self]
  exact q
theorem do_cell (hn : 1 ≤ n) {ns : List Int} {k : Nat} {Q : W → Sto → Prop} (q : ∀ i : Int, Q (.d (.int i)) M) : W1 (callF prg n "_law_cell" [.d (.lst (ns.map .int)), .d (.int k)] M) Q := by
  refine x_run (by omega) fn__law_cell rfl ?_
  simp only [W1_none, W1_some, Wl_none, Wl_some, Wd_none, Wd_some, Wb_none, Wb_some, W2_none, W2_nx, W2_rt, x_var, x_frz, x_cst, x_glb, x_evs0, x_evs1, x_ws0, x_ws1, x_tup, W1_fin, finQ_t, finQ_f, x_lst, x_bin, x_cat, x_ix, x_cmp, x_nt, x_neg, x_an, x_or, x_an0, x_or0, x_an1, x_or1, x_ite, x_call, x_bi, x_isi, x_nil, x_cons, x_asg, x_unp, x_ret, x_ex, x_ifs, x_fr, x_setix, x_app, x_mkl, deref_d, ex_if, add_ii, sub_ii, mul_ii, mod_ii, div_ii, add_ss, add_ll, add_tt, mul_si, ix_li, ix_ti, ix_si, eq_ii, ne_ii, eq_ss, ne_ss, lt_ii, le_ii, gt_ii, ge_ii, lt_ss, le_ss, gt_ss, ge_ss, int_i, int_b, ord_c, len_s, len_t, len_l, tuple_t, tuple_l, map1, map2, ret_d, setL_eq, take_set', nope, ex_and, at0, at1, at2, at3, at4, at5, at6, at7, at8, at9, ix30, ix31, ix32, pow1018, ret_new, x_join, x_comp, x_evc0, x_evc1, Wo_nop, x_slc, sl_l, sl_t, sl_s, x_mdic, wk_l, wk_t, wk_s, wk_r1, wk_r2, wk_e, wk_zl, wk_zt, wk_vl, wk_vt, ok_none, bind_nm, wipe_cons, wipe_nil, wo_cst, wo_var, wo_glb, wo_neg, wo_bin, wo_ix, wo_bi, wo_call, wo_ite, isN_i, isN_s, isN_n, notN_i, notN_s, notN_n, max2_i, min2_i, pow1020, pow1019, List.map_cons, List.map_nil, List.cons_append, List.nil_append, List.append_nil, List.replicate_succ, List.replicate_zero, List.getElem?_cons_zero, List.getElem?_cons_succ, List.set_cons_zero, List.set_cons_succ, List.length_cons, List.length_nil, List.length_set, Option.some.injEq, W.d.injEq, W.m.injEq, D.int.injEq, D.bl.injEq, D.str.injEq, D.tup.injEq, D.lst.injEq, exists_eq_left', exists_eq_left, exists_eq, decide_eq_true_eq, and_true, true_and, if_true, if_false, Nat.reduceSub, Nat.reduceAdd, reduceCtorEq, false_and, exists_false, and_self, ite_true, ite_false, Bool.false_eq_true, Int.reduceLT, Int.reduceLE, Int.reduceNeg, Nat.reduceLeDiff, Int.toNat_zero, eq_self, d_law_cell, List.length_map, take_self]
  split
  · rename_i h
    obtain ⟨x, hx, _⟩ := atI_lt (xs := ns) (by omega : (0 : Int) ≤ k) h
    refine ⟨.int x, by rw [atI_map, hx]; rfl, q x⟩
  · exact q 0
end
theorem drv : Drv prg := { draw := fn__law_draw, char := fn__law_char, name := fn__law_name, number := fn__law_number, leaf := fn__law_leaf, vl := fn__law_value, ob := fn__law_object, wt := fn__law_with }
/-- one level below -/
def below (xs : List Vl) : List Vl := xs.flatMap vparts
theorem sizes_below : ∀ xs : List Vl, vsizes xs = xs.length + vsizes (below xs)
  | [] => by simp [vsizes, below]
  | x :: r => by
    have e : below (x :: r) = vparts x ++ below r := rfl
    rw [e, vsizes_app]
    have := sizes_below r
    have := vsize_eq x
    rw [List.length_cons]
    simp only [vsizes]
    omega
theorem deps_app : ∀ (xs ys : List Vl), vdeps (xs ++ ys) = max (vdeps xs) (vdeps ys)
  | [], ys => by simp [vdeps]
  | x :: xs, ys => by
    show vdeps (x :: (xs ++ ys)) = _
    simp only [vdeps]
    rw [deps_app xs ys, Nat.max_assoc]
theorem deps_below : ∀ xs : List Vl, xs ≠ [] → vdeps xs = 1 + vdeps (below xs)
  | [], h => absurd rfl h
  | [x], _ => by
    have e : below [x] = vparts x ++ [] := rfl
    rw [e, List.append_nil]
    simp only [vdeps]
    rw [vdep_eq]
    omega
  | x :: y :: r, _ => by
    have e : below (x :: y :: r) = vparts x ++ below (y :: r) := rfl
    rw [e, deps_app]
    have := deps_below (y :: r) (by simp)
    have := vdep_eq x
    simp only [vdeps] at *
    omega
theorem law_true : ∀ ns : List Int, ns.length ≤ 63 → callF (mkP tbl gtbl) 230 "law" [.d (.lst (ns.map .int))] [] = some (.d (.bl true), []) := by
  intro ns hns
  have : W1 (callF prg 230 "law" [.d (.lst (ns.map .int))] []) fun w M => w = .d (.bl true) ∧ M = [] := by
    refine x_run (by omega) fn_law rfl ?_
    simp only [d_law_k02, List.map_cons, List.map_nil, List.cons_append, List.nil_append, List.replicate_succ, List.replicate_zero, Nat.reduceSub]
    refine seq_cut (fun δ M => ∃ v : Vl, vdep v ≤ 5 ∧ vsize v ≤ 256 ∧ δ = [some (.d (.lst (ns.map .int))), some (.d (toD v)), none, none, none, none, none, none, none, none]) ?_ ?_
    · simp only [W1_none, W1_some, Wl_none, Wl_some, Wd_none, Wd_some, Wb_none, Wb_some, W2_none, W2_nx, W2_rt, x_var, x_frz, x_cst, x_glb, x_evs0, x_evs1, x_ws0, x_ws1, x_tup, W1_fin, finQ_t, finQ_f, x_lst, x_bin, x_cat, x_ix, x_cmp, x_nt, x_neg, x_an, x_or, x_an0, x_or0, x_an1, x_or1, x_ite, x_call, x_bi, x_isi, x_nil, x_asg, x_unp, x_ret, x_ex, x_fr, x_setix, x_app, x_mkl, deref_d, ex_if, add_ii, sub_ii, mul_ii, mod_ii, div_ii, add_ss, add_ll, add_tt, mul_si, ix_li, ix_ti, ix_si, eq_ii, ne_ii, eq_ss, ne_ss, lt_ii, le_ii, gt_ii, ge_ii, lt_ss, le_ss, gt_ss, ge_ss, int_i, int_b, ord_c, len_s, len_t, len_l, tuple_t, tuple_l, map1, map2, ret_d, setL_eq, take_set', nope, ex_and, at0, at1, at2, at3, at4, at5, at6, at7, at8, at9, ix30, ix31, ix32, pow1018, ret_new, x_join, x_comp, x_evc0, x_evc1, Wo_nop, x_slc, sl_l, sl_t, sl_s, x_mdic, wk_l, wk_t, wk_s, wk_r1, wk_r2, wk_e, wk_zl, wk_zt, wk_vl, wk_vt, ok_none, bind_nm, wipe_cons, wipe_nil, wo_cst, wo_var, wo_glb, wo_neg, wo_bin, wo_ix, wo_bi, wo_call, wo_ite, isN_i, isN_s, isN_n, notN_i, notN_s, notN_n, max2_i, min2_i, pow1020, pow1019, List.map_cons, List.map_nil, List.cons_append, List.nil_append, List.append_nil, List.replicate_succ, List.replicate_zero, List.getElem?_cons_zero, List.getElem?_cons_succ, List.set_cons_zero, List.set_cons_succ, List.length_cons, List.length_nil, List.length_set, Option.some.injEq, W.d.injEq, W.m.injEq, D.int.injEq, D.bl.injEq, D.str.injEq, D.tup.injEq, D.lst.injEq, exists_eq_left', exists_eq_left, exists_eq, decide_eq_true_eq, and_true, true_and, if_true, if_false, Nat.reduceSub, Nat.reduceAdd, reduceCtorEq, false_and, exists_false, and_self, ite_true, ite_false, Bool.false_eq_true, Int.reduceLT, Int.reduceLE, Int.reduceNeg, Nat.reduceLeDiff, Int.toNat_zero, eq_self, x_ifs]
      refine do_cell (k := 0) (by omega) fun c0 => ?_
      refine sp_source fn__law_source (by omega) fun b c => ?_
      refine do_value drv 4 (by omega) ⟨_, _, _, get_new⟩ fun v M1 o d1 s1 => ?_
      exact ⟨v, by have := o.2.1; omega, by have := o.2.2; omega, rfl⟩
    rintro δ M ⟨v, hd, hs, rfl⟩
    refine seq_cut (fun δ M => ∃ (v : Vl) (a : Option W), vdep v ≤ 41 ∧ vsize v ≤ 300 ∧ δ = [some (.d (.lst (ns.map .int))), some (.d (toD v)), a, none, none, none, none, none, none, none]) ?_ ?_
    · simp only [W1_none, W1_some, Wl_none, Wl_some, Wd_none, Wd_some, Wb_none, Wb_some, W2_none, W2_nx, W2_rt, x_var, x_frz, x_cst, x_glb, x_evs0, x_evs1, x_ws0, x_ws1, x_tup, W1_fin, finQ_t, finQ_f, x_lst, x_bin, x_cat, x_ix, x_cmp, x_nt, x_neg, x_an, x_or, x_an0, x_or0, x_an1, x_or1, x_ite, x_call, x_bi, x_isi, x_nil, x_asg, x_unp, x_ret, x_ex, x_fr, x_setix, x_app, x_mkl, deref_d, ex_if, add_ii, sub_ii, mul_ii, mod_ii, div_ii, add_ss, add_ll, add_tt, mul_si, ix_li, ix_ti, ix_si, eq_ii, ne_ii, eq_ss, ne_ss, lt_ii, le_ii, gt_ii, ge_ii, lt_ss, le_ss, gt_ss, ge_ss, int_i, int_b, ord_c, len_s, len_t, len_l, tuple_t, tuple_l, map1, map2, ret_d, setL_eq, take_set', nope, ex_and, at0, at1, at2, at3, at4, at5, at6, at7, at8, at9, ix30, ix31, ix32, pow1018, ret_new, x_join, x_comp, x_evc0, x_evc1, Wo_nop, x_slc, sl_l, sl_t, sl_s, x_mdic, wk_l, wk_t, wk_s, wk_r1, wk_r2, wk_e, wk_zl, wk_zt, wk_vl, wk_vt, ok_none, bind_nm, wipe_cons, wipe_nil, wo_cst, wo_var, wo_glb, wo_neg, wo_bin, wo_ix, wo_bi, wo_call, wo_ite, isN_i, isN_s, isN_n, notN_i, notN_s, notN_n, max2_i, min2_i, pow1020, pow1019, List.map_cons, List.map_nil, List.cons_append, List.nil_append, List.append_nil, List.replicate_succ, List.replicate_zero, List.getElem?_cons_zero, List.getElem?_cons_succ, List.set_cons_zero, List.set_cons_succ, List.length_cons, List.length_nil, List.length_set, Option.some.injEq, W.d.injEq, W.m.injEq, D.int.injEq, D.bl.injEq, D.str.injEq, D.tup.injEq, D.lst.injEq, exists_eq_left', exists_eq_left, exists_eq, decide_eq_true_eq, and_true, true_and, if_true, if_false, Nat.reduceSub, Nat.reduceAdd, reduceCtorEq, false_and, exists_false, and_self, ite_true, ite_false, Bool.false_eq_true, Int.reduceLT, Int.reduceLE, Int.reduceNeg, Nat.reduceLeDiff, Int.toNat_zero, eq_self, x_ifs]
      refine do_cell (k := 1) (by omega) fun c1 => ?_
      simp only [W1_none, W1_some, Wl_none, Wl_some, Wd_none, Wd_some, Wb_none, Wb_some, W2_none, W2_nx, W2_rt, x_var, x_frz, x_cst, x_glb, x_evs0, x_evs1, x_ws0, x_ws1, x_tup, W1_fin, finQ_t, finQ_f, x_lst, x_bin, x_cat, x_ix, x_cmp, x_nt, x_neg, x_an, x_or, x_an0, x_or0, x_an1, x_or1, x_ite, x_call, x_bi, x_isi, x_nil, x_cons, x_asg, x_unp, x_ret, x_ex, x_ifs, x_fr, x_setix, x_app, x_mkl, deref_d, ex_if, add_ii, sub_ii, mul_ii, mod_ii, div_ii, add_ss, add_ll, add_tt, mul_si, ix_li, ix_ti, ix_si, eq_ii, ne_ii, eq_ss, ne_ss, lt_ii, le_ii, gt_ii, ge_ii, lt_ss, le_ss, gt_ss, ge_ss, int_i, int_b, ord_c, len_s, len_t, len_l, tuple_t, tuple_l, map1, map2, ret_d, setL_eq, take_set', nope, ex_and, at0, at1, at2, at3, at4, at5, at6, at7, at8, at9, ix30, ix31, ix32, pow1018, ret_new, x_join, x_comp, x_evc0, x_evc1, Wo_nop, x_slc, sl_l, sl_t, sl_s, x_mdic, wk_l, wk_t, wk_s, wk_r1, wk_r2, wk_e, wk_zl, wk_zt, wk_vl, wk_vt, ok_none, bind_nm, wipe_cons, wipe_nil, wo_cst, wo_var, wo_glb, wo_neg, wo_bin, wo_ix, wo_bi, wo_call, wo_ite, isN_i, isN_s, isN_n, notN_i, notN_s, notN_n, max2_i, min2_i, pow1020, pow1019, List.map_cons, List.map_nil, List.cons_append, List.nil_append, List.append_nil, List.replicate_succ, List.replicate_zero, List.getElem?_cons_zero, List.getElem?_cons_succ, List.set_cons_zero, List.set_cons_succ, List.length_cons, List.length_nil, List.length_set, Option.some.injEq, W.d.injEq, W.m.injEq, D.int.injEq, D.bl.injEq, D.str.injEq, D.tup.injEq, D.lst.injEq, exists_eq_left', exists_eq_left, exists_eq, decide_eq_true_eq, and_true, true_and, if_true, if_false, Nat.reduceSub, Nat.reduceAdd, reduceCtorEq, false_and, exists_false, and_self, ite_true, ite_false, Bool.false_eq_true, Int.reduceLT, Int.reduceLE, Int.reduceNeg, Nat.reduceLeDiff, Int.toNat_zero, eq_self]
      split
      · refine do_cell (k := 1) (by omega) fun c1 => ?_
        simp only [W1_none, W1_some, Wl_none, Wl_some, Wd_none, Wd_some, Wb_none, Wb_some, W2_none, W2_nx, W2_rt, x_var, x_frz, x_cst, x_glb, x_evs0, x_evs1, x_ws0, x_ws1, x_tup, W1_fin, finQ_t, finQ_f, x_lst, x_bin, x_cat, x_ix, x_cmp, x_nt, x_neg, x_an, x_or, x_an0, x_or0, x_an1, x_or1, x_ite, x_call, x_bi, x_isi, x_nil, x_cons, x_asg, x_unp, x_ret, x_ex, x_ifs, x_fr, x_setix, x_app, x_mkl, deref_d, ex_if, add_ii, sub_ii, mul_ii, mod_ii, div_ii, add_ss, add_ll, add_tt, mul_si, ix_li, ix_ti, ix_si, eq_ii, ne_ii, eq_ss, ne_ss, lt_ii, le_ii, gt_ii, ge_ii, lt_ss, le_ss, gt_ss, ge_ss, int_i, int_b, ord_c, len_s, len_t, len_l, tuple_t, tuple_l, map1, map2, ret_d, setL_eq, take_set', nope, ex_and, at0, at1, at2, at3, at4, at5, at6, at7, at8, at9, ix30, ix31, ix32, pow1018, ret_new, x_join, x_comp, x_evc0, x_evc1, Wo_nop, x_slc, sl_l, sl_t, sl_s, x_mdic, wk_l, wk_t, wk_s, wk_r1, wk_r2, wk_e, wk_zl, wk_zt, wk_vl, wk_vt, ok_none, bind_nm, wipe_cons, wipe_nil, wo_cst, wo_var, wo_glb, wo_neg, wo_bin, wo_ix, wo_bi, wo_call, wo_ite, isN_i, isN_s, isN_n, notN_i, notN_s, notN_n, max2_i, min2_i, pow1020, pow1019, List.map_cons, List.map_nil, List.cons_append, List.nil_append, List.append_nil, List.replicate_succ, List.replicate_zero, List.getElem?_cons_zero, List.getElem?_cons_succ, List.set_cons_zero, List.set_cons_succ, List.length_cons, List.length_nil, List.length_set, Option.some.injEq, W.d.injEq, W.m.injEq, D.int.injEq, D.bl.injEq, D.str.injEq, D.tup.injEq, D.lst.injEq, exists_eq_left', exists_eq_left, exists_eq, decide_eq_true_eq, and_true, true_and, if_true, if_false, Nat.reduceSub, Nat.reduceAdd, reduceCtorEq, false_and, exists_false, and_self, ite_true, ite_false, Bool.false_eq_true, Int.reduceLT, Int.reduceLE, Int.reduceNeg, Nat.reduceLeDiff, Int.toNat_zero, eq_self]
        refine ⟨by omega, ?_⟩
        rw [rngF_0]
        refine w2_for (fun rest δ M => ∃ (i : Nat) (v : Vl) (a : Option W), rest = rngF (c1 / 4 % 36).toNat i ∧ i ≤ 36 ∧ vdep v ≤ 5 + i ∧ vsize v ≤ 256 + i ∧ δ = [some (.d (.lst (ns.map .int))), some (.d (toD v)), a, none, none, none, none, none, none, none]) ?_ ?_ _ _ _ ⟨0, v, none, rfl, by omega, by omega, by omega, rfl⟩
        · rintro x rest δ M ⟨i, v, a, hr, hi, hd, hs, rfl⟩
          obtain ⟨him, rfl, rfl⟩ := rngF_cons hr
          refine ⟨_, rfl, ?_⟩
          simp only [W1_none, W1_some, Wl_none, Wl_some, Wd_none, Wd_some, Wb_none, Wb_some, W2_none, W2_nx, W2_rt, x_var, x_frz, x_cst, x_glb, x_evs0, x_evs1, x_ws0, x_ws1, x_tup, W1_fin, finQ_t, finQ_f, x_lst, x_bin, x_cat, x_ix, x_cmp, x_nt, x_neg, x_an, x_or, x_an0, x_or0, x_an1, x_or1, x_ite, x_call, x_bi, x_isi, x_nil, x_cons, x_asg, x_unp, x_ret, x_ex, x_ifs, x_fr, x_setix, x_app, x_mkl, deref_d, ex_if, add_ii, sub_ii, mul_ii, mod_ii, div_ii, add_ss, add_ll, add_tt, mul_si, ix_li, ix_ti, ix_si, eq_ii, ne_ii, eq_ss, ne_ss, lt_ii, le_ii, gt_ii, ge_ii, lt_ss, le_ss, gt_ss, ge_ss, int_i, int_b, ord_c, len_s, len_t, len_l, tuple_t, tuple_l, map1, map2, ret_d, setL_eq, take_set', nope, ex_and, at0, at1, at2, at3, at4, at5, at6, at7, at8, at9, ix30, ix31, ix32, pow1018, ret_new, x_join, x_comp, x_evc0, x_evc1, Wo_nop, x_slc, sl_l, sl_t, sl_s, x_mdic, wk_l, wk_t, wk_s, wk_r1, wk_r2, wk_e, wk_zl, wk_zt, wk_vl, wk_vt, ok_none, bind_nm, wipe_cons, wipe_nil, wo_cst, wo_var, wo_glb, wo_neg, wo_bin, wo_ix, wo_bi, wo_call, wo_ite, isN_i, isN_s, isN_n, notN_i, notN_s, notN_n, max2_i, min2_i, pow1020, pow1019, List.map_cons, List.map_nil, List.cons_append, List.nil_append, List.append_nil, List.replicate_succ, List.replicate_zero, List.getElem?_cons_zero, List.getElem?_cons_succ, List.set_cons_zero, List.set_cons_succ, List.length_cons, List.length_nil, List.length_set, Option.some.injEq, W.d.injEq, W.m.injEq, D.int.injEq, D.bl.injEq, D.str.injEq, D.tup.injEq, D.lst.injEq, exists_eq_left', exists_eq_left, exists_eq, decide_eq_true_eq, and_true, true_and, if_true, if_false, Nat.reduceSub, Nat.reduceAdd, reduceCtorEq, false_and, exists_false, and_self, ite_true, ite_false, Bool.false_eq_true, Int.reduceLT, Int.reduceLE, Int.reduceNeg, Nat.reduceLeDiff, Int.toNat_zero, eq_self]
          refine do_cell (k := 2) (by omega) fun c2 => ?_
          simp only [W1_none, W1_some, Wl_none, Wl_some, Wd_none, Wd_some, Wb_none, Wb_some, W2_none, W2_nx, W2_rt, x_var, x_frz, x_cst, x_glb, x_evs0, x_evs1, x_ws0, x_ws1, x_tup, W1_fin, finQ_t, finQ_f, x_lst, x_bin, x_cat, x_ix, x_cmp, x_nt, x_neg, x_an, x_or, x_an0, x_or0, x_an1, x_or1, x_ite, x_call, x_bi, x_isi, x_nil, x_cons, x_asg, x_unp, x_ret, x_ex, x_ifs, x_fr, x_setix, x_app, x_mkl, deref_d, ex_if, add_ii, sub_ii, mul_ii, mod_ii, div_ii, add_ss, add_ll, add_tt, mul_si, ix_li, ix_ti, ix_si, eq_ii, ne_ii, eq_ss, ne_ss, lt_ii, le_ii, gt_ii, ge_ii, lt_ss, le_ss, gt_ss, ge_ss, int_i, int_b, ord_c, len_s, len_t, len_l, tuple_t, tuple_l, map1, map2, ret_d, setL_eq, take_set', nope, ex_and, at0, at1, at2, at3, at4, at5, at6, at7, at8, at9, ix30, ix31, ix32, pow1018, ret_new, x_join, x_comp, x_evc0, x_evc1, Wo_nop, x_slc, sl_l, sl_t, sl_s, x_mdic, wk_l, wk_t, wk_s, wk_r1, wk_r2, wk_e, wk_zl, wk_zt, wk_vl, wk_vt, ok_none, bind_nm, wipe_cons, wipe_nil, wo_cst, wo_var, wo_glb, wo_neg, wo_bin, wo_ix, wo_bi, wo_call, wo_ite, isN_i, isN_s, isN_n, notN_i, notN_s, notN_n, max2_i, min2_i, pow1020, pow1019, List.map_cons, List.map_nil, List.cons_append, List.nil_append, List.append_nil, List.replicate_succ, List.replicate_zero, List.getElem?_cons_zero, List.getElem?_cons_succ, List.set_cons_zero, List.set_cons_succ, List.length_cons, List.length_nil, List.length_set, Option.some.injEq, W.d.injEq, W.m.injEq, D.int.injEq, D.bl.injEq, D.str.injEq, D.tup.injEq, D.lst.injEq, exists_eq_left', exists_eq_left, exists_eq, decide_eq_true_eq, and_true, true_and, if_true, if_false, Nat.reduceSub, Nat.reduceAdd, reduceCtorEq, false_and, exists_false, and_self, ite_true, ite_false, Bool.false_eq_true, Int.reduceLT, Int.reduceLE, Int.reduceNeg, Nat.reduceLeDiff, Int.toNat_zero, eq_self]
          refine ⟨by omega, ?_⟩
          have hx : c2 / ((i : Int) + 1) % 2 = 0 ∨ c2 / ((i : Int) + 1) % 2 = 1 := by omega
          rcases hx with hx | hx <;> rw [hx]
          · refine ⟨_, at0, i + 1, .lst [v], _, rfl, by omega, ?_, ?_, by rw [toD_lst]; rfl⟩
            · simp only [vdep, vdeps]; omega
            · simp only [vsize, vsizes]; omega
          · refine ⟨_, at1, i + 1, .obj [([97], v)], _, rfl, by omega, ?_, ?_, by rw [toD_obj]; rfl⟩
            · simp only [vdep, vdepf]; omega
            · simp only [vsize, vsizef]; omega
        · rintro δ M ⟨i, v, a, hr, hi, hd, hs, rfl⟩
          exact ⟨v, a, by omega, by omega, rfl⟩
      · exact ⟨v, none, by omega, by omega, rfl⟩
    clear hd hs v
    rintro δ M ⟨v, a, hd, hs, rfl⟩
    refine seq_cut (fun δ M => ∃ (v : Vl) (a b : Option W), vdep v ≤ 42 ∧ vsize v ≤ 600 ∧ δ = [some (.d (.lst (ns.map .int))), some (.d (toD v)), a, b, none, none, none, none, none, none]) ?_ ?_
    · simp only [W1_none, W1_some, Wl_none, Wl_some, Wd_none, Wd_some, Wb_none, Wb_some, W2_none, W2_nx, W2_rt, x_var, x_frz, x_cst, x_glb, x_evs0, x_evs1, x_ws0, x_ws1, x_tup, W1_fin, finQ_t, finQ_f, x_lst, x_bin, x_cat, x_ix, x_cmp, x_nt, x_neg, x_an, x_or, x_an0, x_or0, x_an1, x_or1, x_ite, x_call, x_bi, x_isi, x_nil, x_asg, x_unp, x_ret, x_ex, x_fr, x_setix, x_app, x_mkl, deref_d, ex_if, add_ii, sub_ii, mul_ii, mod_ii, div_ii, add_ss, add_ll, add_tt, mul_si, ix_li, ix_ti, ix_si, eq_ii, ne_ii, eq_ss, ne_ss, lt_ii, le_ii, gt_ii, ge_ii, lt_ss, le_ss, gt_ss, ge_ss, int_i, int_b, ord_c, len_s, len_t, len_l, tuple_t, tuple_l, map1, map2, ret_d, setL_eq, take_set', nope, ex_and, at0, at1, at2, at3, at4, at5, at6, at7, at8, at9, ix30, ix31, ix32, pow1018, ret_new, x_join, x_comp, x_evc0, x_evc1, Wo_nop, x_slc, sl_l, sl_t, sl_s, x_mdic, wk_l, wk_t, wk_s, wk_r1, wk_r2, wk_e, wk_zl, wk_zt, wk_vl, wk_vt, ok_none, bind_nm, wipe_cons, wipe_nil, wo_cst, wo_var, wo_glb, wo_neg, wo_bin, wo_ix, wo_bi, wo_call, wo_ite, isN_i, isN_s, isN_n, notN_i, notN_s, notN_n, max2_i, min2_i, pow1020, pow1019, List.map_cons, List.map_nil, List.cons_append, List.nil_append, List.append_nil, List.replicate_succ, List.replicate_zero, List.getElem?_cons_zero, List.getElem?_cons_succ, List.set_cons_zero, List.set_cons_succ, List.length_cons, List.length_nil, List.length_set, Option.some.injEq, W.d.injEq, W.m.injEq, D.int.injEq, D.bl.injEq, D.str.injEq, D.tup.injEq, D.lst.injEq, exists_eq_left', exists_eq_left, exists_eq, decide_eq_true_eq, and_true, true_and, if_true, if_false, Nat.reduceSub, Nat.reduceAdd, reduceCtorEq, false_and, exists_false, and_self, ite_true, ite_false, Bool.false_eq_true, Int.reduceLT, Int.reduceLE, Int.reduceNeg, Nat.reduceLeDiff, Int.toNat_zero, eq_self, x_ifs]
      refine do_cell (k := 1) (by omega) fun c1 => ?_
      simp only [W1_none, W1_some, Wl_none, Wl_some, Wd_none, Wd_some, Wb_none, Wb_some, W2_none, W2_nx, W2_rt, x_var, x_frz, x_cst, x_glb, x_evs0, x_evs1, x_ws0, x_ws1, x_tup, W1_fin, finQ_t, finQ_f, x_lst, x_bin, x_cat, x_ix, x_cmp, x_nt, x_neg, x_an, x_or, x_an0, x_or0, x_an1, x_or1, x_ite, x_call, x_bi, x_isi, x_nil, x_cons, x_asg, x_unp, x_ret, x_ex, x_ifs, x_fr, x_setix, x_app, x_mkl, deref_d, ex_if, add_ii, sub_ii, mul_ii, mod_ii, div_ii, add_ss, add_ll, add_tt, mul_si, ix_li, ix_ti, ix_si, eq_ii, ne_ii, eq_ss, ne_ss, lt_ii, le_ii, gt_ii, ge_ii, lt_ss, le_ss, gt_ss, ge_ss, int_i, int_b, ord_c, len_s, len_t, len_l, tuple_t, tuple_l, map1, map2, ret_d, setL_eq, take_set', nope, ex_and, at0, at1, at2, at3, at4, at5, at6, at7, at8, at9, ix30, ix31, ix32, pow1018, ret_new, x_join, x_comp, x_evc0, x_evc1, Wo_nop, x_slc, sl_l, sl_t, sl_s, x_mdic, wk_l, wk_t, wk_s, wk_r1, wk_r2, wk_e, wk_zl, wk_zt, wk_vl, wk_vt, ok_none, bind_nm, wipe_cons, wipe_nil, wo_cst, wo_var, wo_glb, wo_neg, wo_bin, wo_ix, wo_bi, wo_call, wo_ite, isN_i, isN_s, isN_n, notN_i, notN_s, notN_n, max2_i, min2_i, pow1020, pow1019, List.map_cons, List.map_nil, List.cons_append, List.nil_append, List.append_nil, List.replicate_succ, List.replicate_zero, List.getElem?_cons_zero, List.getElem?_cons_succ, List.set_cons_zero, List.set_cons_succ, List.length_cons, List.length_nil, List.length_set, Option.some.injEq, W.d.injEq, W.m.injEq, D.int.injEq, D.bl.injEq, D.str.injEq, D.tup.injEq, D.lst.injEq, exists_eq_left', exists_eq_left, exists_eq, decide_eq_true_eq, and_true, true_and, if_true, if_false, Nat.reduceSub, Nat.reduceAdd, reduceCtorEq, false_and, exists_false, and_self, ite_true, ite_false, Bool.false_eq_true, Int.reduceLT, Int.reduceLE, Int.reduceNeg, Nat.reduceLeDiff, Int.toNat_zero, eq_self]
      split
      · refine do_cell (k := 1) (by omega) fun c1 => ?_
        simp only [W1_none, W1_some, Wl_none, Wl_some, Wd_none, Wd_some, Wb_none, Wb_some, W2_none, W2_nx, W2_rt, x_var, x_frz, x_cst, x_glb, x_evs0, x_evs1, x_ws0, x_ws1, x_tup, W1_fin, finQ_t, finQ_f, x_lst, x_bin, x_cat, x_ix, x_cmp, x_nt, x_neg, x_an, x_or, x_an0, x_or0, x_an1, x_or1, x_ite, x_call, x_bi, x_isi, x_nil, x_cons, x_asg, x_unp, x_ret, x_ex, x_ifs, x_fr, x_setix, x_app, x_mkl, deref_d, ex_if, add_ii, sub_ii, mul_ii, mod_ii, div_ii, add_ss, add_ll, add_tt, mul_si, ix_li, ix_ti, ix_si, eq_ii, ne_ii, eq_ss, ne_ss, lt_ii, le_ii, gt_ii, ge_ii, lt_ss, le_ss, gt_ss, ge_ss, int_i, int_b, ord_c, len_s, len_t, len_l, tuple_t, tuple_l, map1, map2, ret_d, setL_eq, take_set', nope, ex_and, at0, at1, at2, at3, at4, at5, at6, at7, at8, at9, ix30, ix31, ix32, pow1018, ret_new, x_join, x_comp, x_evc0, x_evc1, Wo_nop, x_slc, sl_l, sl_t, sl_s, x_mdic, wk_l, wk_t, wk_s, wk_r1, wk_r2, wk_e, wk_zl, wk_zt, wk_vl, wk_vt, ok_none, bind_nm, wipe_cons, wipe_nil, wo_cst, wo_var, wo_glb, wo_neg, wo_bin, wo_ix, wo_bi, wo_call, wo_ite, isN_i, isN_s, isN_n, notN_i, notN_s, notN_n, max2_i, min2_i, pow1020, pow1019, List.map_cons, List.map_nil, List.cons_append, List.nil_append, List.append_nil, List.replicate_succ, List.replicate_zero, List.getElem?_cons_zero, List.getElem?_cons_succ, List.set_cons_zero, List.set_cons_succ, List.length_cons, List.length_nil, List.length_set, Option.some.injEq, W.d.injEq, W.m.injEq, D.int.injEq, D.bl.injEq, D.str.injEq, D.tup.injEq, D.lst.injEq, exists_eq_left', exists_eq_left, exists_eq, decide_eq_true_eq, and_true, true_and, if_true, if_false, Nat.reduceSub, Nat.reduceAdd, reduceCtorEq, false_and, exists_false, and_self, ite_true, ite_false, Bool.false_eq_true, Int.reduceLT, Int.reduceLE, Int.reduceNeg, Nat.reduceLeDiff, Int.toNat_zero, eq_self]
        refine ⟨by omega, ?_⟩
        refine wd_comp0 (fun rest acc M' => (∃ t : List Int, rest = t.map .int) ∧ acc.length + rest.length = (c1 / 4 % 201).toNat ∧ ∃ vs : List Vl, acc = vs.map toD ∧ ∀ v ∈ vs, vdep v ≤ 1 ∧ vsize v ≤ 1) ⟨⟨(List.range (c1 / 4 % 201).toNat).map (fun k : Nat => (k : Int)), by simp [rangeL]⟩, by simp [rangeL], [], rfl, fun _ h => nomatch h⟩ ?_ ?_
        · rintro x rest acc M4 ⟨⟨t, ht⟩, hl, vs, rfl, hv⟩
          cases t with
          | nil => cases ht
          | cons j t =>
            cases ht
            refine ⟨_, rfl, ?_⟩
            simp only [W1_none, W1_some, Wl_none, Wl_some, Wd_none, Wd_some, Wb_none, Wb_some, W2_none, W2_nx, W2_rt, x_var, x_frz, x_cst, x_glb, x_evs0, x_evs1, x_ws0, x_ws1, x_tup, W1_fin, finQ_t, finQ_f, x_lst, x_bin, x_cat, x_ix, x_cmp, x_nt, x_neg, x_an, x_or, x_an0, x_or0, x_an1, x_or1, x_ite, x_call, x_bi, x_isi, x_nil, x_cons, x_asg, x_unp, x_ret, x_ex, x_ifs, x_fr, x_setix, x_app, x_mkl, deref_d, ex_if, add_ii, sub_ii, mul_ii, mod_ii, div_ii, add_ss, add_ll, add_tt, mul_si, ix_li, ix_ti, ix_si, eq_ii, ne_ii, eq_ss, ne_ss, lt_ii, le_ii, gt_ii, ge_ii, lt_ss, le_ss, gt_ss, ge_ss, int_i, int_b, ord_c, len_s, len_t, len_l, tuple_t, tuple_l, map1, map2, ret_d, setL_eq, take_set', nope, ex_and, at0, at1, at2, at3, at4, at5, at6, at7, at8, at9, ix30, ix31, ix32, pow1018, ret_new, x_join, x_comp, x_evc0, x_evc1, Wo_nop, x_slc, sl_l, sl_t, sl_s, x_mdic, wk_l, wk_t, wk_s, wk_r1, wk_r2, wk_e, wk_zl, wk_zt, wk_vl, wk_vt, ok_none, bind_nm, wipe_cons, wipe_nil, wo_cst, wo_var, wo_glb, wo_neg, wo_bin, wo_ix, wo_bi, wo_call, wo_ite, isN_i, isN_s, isN_n, notN_i, notN_s, notN_n, max2_i, min2_i, pow1020, pow1019, List.map_cons, List.map_nil, List.cons_append, List.nil_append, List.append_nil, List.replicate_succ, List.replicate_zero, List.getElem?_cons_zero, List.getElem?_cons_succ, List.set_cons_zero, List.set_cons_succ, List.length_cons, List.length_nil, List.length_set, Option.some.injEq, W.d.injEq, W.m.injEq, D.int.injEq, D.bl.injEq, D.str.injEq, D.tup.injEq, D.lst.injEq, exists_eq_left', exists_eq_left, exists_eq, decide_eq_true_eq, and_true, true_and, if_true, if_false, Nat.reduceSub, Nat.reduceAdd, reduceCtorEq, false_and, exists_false, and_self, ite_true, ite_false, Bool.false_eq_true, Int.reduceLT, Int.reduceLE, Int.reduceNeg, Nat.reduceLeDiff, Int.toNat_zero, eq_self]
            refine do_cell (k := 3) (by omega) fun c3 => ?_
            simp only [W1_none, W1_some, Wl_none, Wl_some, Wd_none, Wd_some, Wb_none, Wb_some, W2_none, W2_nx, W2_rt, x_var, x_frz, x_cst, x_glb, x_evs0, x_evs1, x_ws0, x_ws1, x_tup, W1_fin, finQ_t, finQ_f, x_lst, x_bin, x_cat, x_ix, x_cmp, x_nt, x_neg, x_an, x_or, x_an0, x_or0, x_an1, x_or1, x_ite, x_call, x_bi, x_isi, x_nil, x_cons, x_asg, x_unp, x_ret, x_ex, x_ifs, x_fr, x_setix, x_app, x_mkl, deref_d, ex_if, add_ii, sub_ii, mul_ii, mod_ii, div_ii, add_ss, add_ll, add_tt, mul_si, ix_li, ix_ti, ix_si, eq_ii, ne_ii, eq_ss, ne_ss, lt_ii, le_ii, gt_ii, ge_ii, lt_ss, le_ss, gt_ss, ge_ss, int_i, int_b, ord_c, len_s, len_t, len_l, tuple_t, tuple_l, map1, map2, ret_d, setL_eq, take_set', nope, ex_and, at0, at1, at2, at3, at4, at5, at6, at7, at8, at9, ix30, ix31, ix32, pow1018, ret_new, x_join, x_comp, x_evc0, x_evc1, Wo_nop, x_slc, sl_l, sl_t, sl_s, x_mdic, wk_l, wk_t, wk_s, wk_r1, wk_r2, wk_e, wk_zl, wk_zt, wk_vl, wk_vt, ok_none, bind_nm, wipe_cons, wipe_nil, wo_cst, wo_var, wo_glb, wo_neg, wo_bin, wo_ix, wo_bi, wo_call, wo_ite, isN_i, isN_s, isN_n, notN_i, notN_s, notN_n, max2_i, min2_i, pow1020, pow1019, List.map_cons, List.map_nil, List.cons_append, List.nil_append, List.append_nil, List.replicate_succ, List.replicate_zero, List.getElem?_cons_zero, List.getElem?_cons_succ, List.set_cons_zero, List.set_cons_succ, List.length_cons, List.length_nil, List.length_set, Option.some.injEq, W.d.injEq, W.m.injEq, D.int.injEq, D.bl.injEq, D.str.injEq, D.tup.injEq, D.lst.injEq, exists_eq_left', exists_eq_left, exists_eq, decide_eq_true_eq, and_true, true_and, if_true, if_false, Nat.reduceSub, Nat.reduceAdd, reduceCtorEq, false_and, exists_false, and_self, ite_true, ite_false, Bool.false_eq_true, Int.reduceLT, Int.reduceLE, Int.reduceNeg, Nat.reduceLeDiff, Int.toNat_zero, eq_self]
            refine sp_source fn__law_source (by omega) fun b c => ?_
            refine do_leaf drv.toDrw (by omega) ⟨_, _, _, get_new⟩ fun w M1 o d1 s1 => ⟨_, rfl, ⟨t, rfl⟩, by rw [List.length_append, List.length_cons, List.length_nil]; rw [List.length_cons] at hl; omega, vs ++ [w], by simp, fun z hz => ?_⟩
            rcases List.mem_append.mp hz with hz | hz
            · exact hv z hz
            · rw [List.mem_singleton.mp hz]
              cases w <;> first | exact o.elim | exact ⟨by simp [vdep], by simp [vsize]⟩
        · rintro acc M4 ⟨_, hl, vs, rfl, hv⟩
          rw [List.length_map, List.length_nil] at hl
          rw [List.length_map]
          refine ⟨by show _ ≤ 16777216; omega, by show _ ≤ 16777216; omega, .lst (v :: vs), _, _, ?_, ?_, by rw [toD_lst]; rfl⟩
          · simp only [vdep, vdeps]
            have := vdeps_le (xs := vs) (k := 1) fun x hx => (hv x hx).1
            omega
          · simp only [vsize, vsizes]
            have := vsizes_le (xs := vs) (k := 1) fun x hx => (hv x hx).2
            omega
      · exact ⟨v, a, none, by omega, by omega, rfl⟩
    clear hd hs v
    rintro δ M ⟨v, a, b, hd, hs, rfl⟩
    refine seq_cut (fun δ M => δ = [some (.d (.lst (ns.map .int))), some (.d (toD v)), a, b, some (.d (.int 0)), none, none, none, none, none]) (by simp only [W1_none, W1_some, Wl_none, Wl_some, Wd_none, Wd_some, Wb_none, Wb_some, W2_none, W2_nx, W2_rt, x_var, x_frz, x_cst, x_glb, x_evs0, x_evs1, x_ws0, x_ws1, x_tup, W1_fin, finQ_t, finQ_f, x_lst, x_bin, x_cat, x_ix, x_cmp, x_nt, x_neg, x_an, x_or, x_an0, x_or0, x_an1, x_or1, x_ite, x_call, x_bi, x_isi, x_nil, x_asg, x_unp, x_ret, x_ex, x_fr, x_setix, x_app, x_mkl, deref_d, ex_if, add_ii, sub_ii, mul_ii, mod_ii, div_ii, add_ss, add_ll, add_tt, mul_si, ix_li, ix_ti, ix_si, eq_ii, ne_ii, eq_ss, ne_ss, lt_ii, le_ii, gt_ii, ge_ii, lt_ss, le_ss, gt_ss, ge_ss, int_i, int_b, ord_c, len_s, len_t, len_l, tuple_t, tuple_l, map1, map2, ret_d, setL_eq, take_set', nope, ex_and, at0, at1, at2, at3, at4, at5, at6, at7, at8, at9, ix30, ix31, ix32, pow1018, ret_new, x_join, x_comp, x_evc0, x_evc1, Wo_nop, x_slc, sl_l, sl_t, sl_s, x_mdic, wk_l, wk_t, wk_s, wk_r1, wk_r2, wk_e, wk_zl, wk_zt, wk_vl, wk_vt, ok_none, bind_nm, wipe_cons, wipe_nil, wo_cst, wo_var, wo_glb, wo_neg, wo_bin, wo_ix, wo_bi, wo_call, wo_ite, isN_i, isN_s, isN_n, notN_i, notN_s, notN_n, max2_i, min2_i, pow1020, pow1019, List.map_cons, List.map_nil, List.cons_append, List.nil_append, List.append_nil, List.replicate_succ, List.replicate_zero, List.getElem?_cons_zero, List.getElem?_cons_succ, List.set_cons_zero, List.set_cons_succ, List.length_cons, List.length_nil, List.length_set, Option.some.injEq, W.d.injEq, W.m.injEq, D.int.injEq, D.bl.injEq, D.str.injEq, D.tup.injEq, D.lst.injEq, exists_eq_left', exists_eq_left, exists_eq, decide_eq_true_eq, and_true, true_and, if_true, if_false, Nat.reduceSub, Nat.reduceAdd, reduceCtorEq, false_and, exists_false, and_self, ite_true, ite_false, Bool.false_eq_true, Int.reduceLT, Int.reduceLE, Int.reduceNeg, Nat.reduceLeDiff, Int.toNat_zero, eq_self, x_ifs]) ?_
    rintro δ M rfl
    refine seq_cut (fun δ M => δ = [some (.d (.lst (ns.map .int))), some (.d (toD v)), a, b, some (.d (.int 0)), some (.d (.int 0)), none, none, none, none]) (by simp only [W1_none, W1_some, Wl_none, Wl_some, Wd_none, Wd_some, Wb_none, Wb_some, W2_none, W2_nx, W2_rt, x_var, x_frz, x_cst, x_glb, x_evs0, x_evs1, x_ws0, x_ws1, x_tup, W1_fin, finQ_t, finQ_f, x_lst, x_bin, x_cat, x_ix, x_cmp, x_nt, x_neg, x_an, x_or, x_an0, x_or0, x_an1, x_or1, x_ite, x_call, x_bi, x_isi, x_nil, x_asg, x_unp, x_ret, x_ex, x_fr, x_setix, x_app, x_mkl, deref_d, ex_if, add_ii, sub_ii, mul_ii, mod_ii, div_ii, add_ss, add_ll, add_tt, mul_si, ix_li, ix_ti, ix_si, eq_ii, ne_ii, eq_ss, ne_ss, lt_ii, le_ii, gt_ii, ge_ii, lt_ss, le_ss, gt_ss, ge_ss, int_i, int_b, ord_c, len_s, len_t, len_l, tuple_t, tuple_l, map1, map2, ret_d, setL_eq, take_set', nope, ex_and, at0, at1, at2, at3, at4, at5, at6, at7, at8, at9, ix30, ix31, ix32, pow1018, ret_new, x_join, x_comp, x_evc0, x_evc1, Wo_nop, x_slc, sl_l, sl_t, sl_s, x_mdic, wk_l, wk_t, wk_s, wk_r1, wk_r2, wk_e, wk_zl, wk_zt, wk_vl, wk_vt, ok_none, bind_nm, wipe_cons, wipe_nil, wo_cst, wo_var, wo_glb, wo_neg, wo_bin, wo_ix, wo_bi, wo_call, wo_ite, isN_i, isN_s, isN_n, notN_i, notN_s, notN_n, max2_i, min2_i, pow1020, pow1019, List.map_cons, List.map_nil, List.cons_append, List.nil_append, List.append_nil, List.replicate_succ, List.replicate_zero, List.getElem?_cons_zero, List.getElem?_cons_succ, List.set_cons_zero, List.set_cons_succ, List.length_cons, List.length_nil, List.length_set, Option.some.injEq, W.d.injEq, W.m.injEq, D.int.injEq, D.bl.injEq, D.str.injEq, D.tup.injEq, D.lst.injEq, exists_eq_left', exists_eq_left, exists_eq, decide_eq_true_eq, and_true, true_and, if_true, if_false, Nat.reduceSub, Nat.reduceAdd, reduceCtorEq, false_and, exists_false, and_self, ite_true, ite_false, Bool.false_eq_true, Int.reduceLT, Int.reduceLE, Int.reduceNeg, Nat.reduceLeDiff, Int.toNat_zero, eq_self, x_ifs]) ?_
    rintro δ M rfl
    refine seq_cut (fun δ M => δ = [some (.d (.lst (ns.map .int))), some (.d (toD v)), a, b, some (.d (.int 0)), some (.d (.int 0)), some (.d (.lst [toD v])), none, none, none]) (by simp only [W1_none, W1_some, Wl_none, Wl_some, Wd_none, Wd_some, Wb_none, Wb_some, W2_none, W2_nx, W2_rt, x_var, x_frz, x_cst, x_glb, x_evs0, x_evs1, x_ws0, x_ws1, x_tup, W1_fin, finQ_t, finQ_f, x_lst, x_bin, x_cat, x_ix, x_cmp, x_nt, x_neg, x_an, x_or, x_an0, x_or0, x_an1, x_or1, x_ite, x_call, x_bi, x_isi, x_nil, x_asg, x_unp, x_ret, x_ex, x_fr, x_setix, x_app, x_mkl, deref_d, ex_if, add_ii, sub_ii, mul_ii, mod_ii, div_ii, add_ss, add_ll, add_tt, mul_si, ix_li, ix_ti, ix_si, eq_ii, ne_ii, eq_ss, ne_ss, lt_ii, le_ii, gt_ii, ge_ii, lt_ss, le_ss, gt_ss, ge_ss, int_i, int_b, ord_c, len_s, len_t, len_l, tuple_t, tuple_l, map1, map2, ret_d, setL_eq, take_set', nope, ex_and, at0, at1, at2, at3, at4, at5, at6, at7, at8, at9, ix30, ix31, ix32, pow1018, ret_new, x_join, x_comp, x_evc0, x_evc1, Wo_nop, x_slc, sl_l, sl_t, sl_s, x_mdic, wk_l, wk_t, wk_s, wk_r1, wk_r2, wk_e, wk_zl, wk_zt, wk_vl, wk_vt, ok_none, bind_nm, wipe_cons, wipe_nil, wo_cst, wo_var, wo_glb, wo_neg, wo_bin, wo_ix, wo_bi, wo_call, wo_ite, isN_i, isN_s, isN_n, notN_i, notN_s, notN_n, max2_i, min2_i, pow1020, pow1019, List.map_cons, List.map_nil, List.cons_append, List.nil_append, List.append_nil, List.replicate_succ, List.replicate_zero, List.getElem?_cons_zero, List.getElem?_cons_succ, List.set_cons_zero, List.set_cons_succ, List.length_cons, List.length_nil, List.length_set, Option.some.injEq, W.d.injEq, W.m.injEq, D.int.injEq, D.bl.injEq, D.str.injEq, D.tup.injEq, D.lst.injEq, exists_eq_left', exists_eq_left, exists_eq, decide_eq_true_eq, and_true, true_and, if_true, if_false, Nat.reduceSub, Nat.reduceAdd, reduceCtorEq, false_and, exists_false, and_self, ite_true, ite_false, Bool.false_eq_true, Int.reduceLT, Int.reduceLE, Int.reduceNeg, Nat.reduceLeDiff, Int.toNat_zero, eq_self, x_ifs]) ?_
    rintro δ M rfl
    refine seq_cut (fun δ M => ∃ c e f g, δ = [some (.d (.lst (ns.map .int))), some (.d (toD v)), a, b, some (.d (.int (vsize v))), some (.d (.int (vdep v))), c, e, f, g]) ?_ ?_
    · refine w2_whl (fun m δ M => ∃ (lv : List Vl) (s d : Nat) (e f g : Option W), m = vsizes lv ∧ s + vsizes lv = vsize v ∧ d + vdeps lv = vdep v ∧ δ = [some (.d (.lst (ns.map .int))), some (.d (toD v)), a, b, some (.d (.int s)), some (.d (.int d)), some (.d (.lst (lv.map toD))), e, f, g]) ?_ (vsizes [v]) _ _ ⟨[v], 0, 0, _, _, _, rfl, by simp [vsizes], by simp [vdeps], rfl⟩
      rintro m δ M ⟨lv, s, d, e, f, g, rfl, h1, h2, rfl⟩
      simp only [W1_none, W1_some, Wl_none, Wl_some, Wd_none, Wd_some, Wb_none, Wb_some, W2_none, W2_nx, W2_rt, x_var, x_frz, x_cst, x_glb, x_evs0, x_evs1, x_ws0, x_ws1, x_tup, W1_fin, finQ_t, finQ_f, x_lst, x_bin, x_cat, x_ix, x_cmp, x_nt, x_neg, x_an, x_or, x_an0, x_or0, x_an1, x_or1, x_ite, x_call, x_bi, x_isi, x_nil, x_asg, x_unp, x_ret, x_ex, x_fr, x_setix, x_app, x_mkl, deref_d, ex_if, add_ii, sub_ii, mul_ii, mod_ii, div_ii, add_ss, add_ll, add_tt, mul_si, ix_li, ix_ti, ix_si, eq_ii, ne_ii, eq_ss, ne_ss, lt_ii, le_ii, gt_ii, ge_ii, lt_ss, le_ss, gt_ss, ge_ss, int_i, int_b, ord_c, len_s, len_t, len_l, tuple_t, tuple_l, map1, map2, ret_d, setL_eq, take_set', nope, ex_and, at0, at1, at2, at3, at4, at5, at6, at7, at8, at9, ix30, ix31, ix32, pow1018, ret_new, x_join, x_comp, x_evc0, x_evc1, Wo_nop, x_slc, sl_l, sl_t, sl_s, x_mdic, wk_l, wk_t, wk_s, wk_r1, wk_r2, wk_e, wk_zl, wk_zt, wk_vl, wk_vt, ok_none, bind_nm, wipe_cons, wipe_nil, wo_cst, wo_var, wo_glb, wo_neg, wo_bin, wo_ix, wo_bi, wo_call, wo_ite, isN_i, isN_s, isN_n, notN_i, notN_s, notN_n, max2_i, min2_i, pow1020, pow1019, List.map_cons, List.map_nil, List.cons_append, List.nil_append, List.append_nil, List.replicate_succ, List.replicate_zero, List.getElem?_cons_zero, List.getElem?_cons_succ, List.set_cons_zero, List.set_cons_succ, List.length_cons, List.length_nil, List.length_set, Option.some.injEq, W.d.injEq, W.m.injEq, D.int.injEq, D.bl.injEq, D.str.injEq, D.tup.injEq, D.lst.injEq, exists_eq_left', exists_eq_left, exists_eq, decide_eq_true_eq, and_true, true_and, if_true, if_false, Nat.reduceSub, Nat.reduceAdd, reduceCtorEq, false_and, exists_false, and_self, ite_true, ite_false, Bool.false_eq_true, Int.reduceLT, Int.reduceLE, Int.reduceNeg, Nat.reduceLeDiff, Int.toNat_zero, eq_self, x_ifs, List.length_map]
      by_cases h0 : lv = []
      · subst h0
        rw [if_neg (by simp)]
        have e1 : s = vsize v := by simpa [vsizes] using h1
        have e2 : d = vdep v := by simpa [vdeps] using h2
        rw [e1, e2]
        exact ⟨_, _, _, _, rfl⟩
      · have hpos : 0 < lv.length := List.length_pos_iff.mpr h0
        rw [if_pos (by omega)]
        have hb := sizes_below lv
        have hd2 := deps_below lv h0
        have hln := len_vsizes lv
        refine seq_cut (fun δ M => δ = [some (.d (.lst (ns.map .int))), some (.d (toD v)), a, b, some (.d (.int ((s + lv.length : Nat) : Int))), some (.d (.int d)), some (.d (.lst (lv.map toD))), e, f, g]) (by simp only [W1_none, W1_some, Wl_none, Wl_some, Wd_none, Wd_some, Wb_none, Wb_some, W2_none, W2_nx, W2_rt, x_var, x_frz, x_cst, x_glb, x_evs0, x_evs1, x_ws0, x_ws1, x_tup, W1_fin, finQ_t, finQ_f, x_lst, x_bin, x_cat, x_ix, x_cmp, x_nt, x_neg, x_an, x_or, x_an0, x_or0, x_an1, x_or1, x_ite, x_call, x_bi, x_isi, x_nil, x_asg, x_unp, x_ret, x_ex, x_fr, x_setix, x_app, x_mkl, deref_d, ex_if, add_ii, sub_ii, mul_ii, mod_ii, div_ii, add_ss, add_ll, add_tt, mul_si, ix_li, ix_ti, ix_si, eq_ii, ne_ii, eq_ss, ne_ss, lt_ii, le_ii, gt_ii, ge_ii, lt_ss, le_ss, gt_ss, ge_ss, int_i, int_b, ord_c, len_s, len_t, len_l, tuple_t, tuple_l, map1, map2, ret_d, setL_eq, take_set', nope, ex_and, at0, at1, at2, at3, at4, at5, at6, at7, at8, at9, ix30, ix31, ix32, pow1018, ret_new, x_join, x_comp, x_evc0, x_evc1, Wo_nop, x_slc, sl_l, sl_t, sl_s, x_mdic, wk_l, wk_t, wk_s, wk_r1, wk_r2, wk_e, wk_zl, wk_zt, wk_vl, wk_vt, ok_none, bind_nm, wipe_cons, wipe_nil, wo_cst, wo_var, wo_glb, wo_neg, wo_bin, wo_ix, wo_bi, wo_call, wo_ite, isN_i, isN_s, isN_n, notN_i, notN_s, notN_n, max2_i, min2_i, pow1020, pow1019, List.map_cons, List.map_nil, List.cons_append, List.nil_append, List.append_nil, List.replicate_succ, List.replicate_zero, List.getElem?_cons_zero, List.getElem?_cons_succ, List.set_cons_zero, List.set_cons_succ, List.length_cons, List.length_nil, List.length_set, Option.some.injEq, W.d.injEq, W.m.injEq, D.int.injEq, D.bl.injEq, D.str.injEq, D.tup.injEq, D.lst.injEq, exists_eq_left', exists_eq_left, exists_eq, decide_eq_true_eq, and_true, true_and, if_true, if_false, Nat.reduceSub, Nat.reduceAdd, reduceCtorEq, false_and, exists_false, and_self, ite_true, ite_false, Bool.false_eq_true, Int.reduceLT, Int.reduceLE, Int.reduceNeg, Nat.reduceLeDiff, Int.toNat_zero, eq_self, x_ifs, List.length_map]; rw [Int.natCast_add]) ?_
        rintro δ M rfl
        refine seq_cut (fun δ M => δ = [some (.d (.lst (ns.map .int))), some (.d (toD v)), a, b, some (.d (.int ((s + lv.length : Nat) : Int))), some (.d (.int ((d + 1 : Nat) : Int))), some (.d (.lst (lv.map toD))), e, f, g]) (by simp only [W1_none, W1_some, Wl_none, Wl_some, Wd_none, Wd_some, Wb_none, Wb_some, W2_none, W2_nx, W2_rt, x_var, x_frz, x_cst, x_glb, x_evs0, x_evs1, x_ws0, x_ws1, x_tup, W1_fin, finQ_t, finQ_f, x_lst, x_bin, x_cat, x_ix, x_cmp, x_nt, x_neg, x_an, x_or, x_an0, x_or0, x_an1, x_or1, x_ite, x_call, x_bi, x_isi, x_nil, x_asg, x_unp, x_ret, x_ex, x_fr, x_setix, x_app, x_mkl, deref_d, ex_if, add_ii, sub_ii, mul_ii, mod_ii, div_ii, add_ss, add_ll, add_tt, mul_si, ix_li, ix_ti, ix_si, eq_ii, ne_ii, eq_ss, ne_ss, lt_ii, le_ii, gt_ii, ge_ii, lt_ss, le_ss, gt_ss, ge_ss, int_i, int_b, ord_c, len_s, len_t, len_l, tuple_t, tuple_l, map1, map2, ret_d, setL_eq, take_set', nope, ex_and, at0, at1, at2, at3, at4, at5, at6, at7, at8, at9, ix30, ix31, ix32, pow1018, ret_new, x_join, x_comp, x_evc0, x_evc1, Wo_nop, x_slc, sl_l, sl_t, sl_s, x_mdic, wk_l, wk_t, wk_s, wk_r1, wk_r2, wk_e, wk_zl, wk_zt, wk_vl, wk_vt, ok_none, bind_nm, wipe_cons, wipe_nil, wo_cst, wo_var, wo_glb, wo_neg, wo_bin, wo_ix, wo_bi, wo_call, wo_ite, isN_i, isN_s, isN_n, notN_i, notN_s, notN_n, max2_i, min2_i, pow1020, pow1019, List.map_cons, List.map_nil, List.cons_append, List.nil_append, List.append_nil, List.replicate_succ, List.replicate_zero, List.getElem?_cons_zero, List.getElem?_cons_succ, List.set_cons_zero, List.set_cons_succ, List.length_cons, List.length_nil, List.length_set, Option.some.injEq, W.d.injEq, W.m.injEq, D.int.injEq, D.bl.injEq, D.str.injEq, D.tup.injEq, D.lst.injEq, exists_eq_left', exists_eq_left, exists_eq, decide_eq_true_eq, and_true, true_and, if_true, if_false, Nat.reduceSub, Nat.reduceAdd, reduceCtorEq, false_and, exists_false, and_self, ite_true, ite_false, Bool.false_eq_true, Int.reduceLT, Int.reduceLE, Int.reduceNeg, Nat.reduceLeDiff, Int.toNat_zero, eq_self, x_ifs]; rw [Int.natCast_add]; rfl) ?_
        rintro δ M rfl
        refine seq_cut (fun δ M => δ = [some (.d (.lst (ns.map .int))), some (.d (toD v)), a, b, some (.d (.int ((s + lv.length : Nat) : Int))), some (.d (.int ((d + 1 : Nat) : Int))), some (.d (.lst (lv.map toD))), some (.d (.lst [])), f, g]) (by simp only [W1_none, W1_some, Wl_none, Wl_some, Wd_none, Wd_some, Wb_none, Wb_some, W2_none, W2_nx, W2_rt, x_var, x_frz, x_cst, x_glb, x_evs0, x_evs1, x_ws0, x_ws1, x_tup, W1_fin, finQ_t, finQ_f, x_lst, x_bin, x_cat, x_ix, x_cmp, x_nt, x_neg, x_an, x_or, x_an0, x_or0, x_an1, x_or1, x_ite, x_call, x_bi, x_isi, x_nil, x_asg, x_unp, x_ret, x_ex, x_fr, x_setix, x_app, x_mkl, deref_d, ex_if, add_ii, sub_ii, mul_ii, mod_ii, div_ii, add_ss, add_ll, add_tt, mul_si, ix_li, ix_ti, ix_si, eq_ii, ne_ii, eq_ss, ne_ss, lt_ii, le_ii, gt_ii, ge_ii, lt_ss, le_ss, gt_ss, ge_ss, int_i, int_b, ord_c, len_s, len_t, len_l, tuple_t, tuple_l, map1, map2, ret_d, setL_eq, take_set', nope, ex_and, at0, at1, at2, at3, at4, at5, at6, at7, at8, at9, ix30, ix31, ix32, pow1018, ret_new, x_join, x_comp, x_evc0, x_evc1, Wo_nop, x_slc, sl_l, sl_t, sl_s, x_mdic, wk_l, wk_t, wk_s, wk_r1, wk_r2, wk_e, wk_zl, wk_zt, wk_vl, wk_vt, ok_none, bind_nm, wipe_cons, wipe_nil, wo_cst, wo_var, wo_glb, wo_neg, wo_bin, wo_ix, wo_bi, wo_call, wo_ite, isN_i, isN_s, isN_n, notN_i, notN_s, notN_n, max2_i, min2_i, pow1020, pow1019, List.map_cons, List.map_nil, List.cons_append, List.nil_append, List.append_nil, List.replicate_succ, List.replicate_zero, List.getElem?_cons_zero, List.getElem?_cons_succ, List.set_cons_zero, List.set_cons_succ, List.length_cons, List.length_nil, List.length_set, Option.some.injEq, W.d.injEq, W.m.injEq, D.int.injEq, D.bl.injEq, D.str.injEq, D.tup.injEq, D.lst.injEq, exists_eq_left', exists_eq_left, exists_eq, decide_eq_true_eq, and_true, true_and, if_true, if_false, Nat.reduceSub, Nat.reduceAdd, reduceCtorEq, false_and, exists_false, and_self, ite_true, ite_false, Bool.false_eq_true, Int.reduceLT, Int.reduceLE, Int.reduceNeg, Nat.reduceLeDiff, Int.toNat_zero, eq_self, x_ifs]) ?_
        rintro δ M rfl
        refine seq_cut (fun δ M => ∃ f, δ = [some (.d (.lst (ns.map .int))), some (.d (toD v)), a, b, some (.d (.int ((s + lv.length : Nat) : Int))), some (.d (.int ((d + 1 : Nat) : Int))), some (.d (.lst (lv.map toD))), some (.d (.lst ((below lv).map toD))), f, g]) ?_ ?_
        · simp only [W1_none, W1_some, Wl_none, Wl_some, Wd_none, Wd_some, Wb_none, Wb_some, W2_none, W2_nx, W2_rt, x_var, x_frz, x_cst, x_glb, x_evs0, x_evs1, x_ws0, x_ws1, x_tup, W1_fin, finQ_t, finQ_f, x_lst, x_bin, x_cat, x_ix, x_cmp, x_nt, x_neg, x_an, x_or, x_an0, x_or0, x_an1, x_or1, x_ite, x_call, x_bi, x_isi, x_nil, x_asg, x_unp, x_ret, x_ex, x_fr, x_setix, x_app, x_mkl, deref_d, ex_if, add_ii, sub_ii, mul_ii, mod_ii, div_ii, add_ss, add_ll, add_tt, mul_si, ix_li, ix_ti, ix_si, eq_ii, ne_ii, eq_ss, ne_ss, lt_ii, le_ii, gt_ii, ge_ii, lt_ss, le_ss, gt_ss, ge_ss, int_i, int_b, ord_c, len_s, len_t, len_l, tuple_t, tuple_l, map1, map2, ret_d, setL_eq, take_set', nope, ex_and, at0, at1, at2, at3, at4, at5, at6, at7, at8, at9, ix30, ix31, ix32, pow1018, ret_new, x_join, x_comp, x_evc0, x_evc1, Wo_nop, x_slc, sl_l, sl_t, sl_s, x_mdic, wk_l, wk_t, wk_s, wk_r1, wk_r2, wk_e, wk_zl, wk_zt, wk_vl, wk_vt, ok_none, bind_nm, wipe_cons, wipe_nil, wo_cst, wo_var, wo_glb, wo_neg, wo_bin, wo_ix, wo_bi, wo_call, wo_ite, isN_i, isN_s, isN_n, notN_i, notN_s, notN_n, max2_i, min2_i, pow1020, pow1019, List.map_cons, List.map_nil, List.cons_append, List.nil_append, List.append_nil, List.replicate_succ, List.replicate_zero, List.getElem?_cons_zero, List.getElem?_cons_succ, List.set_cons_zero, List.set_cons_succ, List.length_cons, List.length_nil, List.length_set, Option.some.injEq, W.d.injEq, W.m.injEq, D.int.injEq, D.bl.injEq, D.str.injEq, D.tup.injEq, D.lst.injEq, exists_eq_left', exists_eq_left, exists_eq, decide_eq_true_eq, and_true, true_and, if_true, if_false, Nat.reduceSub, Nat.reduceAdd, reduceCtorEq, false_and, exists_false, and_self, ite_true, ite_false, Bool.false_eq_true, Int.reduceLT, Int.reduceLE, Int.reduceNeg, Nat.reduceLeDiff, Int.toNat_zero, eq_self, x_ifs]
          refine w2_for (fun rest δ M => ∃ (t pre : List Vl) (f : Option W), rest = t.map toD ∧ pre ++ t = lv ∧ δ = [some (.d (.lst (ns.map .int))), some (.d (toD v)), a, b, some (.d (.int ((s + lv.length : Nat) : Int))), some (.d (.int ((d + 1 : Nat) : Int))), some (.d (.lst (lv.map toD))), some (.d (.lst ((below pre).map toD))), f, g]) ?_ ?_ _ _ _ ⟨lv, [], f, rfl, rfl, rfl⟩
          · rintro x rest δ M ⟨t, pre, f, ht, hp, rfl⟩
            cases t with
            | nil => cases ht
            | cons u t =>
              cases ht
              refine ⟨_, rfl, ?_⟩
              have hu : u ∈ lv := by rw [← hp]; simp
              have hu2 := vsize_mem hu
              simp only [W1_none, W1_some, Wl_none, Wl_some, Wd_none, Wd_some, Wb_none, Wb_some, W2_none, W2_nx, W2_rt, x_var, x_frz, x_cst, x_glb, x_evs0, x_evs1, x_ws0, x_ws1, x_tup, W1_fin, finQ_t, finQ_f, x_lst, x_bin, x_cat, x_ix, x_cmp, x_nt, x_neg, x_an, x_or, x_an0, x_or0, x_an1, x_or1, x_ite, x_call, x_bi, x_isi, x_nil, x_cons, x_asg, x_unp, x_ret, x_ex, x_ifs, x_fr, x_setix, x_app, x_mkl, deref_d, ex_if, add_ii, sub_ii, mul_ii, mod_ii, div_ii, add_ss, add_ll, add_tt, mul_si, ix_li, ix_ti, ix_si, eq_ii, ne_ii, eq_ss, ne_ss, lt_ii, le_ii, gt_ii, ge_ii, lt_ss, le_ss, gt_ss, ge_ss, int_i, int_b, ord_c, len_s, len_t, len_l, tuple_t, tuple_l, map1, map2, ret_d, setL_eq, take_set', nope, ex_and, at0, at1, at2, at3, at4, at5, at6, at7, at8, at9, ix30, ix31, ix32, pow1018, ret_new, x_join, x_comp, x_evc0, x_evc1, Wo_nop, x_slc, sl_l, sl_t, sl_s, x_mdic, wk_l, wk_t, wk_s, wk_r1, wk_r2, wk_e, wk_zl, wk_zt, wk_vl, wk_vt, ok_none, bind_nm, wipe_cons, wipe_nil, wo_cst, wo_var, wo_glb, wo_neg, wo_bin, wo_ix, wo_bi, wo_call, wo_ite, isN_i, isN_s, isN_n, notN_i, notN_s, notN_n, max2_i, min2_i, pow1020, pow1019, List.map_cons, List.map_nil, List.cons_append, List.nil_append, List.append_nil, List.replicate_succ, List.replicate_zero, List.getElem?_cons_zero, List.getElem?_cons_succ, List.set_cons_zero, List.set_cons_succ, List.length_cons, List.length_nil, List.length_set, Option.some.injEq, W.d.injEq, W.m.injEq, D.int.injEq, D.bl.injEq, D.str.injEq, D.tup.injEq, D.lst.injEq, exists_eq_left', exists_eq_left, exists_eq, decide_eq_true_eq, and_true, true_and, if_true, if_false, Nat.reduceSub, Nat.reduceAdd, reduceCtorEq, false_and, exists_false, and_self, ite_true, ite_false, Bool.false_eq_true, Int.reduceLT, Int.reduceLE, Int.reduceNeg, Nat.reduceLeDiff, Int.toNat_zero, eq_self]
              refine run_parts fn__law_parts (by omega) (by omega) ?_
              simp only [W1_none, W1_some, Wl_none, Wl_some, Wd_none, Wd_some, Wb_none, Wb_some, W2_none, W2_nx, W2_rt, x_var, x_frz, x_cst, x_glb, x_evs0, x_evs1, x_ws0, x_ws1, x_tup, W1_fin, finQ_t, finQ_f, x_lst, x_bin, x_cat, x_ix, x_cmp, x_nt, x_neg, x_an, x_or, x_an0, x_or0, x_an1, x_or1, x_ite, x_call, x_bi, x_isi, x_nil, x_cons, x_asg, x_unp, x_ret, x_ex, x_ifs, x_fr, x_setix, x_app, x_mkl, deref_d, ex_if, add_ii, sub_ii, mul_ii, mod_ii, div_ii, add_ss, add_ll, add_tt, mul_si, ix_li, ix_ti, ix_si, eq_ii, ne_ii, eq_ss, ne_ss, lt_ii, le_ii, gt_ii, ge_ii, lt_ss, le_ss, gt_ss, ge_ss, int_i, int_b, ord_c, len_s, len_t, len_l, tuple_t, tuple_l, map1, map2, ret_d, setL_eq, take_set', nope, ex_and, at0, at1, at2, at3, at4, at5, at6, at7, at8, at9, ix30, ix31, ix32, pow1018, ret_new, x_join, x_comp, x_evc0, x_evc1, Wo_nop, x_slc, sl_l, sl_t, sl_s, x_mdic, wk_l, wk_t, wk_s, wk_r1, wk_r2, wk_e, wk_zl, wk_zt, wk_vl, wk_vt, ok_none, bind_nm, wipe_cons, wipe_nil, wo_cst, wo_var, wo_glb, wo_neg, wo_bin, wo_ix, wo_bi, wo_call, wo_ite, isN_i, isN_s, isN_n, notN_i, notN_s, notN_n, max2_i, min2_i, pow1020, pow1019, List.map_cons, List.map_nil, List.cons_append, List.nil_append, List.append_nil, List.replicate_succ, List.replicate_zero, List.getElem?_cons_zero, List.getElem?_cons_succ, List.set_cons_zero, List.set_cons_succ, List.length_cons, List.length_nil, List.length_set, Option.some.injEq, W.d.injEq, W.m.injEq, D.int.injEq, D.bl.injEq, D.str.injEq, D.tup.injEq, D.lst.injEq, exists_eq_left', exists_eq_left, exists_eq, decide_eq_true_eq, and_true, true_and, if_true, if_false, Nat.reduceSub, Nat.reduceAdd, reduceCtorEq, false_and, exists_false, and_self, ite_true, ite_false, Bool.false_eq_true, Int.reduceLT, Int.reduceLE, Int.reduceNeg, Nat.reduceLeDiff, Int.toNat_zero, eq_self, List.length_map]
              have hlb : (below pre).length + (vparts u).length ≤ vsizes lv := by
                have e1 : vsizes lv = vsizes (pre ++ [u]) + vsizes t := by rw [← vsizes_app, ← hp]; simp
                have e2 := sizes_below (pre ++ [u])
                have e3 : below (pre ++ [u]) = below pre ++ vparts u := by simp [below]
                have e4 := len_vsizes (below pre ++ vparts u)
                rw [List.length_append] at e4
                rw [e3] at e2
                omega
              refine ⟨by show _ ≤ 16777216; omega, t, pre ++ [u], some (.d (toD u)), rfl, by rw [← hp]; simp, ?_⟩
              have e3 : below (pre ++ [u]) = below pre ++ vparts u := by simp [below]
              rw [e3, List.map_append]
          · rintro δ M ⟨t, pre, f, ht, hp, rfl⟩
            cases t with
            | cons _ _ => cases ht
            | nil =>
              rw [List.append_nil] at hp
              subst hp
              exact ⟨f, rfl⟩
        rintro δ M ⟨f, rfl⟩
        simp only [W1_none, W1_some, Wl_none, Wl_some, Wd_none, Wd_some, Wb_none, Wb_some, W2_none, W2_nx, W2_rt, x_var, x_frz, x_cst, x_glb, x_evs0, x_evs1, x_ws0, x_ws1, x_tup, W1_fin, finQ_t, finQ_f, x_lst, x_bin, x_cat, x_ix, x_cmp, x_nt, x_neg, x_an, x_or, x_an0, x_or0, x_an1, x_or1, x_ite, x_call, x_bi, x_isi, x_nil, x_cons, x_asg, x_unp, x_ret, x_ex, x_ifs, x_fr, x_setix, x_app, x_mkl, deref_d, ex_if, add_ii, sub_ii, mul_ii, mod_ii, div_ii, add_ss, add_ll, add_tt, mul_si, ix_li, ix_ti, ix_si, eq_ii, ne_ii, eq_ss, ne_ss, lt_ii, le_ii, gt_ii, ge_ii, lt_ss, le_ss, gt_ss, ge_ss, int_i, int_b, ord_c, len_s, len_t, len_l, tuple_t, tuple_l, map1, map2, ret_d, setL_eq, take_set', nope, ex_and, at0, at1, at2, at3, at4, at5, at6, at7, at8, at9, ix30, ix31, ix32, pow1018, ret_new, x_join, x_comp, x_evc0, x_evc1, Wo_nop, x_slc, sl_l, sl_t, sl_s, x_mdic, wk_l, wk_t, wk_s, wk_r1, wk_r2, wk_e, wk_zl, wk_zt, wk_vl, wk_vt, ok_none, bind_nm, wipe_cons, wipe_nil, wo_cst, wo_var, wo_glb, wo_neg, wo_bin, wo_ix, wo_bi, wo_call, wo_ite, isN_i, isN_s, isN_n, notN_i, notN_s, notN_n, max2_i, min2_i, pow1020, pow1019, List.map_cons, List.map_nil, List.cons_append, List.nil_append, List.append_nil, List.replicate_succ, List.replicate_zero, List.getElem?_cons_zero, List.getElem?_cons_succ, List.set_cons_zero, List.set_cons_succ, List.length_cons, List.length_nil, List.length_set, Option.some.injEq, W.d.injEq, W.m.injEq, D.int.injEq, D.bl.injEq, D.str.injEq, D.tup.injEq, D.lst.injEq, exists_eq_left', exists_eq_left, exists_eq, decide_eq_true_eq, and_true, true_and, if_true, if_false, Nat.reduceSub, Nat.reduceAdd, reduceCtorEq, false_and, exists_false, and_self, ite_true, ite_false, Bool.false_eq_true, Int.reduceLT, Int.reduceLE, Int.reduceNeg, Nat.reduceLeDiff, Int.toNat_zero, eq_self]
        exact ⟨vsizes (below lv), by omega, below lv, s + lv.length, d + 1, _, _, _, rfl, by omega, by omega, rfl⟩
    rintro δ M ⟨c, e, f, g, rfl⟩
    simp only [W1_none, W1_some, Wl_none, Wl_some, Wd_none, Wd_some, Wb_none, Wb_some, W2_none, W2_nx, W2_rt, x_var, x_frz, x_cst, x_glb, x_evs0, x_evs1, x_ws0, x_ws1, x_tup, W1_fin, finQ_t, finQ_f, x_lst, x_bin, x_cat, x_ix, x_cmp, x_nt, x_neg, x_an, x_or, x_an0, x_or0, x_an1, x_or1, x_ite, x_call, x_bi, x_isi, x_nil, x_asg, x_unp, x_ret, x_ex, x_fr, x_setix, x_app, x_mkl, deref_d, ex_if, add_ii, sub_ii, mul_ii, mod_ii, div_ii, add_ss, add_ll, add_tt, mul_si, ix_li, ix_ti, ix_si, eq_ii, ne_ii, eq_ss, ne_ss, lt_ii, le_ii, gt_ii, ge_ii, lt_ss, le_ss, gt_ss, ge_ss, int_i, int_b, ord_c, len_s, len_t, len_l, tuple_t, tuple_l, map1, map2, ret_d, setL_eq, take_set', nope, ex_and, at0, at1, at2, at3, at4, at5, at6, at7, at8, at9, ix30, ix31, ix32, pow1018, ret_new, x_join, x_comp, x_evc0, x_evc1, Wo_nop, x_slc, sl_l, sl_t, sl_s, x_mdic, wk_l, wk_t, wk_s, wk_r1, wk_r2, wk_e, wk_zl, wk_zt, wk_vl, wk_vt, ok_none, bind_nm, wipe_cons, wipe_nil, wo_cst, wo_var, wo_glb, wo_neg, wo_bin, wo_ix, wo_bi, wo_call, wo_ite, isN_i, isN_s, isN_n, notN_i, notN_s, notN_n, max2_i, min2_i, pow1020, pow1019, List.map_cons, List.map_nil, List.cons_append, List.nil_append, List.append_nil, List.replicate_succ, List.replicate_zero, List.getElem?_cons_zero, List.getElem?_cons_succ, List.set_cons_zero, List.set_cons_succ, List.length_cons, List.length_nil, List.length_set, Option.some.injEq, W.d.injEq, W.m.injEq, D.int.injEq, D.bl.injEq, D.str.injEq, D.tup.injEq, D.lst.injEq, exists_eq_left', exists_eq_left, exists_eq, decide_eq_true_eq, and_true, true_and, if_true, if_false, Nat.reduceSub, Nat.reduceAdd, reduceCtorEq, false_and, exists_false, and_self, ite_true, ite_false, Bool.false_eq_true, Int.reduceLT, Int.reduceLE, Int.reduceNeg, Nat.reduceLeDiff, Int.toNat_zero, eq_self, x_ifs, x_cons, List.length_nil]
    refine run_size 42 hd (by omega) (by omega) ?_
    simp only [W1_none, W1_some, Wl_none, Wl_some, Wd_none, Wd_some, Wb_none, Wb_some, W2_none, W2_nx, W2_rt, x_var, x_frz, x_cst, x_glb, x_evs0, x_evs1, x_ws0, x_ws1, x_tup, W1_fin, finQ_t, finQ_f, x_lst, x_bin, x_cat, x_ix, x_cmp, x_nt, x_neg, x_an, x_or, x_an0, x_or0, x_an1, x_or1, x_ite, x_call, x_bi, x_isi, x_nil, x_cons, x_asg, x_unp, x_ret, x_ex, x_ifs, x_fr, x_setix, x_app, x_mkl, deref_d, ex_if, add_ii, sub_ii, mul_ii, mod_ii, div_ii, add_ss, add_ll, add_tt, mul_si, ix_li, ix_ti, ix_si, eq_ii, ne_ii, eq_ss, ne_ss, lt_ii, le_ii, gt_ii, ge_ii, lt_ss, le_ss, gt_ss, ge_ss, int_i, int_b, ord_c, len_s, len_t, len_l, tuple_t, tuple_l, map1, map2, ret_d, setL_eq, take_set', nope, ex_and, at0, at1, at2, at3, at4, at5, at6, at7, at8, at9, ix30, ix31, ix32, pow1018, ret_new, x_join, x_comp, x_evc0, x_evc1, Wo_nop, x_slc, sl_l, sl_t, sl_s, x_mdic, wk_l, wk_t, wk_s, wk_r1, wk_r2, wk_e, wk_zl, wk_zt, wk_vl, wk_vt, ok_none, bind_nm, wipe_cons, wipe_nil, wo_cst, wo_var, wo_glb, wo_neg, wo_bin, wo_ix, wo_bi, wo_call, wo_ite, isN_i, isN_s, isN_n, notN_i, notN_s, notN_n, max2_i, min2_i, pow1020, pow1019, List.map_cons, List.map_nil, List.cons_append, List.nil_append, List.append_nil, List.replicate_succ, List.replicate_zero, List.getElem?_cons_zero, List.getElem?_cons_succ, List.set_cons_zero, List.set_cons_succ, List.length_cons, List.length_nil, List.length_set, Option.some.injEq, W.d.injEq, W.m.injEq, D.int.injEq, D.bl.injEq, D.str.injEq, D.tup.injEq, D.lst.injEq, exists_eq_left', exists_eq_left, exists_eq, decide_eq_true_eq, and_true, true_and, if_true, if_false, Nat.reduceSub, Nat.reduceAdd, reduceCtorEq, false_and, exists_false, and_self, ite_true, ite_false, Bool.false_eq_true, Int.reduceLT, Int.reduceLE, Int.reduceNeg, Nat.reduceLeDiff, Int.toNat_zero, eq_self]
    refine do_isint (by omega) ?_
    simp only [W1_none, W1_some, Wl_none, Wl_some, Wd_none, Wd_some, Wb_none, Wb_some, W2_none, W2_nx, W2_rt, x_var, x_frz, x_cst, x_glb, x_evs0, x_evs1, x_ws0, x_ws1, x_tup, W1_fin, finQ_t, finQ_f, x_lst, x_bin, x_cat, x_ix, x_cmp, x_nt, x_neg, x_an, x_or, x_an0, x_or0, x_an1, x_or1, x_ite, x_call, x_bi, x_isi, x_nil, x_cons, x_asg, x_unp, x_ret, x_ex, x_ifs, x_fr, x_setix, x_app, x_mkl, deref_d, ex_if, add_ii, sub_ii, mul_ii, mod_ii, div_ii, add_ss, add_ll, add_tt, mul_si, ix_li, ix_ti, ix_si, eq_ii, ne_ii, eq_ss, ne_ss, lt_ii, le_ii, gt_ii, ge_ii, lt_ss, le_ss, gt_ss, ge_ss, int_i, int_b, ord_c, len_s, len_t, len_l, tuple_t, tuple_l, map1, map2, ret_d, setL_eq, take_set', nope, ex_and, at0, at1, at2, at3, at4, at5, at6, at7, at8, at9, ix30, ix31, ix32, pow1018, ret_new, x_join, x_comp, x_evc0, x_evc1, Wo_nop, x_slc, sl_l, sl_t, sl_s, x_mdic, wk_l, wk_t, wk_s, wk_r1, wk_r2, wk_e, wk_zl, wk_zt, wk_vl, wk_vt, ok_none, bind_nm, wipe_cons, wipe_nil, wo_cst, wo_var, wo_glb, wo_neg, wo_bin, wo_ix, wo_bi, wo_call, wo_ite, isN_i, isN_s, isN_n, notN_i, notN_s, notN_n, max2_i, min2_i, pow1020, pow1019, List.map_cons, List.map_nil, List.cons_append, List.nil_append, List.append_nil, List.replicate_succ, List.replicate_zero, List.getElem?_cons_zero, List.getElem?_cons_succ, List.set_cons_zero, List.set_cons_succ, List.length_cons, List.length_nil, List.length_set, Option.some.injEq, W.d.injEq, W.m.injEq, D.int.injEq, D.bl.injEq, D.str.injEq, D.tup.injEq, D.lst.injEq, exists_eq_left', exists_eq_left, exists_eq, decide_eq_true_eq, and_true, true_and, if_true, if_false, Nat.reduceSub, Nat.reduceAdd, reduceCtorEq, false_and, exists_false, and_self, ite_true, ite_false, Bool.false_eq_true, Int.reduceLT, Int.reduceLE, Int.reduceNeg, Nat.reduceLeDiff, Int.toNat_zero, eq_self]
    rw [if_neg (by decide), if_neg (by simp)]
    refine run_depth 42 hd (by omega) (by omega) ?_
    simp only [W1_none, W1_some, Wl_none, Wl_some, Wd_none, Wd_some, Wb_none, Wb_some, W2_none, W2_nx, W2_rt, x_var, x_frz, x_cst, x_glb, x_evs0, x_evs1, x_ws0, x_ws1, x_tup, W1_fin, finQ_t, finQ_f, x_lst, x_bin, x_cat, x_ix, x_cmp, x_nt, x_neg, x_an, x_or, x_an0, x_or0, x_an1, x_or1, x_ite, x_call, x_bi, x_isi, x_nil, x_cons, x_asg, x_unp, x_ret, x_ex, x_ifs, x_fr, x_setix, x_app, x_mkl, deref_d, ex_if, add_ii, sub_ii, mul_ii, mod_ii, div_ii, add_ss, add_ll, add_tt, mul_si, ix_li, ix_ti, ix_si, eq_ii, ne_ii, eq_ss, ne_ss, lt_ii, le_ii, gt_ii, ge_ii, lt_ss, le_ss, gt_ss, ge_ss, int_i, int_b, ord_c, len_s, len_t, len_l, tuple_t, tuple_l, map1, map2, ret_d, setL_eq, take_set', nope, ex_and, at0, at1, at2, at3, at4, at5, at6, at7, at8, at9, ix30, ix31, ix32, pow1018, ret_new, x_join, x_comp, x_evc0, x_evc1, Wo_nop, x_slc, sl_l, sl_t, sl_s, x_mdic, wk_l, wk_t, wk_s, wk_r1, wk_r2, wk_e, wk_zl, wk_zt, wk_vl, wk_vt, ok_none, bind_nm, wipe_cons, wipe_nil, wo_cst, wo_var, wo_glb, wo_neg, wo_bin, wo_ix, wo_bi, wo_call, wo_ite, isN_i, isN_s, isN_n, notN_i, notN_s, notN_n, max2_i, min2_i, pow1020, pow1019, List.map_cons, List.map_nil, List.cons_append, List.nil_append, List.append_nil, List.replicate_succ, List.replicate_zero, List.getElem?_cons_zero, List.getElem?_cons_succ, List.set_cons_zero, List.set_cons_succ, List.length_cons, List.length_nil, List.length_set, Option.some.injEq, W.d.injEq, W.m.injEq, D.int.injEq, D.bl.injEq, D.str.injEq, D.tup.injEq, D.lst.injEq, exists_eq_left', exists_eq_left, exists_eq, decide_eq_true_eq, and_true, true_and, if_true, if_false, Nat.reduceSub, Nat.reduceAdd, reduceCtorEq, false_and, exists_false, and_self, ite_true, ite_false, Bool.false_eq_true, Int.reduceLT, Int.reduceLE, Int.reduceNeg, Nat.reduceLeDiff, Int.toNat_zero, eq_self]
    refine do_isint (by omega) ?_
    simp only [W1_none, W1_some, Wl_none, Wl_some, Wd_none, Wd_some, Wb_none, Wb_some, W2_none, W2_nx, W2_rt, x_var, x_frz, x_cst, x_glb, x_evs0, x_evs1, x_ws0, x_ws1, x_tup, W1_fin, finQ_t, finQ_f, x_lst, x_bin, x_cat, x_ix, x_cmp, x_nt, x_neg, x_an, x_or, x_an0, x_or0, x_an1, x_or1, x_ite, x_call, x_bi, x_isi, x_nil, x_cons, x_asg, x_unp, x_ret, x_ex, x_ifs, x_fr, x_setix, x_app, x_mkl, deref_d, ex_if, add_ii, sub_ii, mul_ii, mod_ii, div_ii, add_ss, add_ll, add_tt, mul_si, ix_li, ix_ti, ix_si, eq_ii, ne_ii, eq_ss, ne_ss, lt_ii, le_ii, gt_ii, ge_ii, lt_ss, le_ss, gt_ss, ge_ss, int_i, int_b, ord_c, len_s, len_t, len_l, tuple_t, tuple_l, map1, map2, ret_d, setL_eq, take_set', nope, ex_and, at0, at1, at2, at3, at4, at5, at6, at7, at8, at9, ix30, ix31, ix32, pow1018, ret_new, x_join, x_comp, x_evc0, x_evc1, Wo_nop, x_slc, sl_l, sl_t, sl_s, x_mdic, wk_l, wk_t, wk_s, wk_r1, wk_r2, wk_e, wk_zl, wk_zt, wk_vl, wk_vt, ok_none, bind_nm, wipe_cons, wipe_nil, wo_cst, wo_var, wo_glb, wo_neg, wo_bin, wo_ix, wo_bi, wo_call, wo_ite, isN_i, isN_s, isN_n, notN_i, notN_s, notN_n, max2_i, min2_i, pow1020, pow1019, List.map_cons, List.map_nil, List.cons_append, List.nil_append, List.append_nil, List.replicate_succ, List.replicate_zero, List.getElem?_cons_zero, List.getElem?_cons_succ, List.set_cons_zero, List.set_cons_succ, List.length_cons, List.length_nil, List.length_set, Option.some.injEq, W.d.injEq, W.m.injEq, D.int.injEq, D.bl.injEq, D.str.injEq, D.tup.injEq, D.lst.injEq, exists_eq_left', exists_eq_left, exists_eq, decide_eq_true_eq, and_true, true_and, if_true, if_false, Nat.reduceSub, Nat.reduceAdd, reduceCtorEq, false_and, exists_false, and_self, ite_true, ite_false, Bool.false_eq_true, Int.reduceLT, Int.reduceLE, Int.reduceNeg, Nat.reduceLeDiff, Int.toNat_zero, eq_self]
    trivial
  obtain ⟨w, M, e, rfl, rfl⟩ := this
  exact e
end Pv

namespace Pv
open PySem L2 PyProof.Rows

def top (i : Nat) : Stmt := PySem.Challenge.pw_patchkept_k02_size_and_depth.main.body.getD i (.Pass ⟨0, 0, 0, 0⟩)

theorem sc_parts_of : FnScope [S "value", S "field"] [S "value"] (defScope (top 1)) := ⟨rfl, rfl, rfl, by decide +kernel, rfl, by decide +kernel, by decide +kernel⟩
theorem ck_parts_of : chkSs [S "value", S "field"] (defScope (top 1)) d_parts_of.body (defBody (top 1)) = true := by decide +kernel
theorem sc_size_of : FnScope [S "value", S "part"] [S "value"] (defScope (top 2)) := ⟨rfl, rfl, rfl, by decide +kernel, rfl, by decide +kernel, by decide +kernel⟩
theorem ck_size_of : chkSs [S "value", S "part"] (defScope (top 2)) d_size_of.body (defBody (top 2)) = true := by decide +kernel
theorem sc_depth_of : FnScope [S "value", S "part"] [S "value"] (defScope (top 3)) := ⟨rfl, rfl, rfl, by decide +kernel, rfl, by decide +kernel, by decide +kernel⟩
theorem ck_depth_of : chkSs [S "value", S "part"] (defScope (top 3)) d_depth_of.body (defBody (top 3)) = true := by decide +kernel
theorem sc__law_parts : FnScope [S "_law_value_here", S "_law_field"] [S "_law_value_here"] (defScope (top 5)) := ⟨rfl, rfl, rfl, by decide +kernel, rfl, by decide +kernel, by decide +kernel⟩
theorem ck__law_parts : chkSs [S "_law_value_here", S "_law_field"] (defScope (top 5)) d_law_parts.body (defBody (top 5)) = true := by decide +kernel
theorem sc__law_with : FnScope [S "_law_value_here", S "_law_token", S "_law_new", S "_law_smaller", S "_law_greater", S "_law_field"] [S "_law_value_here", S "_law_token", S "_law_new"] (defScope (top 6)) := ⟨rfl, rfl, rfl, by decide +kernel, rfl, by decide +kernel, by decide +kernel⟩
theorem ck__law_with : chkSs [S "_law_value_here", S "_law_token", S "_law_new", S "_law_smaller", S "_law_greater", S "_law_field"] (defScope (top 6)) d_law_with.body (defBody (top 6)) = true := by decide +kernel
theorem sc__law_is_integer : FnScope [S "_law_number_here"] [S "_law_number_here"] (defScope (top 7)) := ⟨rfl, rfl, rfl, by decide +kernel, rfl, by decide +kernel, by decide +kernel⟩
theorem ck__law_is_integer : chkSs [S "_law_number_here"] (defScope (top 7)) d_law_is_integer.body (defBody (top 7)) = true := by decide +kernel
theorem sc__law_cell : FnScope [S "_law_script", S "_law_k"] [S "_law_script", S "_law_k"] (defScope (top 8)) := ⟨rfl, rfl, rfl, by decide +kernel, rfl, by decide +kernel, by decide +kernel⟩
theorem ck__law_cell : chkSs [S "_law_script", S "_law_k"] (defScope (top 8)) d_law_cell.body (defBody (top 8)) = true := by decide +kernel
theorem sc__law_source : FnScope [S "_law_cell_here"] [S "_law_cell_here"] (defScope (top 9)) := ⟨rfl, rfl, rfl, by decide +kernel, rfl, by decide +kernel, by decide +kernel⟩
theorem ck__law_source : chkSs [S "_law_cell_here"] (defScope (top 9)) d_law_source.body (defBody (top 9)) = true := by decide +kernel
theorem sc__law_draw : FnScope [S "_law_source_here", S "_law_many", S "_law_digit", S "_law_mixed"] [S "_law_source_here", S "_law_many"] (defScope (top 10)) := ⟨rfl, rfl, rfl, by decide +kernel, rfl, by decide +kernel, by decide +kernel⟩
theorem ck__law_draw : chkSs [S "_law_source_here", S "_law_many", S "_law_digit", S "_law_mixed"] (defScope (top 10)) d_law_draw.body (defBody (top 10)) = true := by decide +kernel
theorem sc__law_char : FnScope [S "_law_source_here", S "_law_chars"] [S "_law_source_here"] (defScope (top 11)) := ⟨rfl, rfl, rfl, by decide +kernel, rfl, by decide +kernel, by decide +kernel⟩
theorem ck__law_char : chkSs [S "_law_source_here", S "_law_chars"] (defScope (top 11)) d_law_char.body (defBody (top 11)) = true := by decide +kernel
theorem sc__law_name : FnScope [S "_law_source_here", S "_law_k", S "_law_j"] [S "_law_source_here"] (defScope (top 12)) := ⟨rfl, rfl, rfl, by decide +kernel, rfl, by decide +kernel, by decide +kernel⟩
theorem ck__law_name : chkSs [S "_law_source_here", S "_law_k", S "_law_j"] (defScope (top 12)) d_law_name.body (defBody (top 12)) = true := by decide +kernel
theorem sc__law_number : FnScope [S "_law_source_here", S "_law_k"] [S "_law_source_here"] (defScope (top 13)) := ⟨rfl, rfl, rfl, by decide +kernel, rfl, by decide +kernel, by decide +kernel⟩
theorem ck__law_number : chkSs [S "_law_source_here", S "_law_k"] (defScope (top 13)) d_law_number.body (defBody (top 13)) = true := by decide +kernel
theorem sc__law_leaf : FnScope [S "_law_source_here", S "_law_k"] [S "_law_source_here"] (defScope (top 14)) := ⟨rfl, rfl, rfl, by decide +kernel, rfl, by decide +kernel, by decide +kernel⟩
theorem ck__law_leaf : chkSs [S "_law_source_here", S "_law_k"] (defScope (top 14)) d_law_leaf.body (defBody (top 14)) = true := by decide +kernel
theorem sc__law_object : FnScope [S "_law_pairs", S "_law_made", S "_law_pair"] [S "_law_pairs"] (defScope (top 15)) := ⟨rfl, rfl, rfl, by decide +kernel, rfl, by decide +kernel, by decide +kernel⟩
theorem ck__law_object : chkSs [S "_law_pairs", S "_law_made", S "_law_pair"] (defScope (top 15)) d_law_object.body (defBody (top 15)) = true := by decide +kernel
theorem sc__law_value : FnScope [S "_law_source_here", S "_law_depth", S "_law_k", S "_law_j"] [S "_law_source_here", S "_law_depth"] (defScope (top 16)) := ⟨rfl, rfl, rfl, by decide +kernel, rfl, by decide +kernel, by decide +kernel⟩
theorem ck__law_value : chkSs [S "_law_source_here", S "_law_depth", S "_law_k", S "_law_j"] (defScope (top 16)) d_law_value.body (defBody (top 16)) = true := by decide +kernel
theorem sc_law : FnScope [S "_law_script", S "_law_value_here", S "_law_k", S "_law_items", S "_law_size", S "_law_depth", S "_law_level", S "_law_below", S "_law_item", S "_law_actual"] [S "_law_script"] (defScope (top 17)) := ⟨rfl, rfl, rfl, by decide +kernel, rfl, by decide +kernel, by decide +kernel⟩
theorem ck_law : chkSs [S "_law_script", S "_law_value_here", S "_law_k", S "_law_items", S "_law_size", S "_law_depth", S "_law_level", S "_law_below", S "_law_item", S "_law_actual"] (defScope (top 17)) d_law_k02.body (defBody (top 17)) = true := by decide +kernel
end Pv
open PySem PySem.W PyProof.Rows L2 Pv
set_option maxRecDepth 100000 in
set_option maxHeartbeats 0 in
theorem PySem.Challenge.cw_patchkept_k02_size_and_depth_holds : PySem.Challenge.rw_patchkept_k02_size_and_depth.Holds := by
  w_on; o_law; k_head; (case hw => w_witness2)
  k_fill
  refine Pv.end_walk (l := PySem.Challenge.rw_patchkept_k02_size_and_depth) (m := 63) (k := 230) (t := tbl) (gt := gtbl) (x := S "_law_script") rfl (by decide) rfl ⟨rfl, by decide, by decide⟩ rfl (fun w h Y => PySem.W.kIn_of Y) ?F (by decide) (fun ns h _ => law_true ns h)
  case F =>
    intro w mg h KX G
    refine ⟨?t, ?g, ?b, ?e⟩
    case t =>
      refine And.intro ?_ ?_
      · refine' Pv.def_mk KX G (nm := "parts_of") (st := top 1) sc_parts_of rfl rfl ck_parts_of (fun _ _ _ _ _ _ us hl => match us, hl with | [_], _ => rfl) ?a ?l ?c ?k
        (case a => k_is); (case l => k_is); (case c => k_is); (case k => k_is)
      refine And.intro ?_ ?_
      · refine' Pv.def_mk KX G (nm := "size_of") (st := top 2) sc_size_of rfl rfl ck_size_of (fun _ _ _ _ _ _ us hl => match us, hl with | [_], _ => rfl) ?a ?l ?c ?k
        (case a => k_is); (case l => k_is); (case c => k_is); (case k => k_is)
      refine And.intro ?_ ?_
      · refine' Pv.def_mk KX G (nm := "depth_of") (st := top 3) sc_depth_of rfl rfl ck_depth_of (fun _ _ _ _ _ _ us hl => match us, hl with | [_], _ => rfl) ?a ?l ?c ?k
        (case a => k_is); (case l => k_is); (case c => k_is); (case k => k_is)
      refine And.intro ?_ ?_
      · refine' Pv.def_mk KX G (nm := "_law_parts") (st := top 5) sc__law_parts rfl rfl ck__law_parts (fun _ _ _ _ _ _ us hl => match us, hl with | [_], _ => rfl) ?a ?l ?c ?k
        (case a => k_is); (case l => k_is); (case c => k_is); (case k => k_is)
      refine And.intro ?_ ?_
      · refine' Pv.def_mk KX G (nm := "_law_with") (st := top 6) sc__law_with rfl rfl ck__law_with (fun _ _ _ _ _ _ us hl => match us, hl with | [_, _, _], _ => rfl) ?a ?l ?c ?k
        (case a => k_is); (case l => k_is); (case c => k_is); (case k => k_is)
      refine And.intro ?_ ?_
      · refine' Pv.def_mk KX G (nm := "_law_is_integer") (st := top 7) sc__law_is_integer rfl rfl ck__law_is_integer (fun _ _ _ _ _ _ us hl => match us, hl with | [_], _ => rfl) ?a ?l ?c ?k
        (case a => k_is); (case l => k_is); (case c => k_is); (case k => k_is)
      refine And.intro ?_ ?_
      · refine' Pv.def_mk KX G (nm := "_law_cell") (st := top 8) sc__law_cell rfl rfl ck__law_cell (fun _ _ _ _ _ _ us hl => match us, hl with | [_, _], _ => rfl) ?a ?l ?c ?k
        (case a => k_is); (case l => k_is); (case c => k_is); (case k => k_is)
      refine And.intro ?_ ?_
      · refine' Pv.def_mk KX G (nm := "_law_source") (st := top 9) sc__law_source rfl rfl ck__law_source (fun _ _ _ _ _ _ us hl => match us, hl with | [_], _ => rfl) ?a ?l ?c ?k
        (case a => k_is); (case l => k_is); (case c => k_is); (case k => k_is)
      refine And.intro ?_ ?_
      · refine' Pv.def_mk KX G (nm := "_law_draw") (st := top 10) sc__law_draw rfl rfl ck__law_draw (fun _ _ _ _ _ _ us hl => match us, hl with | [_, _], _ => rfl) ?a ?l ?c ?k
        (case a => k_is); (case l => k_is); (case c => k_is); (case k => k_is)
      refine And.intro ?_ ?_
      · refine' Pv.def_mk KX G (nm := "_law_char") (st := top 11) sc__law_char rfl rfl ck__law_char (fun _ _ _ _ _ _ us hl => match us, hl with | [_], _ => rfl) ?a ?l ?c ?k
        (case a => k_is); (case l => k_is); (case c => k_is); (case k => k_is)
      refine And.intro ?_ ?_
      · refine' Pv.def_mk KX G (nm := "_law_name") (st := top 12) sc__law_name rfl rfl ck__law_name (fun _ _ _ _ _ _ us hl => match us, hl with | [_], _ => rfl) ?a ?l ?c ?k
        (case a => k_is); (case l => k_is); (case c => k_is); (case k => k_is)
      refine And.intro ?_ ?_
      · refine' Pv.def_mk KX G (nm := "_law_number") (st := top 13) sc__law_number rfl rfl ck__law_number (fun _ _ _ _ _ _ us hl => match us, hl with | [_], _ => rfl) ?a ?l ?c ?k
        (case a => k_is); (case l => k_is); (case c => k_is); (case k => k_is)
      refine And.intro ?_ ?_
      · refine' Pv.def_mk KX G (nm := "_law_leaf") (st := top 14) sc__law_leaf rfl rfl ck__law_leaf (fun _ _ _ _ _ _ us hl => match us, hl with | [_], _ => rfl) ?a ?l ?c ?k
        (case a => k_is); (case l => k_is); (case c => k_is); (case k => k_is)
      refine And.intro ?_ ?_
      · refine' Pv.def_mk KX G (nm := "_law_object") (st := top 15) sc__law_object rfl rfl ck__law_object (fun _ _ _ _ _ _ us hl => match us, hl with | [_], _ => rfl) ?a ?l ?c ?k
        (case a => k_is); (case l => k_is); (case c => k_is); (case k => k_is)
      refine And.intro ?_ ?_
      · refine' Pv.def_mk KX G (nm := "_law_value") (st := top 16) sc__law_value rfl rfl ck__law_value (fun _ _ _ _ _ _ us hl => match us, hl with | [_, _], _ => rfl) ?a ?l ?c ?k
        (case a => k_is); (case l => k_is); (case c => k_is); (case k => k_is)
      refine And.intro ?_ ?_
      · refine' Pv.def_mk KX G (nm := "law") (st := top 17) sc_law rfl rfl ck_law (fun _ _ _ _ _ _ us hl => match us, hl with | [_], _ => rfl) ?a ?l ?c ?k
        (case a => k_is); (case l => k_is); (case c => k_is); (case k => k_is)
      exact True.intro
    case g =>
      exact True.intro
    case b =>
      exact List.forall_mem_cons.2 ⟨by k_is, List.forall_mem_cons.2 ⟨by k_is, List.forall_mem_cons.2 ⟨by k_is, List.forall_mem_cons.2 ⟨by k_is, List.forall_mem_cons.2 ⟨by k_is, List.forall_mem_cons.2 ⟨by k_is, List.forall_mem_cons.2 ⟨by k_is, List.forall_mem_cons.2 ⟨by k_is, List.forall_mem_cons.2 ⟨by k_is, List.forall_mem_cons.2 ⟨by k_is, List.forall_mem_cons.2 ⟨by k_is, List.forall_mem_cons.2 ⟨by k_is, List.forall_mem_cons.2 ⟨by k_is, List.forall_mem_cons.2 ⟨by k_is, List.forall_mem_cons.2 ⟨by k_is, List.forall_mem_cons.2 ⟨by k_is, List.forall_mem_cons.2 ⟨by k_is, List.forall_mem_cons.2 ⟨by k_is, fun _ h => nomatch h⟩⟩⟩⟩⟩⟩⟩⟩⟩⟩⟩⟩⟩⟩⟩⟩⟩⟩
    case e =>
      refine' Pv.law_mk KX G (st := top 17) (fn := d_law_k02) rfl sc_law rfl rfl ck_law (fun _ _ _ _ _ _ u s => .of_eq rfl) ?a ?l ?c ?k
      (case a => k_is); (case l => k_is); (case c => k_is); (case k => k_is)
