import PyProof.Rows.All
import Wide.All
import OpenK.AllK
import Wide.FinOn
import HandS.ForMost
import HandS.ForExc
import HandS.TupMul
import HandS.Flow
import HandS.Style
import HandS.IsInst
import HandS.Deep
import HandS.TupAny
import HandS.Wide
import HandS.WideBits
import HandS.SortInts
import HandS.SortRule
import HandS.Walk
import HandS.WordsExc
import HandS.Zip
import HandS.Conv
import KE.GoesEnum
import HandS.SetFor
import HandS.Strs
import HandS.ExcOwn
import HandS.HeadHook2
import HandS.EndBits
import HandS.Head0
import HandS.Head1
import HandS.Head2
import HandS.HeadEnd
import HandS.HeadHook1
import PySem.Challenge.RW_spotmarks_k38_whole_more_marks_for_ties
set_option Elab.async false
set_option linter.all false
set_option maxRecDepth 100000
/-! Ir: a small language of defs over plain data, and what it computes. Pure: no heap, no machine. -/
namespace Q
open PySem

abbrev D := PyData

/-- what an evaluation comes to: a value, an exception of a class (by its name), nothing that is served -/
inductive R (α : Type) where
  | ok (a : α)
  | exc (c : String)
  | bad
def R.bind {α β : Type} (x : R α) (f : α → R β) : R β := match x with
  | .ok a => f a
  | .exc c => .exc c
  | .bad => .bad
instance : Monad R where
  pure := R.ok
  bind := R.bind
@[simp] theorem R.ok_bind {α β : Type} (a : α) (f : α → R β) : ((R.ok a : R α) >>= f) = f a := rfl
@[simp] theorem R.exc_bind {α β : Type} (c : String) (f : α → R β) : ((R.exc c : R α) >>= f) = R.exc c := rfl
@[simp] theorem R.bad_bind {α β : Type} (f : α → R β) : ((R.bad : R α) >>= f) = R.bad := rfl
@[simp] theorem R.pure_eq {α : Type} (a : α) : (pure a : R α) = R.ok a := rfl

/-- what a slot holds: data that never changes, or a list that is this slot's own -/
inductive O where
  | fz (d : D)
  | ol (os : List O)

/-- the script: a list of ints that stands outside -/
abbrev scr (ns : List Int) : D := .dict (ns.map fun n => (.int n, .none))

inductive BOp where | add | sub | mul | mod | fdiv | shl | shr | band
inductive COp where | lt | le | gt | ge | eq | ne | in_ | nin | is_ | isn
inductive Bi where | len | int | abs | max2 | min2 | tuple | list | sorted | all | any | sum | max1 | min1
inductive Ty where | int | bool | tuple | str

inductive Tg where
  | n (i : Nat)
  | nil
  | cons (t : Tg) (ts : Tg)

mutual
inductive E where
  | var (i : Nat)
  | non
  | bl (b : Bool)
  | int (i : Int)
  | str (s : String)
  | bin (o : BOp) (a b : E)
  | cmp (o : COp) (a b : E)
  | cmp2 (o p : COp) (a b c : E)
  | isN (neg : Bool) (a : E)
  | and (a b : E)
  | or (a b : E)
  | not (a : E)
  | neg (a : E)
  | ite (c a b : E)
  | tup (es : Es)
  | lst (es : Es)
  | ix (a b : E)
  | sl (a : E) (lo hi : Oe)
  | call (f : String) (es : Es)
  | bi (b : Bi) (es : Es)
  | isi (a : E) (t : Ty)
  | idx (i : Nat) (b : E)
  | sset (a : E)
  | cmp3 (o p q : COp) (a b c d : E)
  | rev (two : Bool) (a : E)
  | comp (tg : Tg) (own : List (String × Nat)) (it : It) (c : Oe) (e : E)
  | rg1 (t : Bool) (a : E)
  | rg2 (t : Bool) (a b : E)
inductive Es where
  | nil
  | cons (e : E) (es : Es)
inductive Oe where
  | no
  | so (e : E)
inductive It where
  | seq (e : E)
  | seqo (e : E)
  | rng1 (a : E)
  | rng2 (a b : E)
  | enum (a : E)
  | zip (a b : E)
end

def Es.len : Es → Nat
  | .nil => 0
  | .cons _ es => es.len + 1
abbrev Env := List (Option O)

mutual
def O.toD : O → D
  | .fz d => d
  | .ol os => .list (O.toDs os)
def O.toDs : List O → List D
  | [] => []
  | o :: os => o.toD :: O.toDs os
end
/-- the items of a list, all of them data -/
def fzAll : List O → R (List D)
  | [] => .ok []
  | .fz d :: os => do let ds ← fzAll os; .ok (d :: ds)
  | .ol _ :: _ => .bad
/-- data that may be kept -/
def O.asD : O → R D
  | .fz d => .ok d
  | .ol _ => .bad

def truth : D → R Bool
  | .none => .ok false
  | .bool b => .ok b
  | .int i => .ok (decide (i ≠ 0))
  | .list ds => .ok (!ds.isEmpty)
  | .tuple ds => .ok (!ds.isEmpty)
  | _ => .bad
/-- the items of a list or a tuple (borrowed) -/
def O.items : O → R (List D)
  | .fz (.list ds) => .ok ds
  | .fz (.tuple ds) => .ok ds
  | .ol os => fzAll os
  | _ => .bad

def asInt : D → R Int
  | .int i => .ok i
  | _ => .bad
def mulOk (i j : Int) : Bool := decide (i.natAbs.log2 + j.natAbs.log2 < 100000000)
def divOk (j : Int) : Bool := decide (0 < j ∧ j.natAbs.log2 < 9000)
def shlOk (i j : Int) : Bool := decide (0 ≤ j ∧ j ≤ 1000 ∧ i.natAbs < 2 ^ 64)
def szOk (n : Nat) : Bool := decide (n ≤ 1000000)
/-- a tuple so many times -/
def repOk (n : Nat) (k : Int) : Bool := decide (0 ≤ k ∧ k ≤ 1000 ∧ n ≤ 1000)
def bop : BOp → D → D → R D
  | .add, .int i, .int j => .ok (.int (i + j))
  | .add, .list xs, .list ys => if szOk (xs.length + ys.length) then .ok (.list (xs ++ ys)) else .bad
  | .add, .tuple xs, .tuple ys => if szOk (xs.length + ys.length) then .ok (.tuple (xs ++ ys)) else .bad
  | .sub, .int i, .int j => .ok (.int (i - j))
  | .mul, .int i, .int j => if mulOk i j then .ok (.int (i * j)) else .bad
  | .mul, .tuple xs, .int k => if repOk xs.length k then .ok (.tuple (List.replicate k.toNat xs).flatten) else .bad
  | .mod, .int i, .int j => if decide (0 < j) then .ok (.int (i % j)) else .bad
  | .fdiv, .int i, .int j => if divOk j then .ok (.int (i / j)) else .bad
  | .shl, .int i, .int j => if shlOk i j then .ok (.int (i * 2 ^ j.toNat)) else .bad
  | .shr, .int i, .int j => if decide (0 ≤ j) then .ok (.int (i / 2 ^ j.toNat)) else .bad
  | .band, .int i, .int j => if decide (0 ≤ i ∧ j = 1) then .ok (.int (i % 2)) else .bad
  | _, _, _ => .bad

/-- ints of a list -/
def ints? : List D → Option (List Int)
  | [] => some []
  | .int i :: ds => (ints? ds).map (i :: ·)
  | _ :: _ => none
def bools? : List D → Option (List Bool)
  | [] => some []
  | .bool b :: ds => (bools? ds).map (b :: ·)
  | _ :: _ => none
def intRows? : List D → Option (List (List Int))
  | [] => some []
  | .tuple ds :: r => match ints? ds, intRows? r with
    | some x, some y => some (x :: y)
    | _, _ => none
  | _ :: _ => none
def lexLt : List Int → List Int → Bool
  | [], [] => false
  | [], _ :: _ => true
  | _ :: _, [] => false
  | x :: xs, y :: ys => if x = y then lexLt xs ys else decide (x < y)
def insI (x : Int) : List Int → List Int
  | [] => [x]
  | y :: ys => if x ≤ y then x :: y :: ys else y :: insI x ys
def sortI : List Int → List Int
  | [] => []
  | x :: xs => insI x (sortI xs)
def insR (x : List Int) : List (List Int) → List (List Int)
  | [] => [x]
  | y :: ys => if lexLt y x then y :: insR x ys else x :: y :: ys
def sortR : List (List Int) → List (List Int)
  | [] => []
  | x :: xs => insR x (sortR xs)
/-- pairs of an int and a tuple of ints -/
def ptRows? : List D → Option (List (List Int))
  | [] => some []
  | .tuple [.int x, .tuple ds] :: r => match ints? ds, ptRows? r with
    | some ns, some y => some ((x :: ns) :: y)
    | _, _ => none
  | _ :: _ => none
def ptD : List Int → D
  | x :: ns => .tuple [.int x, .tuple (ns.map .int)]
  | [] => .none
/-- the ints of a list, each once, rising -/
def insU (x : Int) : List Int → List Int
  | [] => [x]
  | y :: ys => if x < y then x :: y :: ys else if x = y then y :: ys else y :: insU x ys
def usortI : List Int → List Int
  | [] => []
  | x :: xs => insU x (usortI xs)
/-- sorted(..) of ints, of pairs of ints, of pairs of an int and a tuple of ints -/
def sortD (ds : List D) : R (List D) := match ints? ds with
  | some ns => .ok ((sortI ns).map .int)
  | none => match intRows? ds with
    | some rs => if rs.all (fun r => r.length == 2) then .ok ((sortR rs).map fun r => .tuple (r.map .int)) else .bad
    | none => match ptRows? ds with
      | some rs => .ok ((sortR rs).map ptD)
      | none => .bad

def cop : COp → D → D → R Bool
  | .lt, .int i, .int j => .ok (decide (i < j))
  | .le, .int i, .int j => .ok (decide (i ≤ j))
  | .gt, .int i, .int j => .ok (decide (j < i))
  | .ge, .int i, .int j => .ok (decide (j ≤ i))
  | .lt, .tuple xs, .tuple ys => match ints? xs, ints? ys with
    | some x, some y => .ok (lexLt x y)
    | _, _ => .bad
  | .eq, x, y => if SeqAt.shaped x && SeqAt.shaped y then .ok (PyData.eqv x y) else .bad
  | .ne, x, y => if SeqAt.shaped x && SeqAt.shaped y then .ok (!PyData.eqv x y) else .bad
  | .in_, x, .list ds => if SeqAt.shaped x && SeqAt.shaped (.list ds) then .ok (ds.any fun z => PyData.eqv z x) else .bad
  | .nin, x, .list ds => if SeqAt.shaped x && SeqAt.shaped (.list ds) then .ok (!ds.any fun z => PyData.eqv z x) else .bad
  | .in_, x, .tuple ds => if SeqAt.shaped x && SeqAt.shaped (.tuple ds) then .ok (ds.any fun z => PyData.eqv z x) else .bad
  | .nin, x, .tuple ds => if SeqAt.shaped x && SeqAt.shaped (.tuple ds) then .ok (!ds.any fun z => PyData.eqv z x) else .bad
  | .is_, .bool a, .bool b => .ok (decide (a = b))
  | .isn, .bool a, .bool b => .ok (!decide (a = b))
  | _, _, _ => .bad

def isNone : D → Bool
  | .none => true
  | _ => false
def isTy : Ty → D → Bool
  | .int, .int _ => true
  | .int, .bool _ => true
  | .bool, .bool _ => true
  | .tuple, .tuple _ => true
  | .str, .str _ => true
  | _, _ => false

/-- built-ins over borrowed values -/
def bi : Bi → List O → R D
  | .len, [o] => do let ds ← (match o with
      | .ol os => R.ok os.length
      | .fz (.dict kvs) => R.ok kvs.length
      | o => (do let ds ← o.items; R.ok ds.length)); .ok (.int (ds : Nat))
  | .int, [.fz (.int i)] => .ok (.int i)
  | .int, [.fz (.bool b)] => .ok (.int (if b then 1 else 0))
  | .abs, [.fz (.int i)] => .ok (.int (if i < 0 then -i else i))
  | .max2, [.fz (.int i), .fz (.int j)] => .ok (.int (if j > i then j else i))
  | .min2, [.fz (.int i), .fz (.int j)] => .ok (.int (if j < i then j else i))
  | .tuple, [o] => do let ds ← o.items; .ok (.tuple ds)
  | .list, [o] => do let ds ← o.items; .ok (.list ds)
  | .sorted, [o] => do let ds ← o.items; let es ← sortD ds; .ok (.list es)
  | .all, [.fz (.list ds)] => match bools? ds with
    | some bs => .ok (.bool (bs.all id))
    | none => .bad
  | .any, [.fz (.list ds)] => match bools? ds with
    | some bs => .ok (.bool (bs.any id))
    | none => .bad
  | .sum, [.fz (.list ds)] => match ints? ds with
    | some ns => .ok (.int ns.sum)
    | none => .bad
  | .max1, [.fz (.list ds)] => match ints? ds with
    | some (n :: ns) => .ok (.int (ns.foldl max n))
    | _ => .bad
  | .min1, [.fz (.list ds)] => match ints? ds with
    | some (n :: ns) => .ok (.int (ns.foldl min n))
    | _ => .bad
  | _, _ => .bad

/-- an item -/
def O.at (o : O) (i : Int) : R O := match o with
  | .ol os => match L2.atI os i with
    | some o => .ok o
    | none => .bad
  | .fz (.list ds) => match L2.atI ds i with
    | some d => .ok (.fz d)
    | none => .bad
  | .fz (.tuple ds) => match L2.atI ds i with
    | some d => .ok (.fz d)
    | none => .bad
  | .fz (.dict kvs) => match L2.atI kvs i with
    | some kv => .ok (.fz kv.1)
    | none => .bad
  | _ => .bad
def cutD {α : Type} (xs : List α) (lo hi : Option Int) : List α := (xs.drop (HT.sIx xs.length 0 lo)).take (HT.sIx xs.length xs.length hi - HT.sIx xs.length 0 lo)
def O.cut (o : O) (lo hi : Option Int) : R D := match o with
  | .ol os => do let ds ← fzAll os; .ok (.list (cutD ds lo hi))
  | .fz (.list ds) => .ok (.list (cutD ds lo hi))
  | .fz (.tuple ds) => .ok (.tuple (cutD ds lo hi))
  | .fz (.dict kvs) => .ok (.list (cutD (kvs.map (·.1)) lo hi))
  | _ => .bad

/-- targets take data: .n i takes one -/
def Tg.puts : Tg → List D → Env → R Env
  | .n i, ds, g => match ds with
    | [d] => if decide (i < g.length) then .ok (g.set i (some (.fz d))) else .bad
    | _ => .bad
  | .nil, ds, g => if ds.isEmpty then .ok g else .bad
  | .cons t ts, ds, g => match ds with
    | d :: ds => (match t with
        | .n _ => t.puts [d] g
        | _ => match d with
          | .tuple es => t.puts es g
          | _ => .bad) >>= fun g => ts.puts ds g
    | [] => .bad
def Tg.put (t : Tg) (d : D) (g : Env) : R Env := match t with
  | .n _ => t.puts [d] g
  | _ => match d with
    | .tuple es => t.puts es g
    | _ => .bad
theorem Tg.puts_cons {t ts : Tg} {d : D} {ds : List D} {g : Env} : (Tg.cons t ts).puts (d :: ds) g = (t.put d g >>= fun g => ts.puts ds g) := by
  cases t <;> rfl
def wipe (g : Env) : List Nat → Env
  | [] => g
  | v :: vs => (wipe g vs).set v none

def Tg.slots : Tg → List Nat
  | .n i => [i]
  | .nil => []
  | .cons t ts => t.slots ++ ts.slots
/-- [.. for .. in items if ..] -/
def compL (f : D → R (Option D)) : List D → R (List D)
  | [] => .ok []
  | d :: ds => match f d with
    | .ok (some x) => do let xs ← compL f ds; .ok (x :: xs)
    | .ok none => compL f ds
    | _ => .bad

def rngD (lo : Int) (n : Nat) : List D := (List.range n).map fun (i : Nat) => .int (lo + i)
def rngOk (i : Int) : Bool := decide (-(2 ^ 62) ≤ i ∧ i < 2 ^ 62)
/-- a list or a tuple of them -/
def rgD (t : Bool) (i j : Int) : R O := if rngOk i && rngOk j && szOk (j - i).toNat then .ok (.fz (if t then .tuple (rngD i (j - i).toNat) else .list (rngD i (j - i).toNat))) else .bad
def enumD : Nat → List D → List D
  | _, [] => []
  | i, d :: ds => .tuple [.int i, d] :: enumD (i + 1) ds
def zipD : List D → List D → List D
  | x :: xs, y :: ys => .tuple [x, y] :: zipD xs ys
  | _, _ => []

/-- a slot's value -/
def slotV (g : Env) (i : Nat) : R O := match g[i]? with
  | some (some o) => .ok o
  | _ => .bad
/-- where an item stands first -/
def lstD : D → R (List D)
  | .list ds => .ok ds
  | _ => .bad
def idxD (ds : List D) (y : D) : R O := if SeqAt.shaped (.list ds) && SeqAt.shaped y then (match ds.findIdx? (fun z => PyData.eqv z y) with
    | some j => .ok (.fz (.int (j : Nat)))
    | none => .bad) else .bad
/-- sorted(set(..)) of ints -/
def ssetOk (ns : List Int) : Bool := decide (ns.length ≤ 1000 ∧ (usortI ns).length < 64)
def ssetD (ds : List D) : R O := match ints? ds with
  | some ns => if ssetOk ns then .ok (.fz (.list ((usortI ns).map .int))) else .bad
  | none => .bad
/-- t[::-1], t[1::-1] -/
def revC (two : Bool) (n : Nat) : Nat := if two then min 2 n else n
def revD (two : Bool) : D → R O
  | .tuple ds => .ok (.fz (.tuple ((ds.take (revC two ds.length)).reverse)))
  | _ => .bad
section
variable (cd : String → List D → R D)
mutual
/-- what an expression is worth (names and items of one's own lists are borrowed) -/
def E.ev : E → Env → R O
  | .var i, g => match g[i]? with
    | some (some o) => .ok o
    | _ => .bad
  | .non, _ => .ok (.fz .none)
  | .bl b, _ => .ok (.fz (.bool b))
  | .int i, _ => .ok (.fz (.int i))
  | .str s, _ => .ok (.fz (.str (Str.ofString s)))
  | .bin o a b, g => do
    let x ← (E.ev a g) >>= O.asD
    let y ← (E.ev b g) >>= O.asD
    let z ← bop o x y
    .ok (.fz z)
  | .cmp o a b, g => do
    let x ← (E.ev a g) >>= O.asD
    let y ← E.ev b g
    let z ← cop o x y.toD
    .ok (.fz (.bool z))
  | .cmp2 o p a b c, g => do
    let x ← (E.ev a g) >>= O.asD
    let y ← (E.ev b g) >>= O.asD
    let z ← cop o x y
    if z then do
      let w ← (E.ev c g) >>= O.asD
      let r ← cop p y w
      .ok (.fz (.bool r))
    else .ok (.fz (.bool false))
  | .isN neg a, g => do
    let x ← (E.ev a g) >>= O.asD
    .ok (.fz (.bool (neg ^^ isNone x)))
  | .and a b, g => do
    let x ← (E.ev a g) >>= O.asD
    match x with
    | .bool true => E.ev b g
    | .bool false => .ok (.fz (.bool false))
    | _ => .bad
  | .or a b, g => do
    let x ← (E.ev a g) >>= O.asD
    match x with
    | .bool false => E.ev b g
    | .bool true => .ok (.fz (.bool true))
    | _ => .bad
  | .not a, g => do
    let x ← E.ev a g
    let b ← truth x.toD
    .ok (.fz (.bool (!b)))
  | .neg a, g => do
    let x ← (E.ev a g) >>= O.asD
    let i ← asInt x
    .ok (.fz (.int (-i)))
  | .ite c a b, g => do
    let x ← E.ev c g
    let t ← truth x.toD
    if t then E.ev a g else E.ev b g
  | .tup es, g => do let os ← Es.evo es g; let ds ← fzAll os; .ok (.fz (.tuple ds))
  | .lst es, g => do let os ← Es.evo es g; let ds ← fzAll os; .ok (.fz (.list ds))
  | .ix a b, g => do
    let x ← E.ev a g
    let y ← (E.ev b g) >>= O.asD
    let i ← asInt y
    x.at i
  | .sl a lo hi, g => do
    let x ← E.ev a g
    let l ← Oe.evi lo g
    let h ← Oe.evi hi g
    let d ← x.cut l h
    .ok (.fz d)
  | .call f es, g => do
    let os ← Es.evo es g
    let ds ← fzAll os
    let d ← cd f ds
    .ok (.fz d)
  | .bi b es, g => do
    let os ← Es.evo es g
    let d ← bi b os
    .ok (.fz d)
  | .isi a t, g => do
    let x ← (E.ev a g) >>= O.asD
    match x with
    | .dict _ => .bad
    | x => .ok (.fz (.bool (isTy t x)))
  | .idx i b, g => do
    let ds ← (slotV g i >>= O.asD) >>= lstD
    let y ← (E.ev b g) >>= O.asD
    idxD ds y
  | .sset a, g => do
    let x ← E.ev a g
    let ds ← x.items
    ssetD ds
  | .cmp3 o p q a b c d, g => do
    let x ← (E.ev a g) >>= O.asD
    let y ← (E.ev b g) >>= O.asD
    let z ← cop o x y
    if z then do
      let w ← (E.ev c g) >>= O.asD
      let r ← cop p y w
      if r then do
        let u ← (E.ev d g) >>= O.asD
        let t ← cop q w u
        .ok (.fz (.bool t))
      else .ok (.fz (.bool false))
    else .ok (.fz (.bool false))
  | .rev two a, g => do
    let x ← (E.ev a g) >>= O.asD
    revD two x
  | .comp tg own it c e, g => do
    let ds ← It.evi it g
    if szOk ds.length then do
      let r ← compL (fun d => do
        let g1 ← tg.put d (wipe g (own.map (·.2)))
        let k ← Oe.evt c g1
        if k then do
          let x ← (E.ev e g1) >>= O.asD
          .ok (some x)
        else .ok none) ds
      .ok (.fz (.list r))
    else .bad
  | .rg1 t a, g => do
    let x ← (E.ev a g) >>= O.asD
    let j ← asInt x
    rgD t 0 j
  | .rg2 t a b, g => do
    let x ← (E.ev a g) >>= O.asD
    let i ← asInt x
    let y ← (E.ev b g) >>= O.asD
    let j ← asInt y
    rgD t i j
def Es.evo : Es → Env → R (List O)
  | .nil, _ => .ok []
  | .cons e es, g => do
    let d ← E.ev e g
    let ds ← Es.evo es g
    .ok (d :: ds)
def Oe.evi : Oe → Env → R (Option Int)
  | .no, _ => .ok none
  | .so e, g => do
    let d ← (E.ev e g) >>= O.asD
    let i ← asInt d
    .ok (some i)
def Oe.evt : Oe → Env → R Bool
  | .no, _ => .ok true
  | .so e, g => do
    let x ← E.ev e g
    truth x.toD
def It.evi : It → Env → R (List D)
  | .seq e, g => do
    let x ← (E.ev e g) >>= O.asD
    match x with
    | .list ds => .ok ds
    | .tuple ds => .ok ds
    | .dict kvs => .ok (kvs.map (·.1))
    | _ => .bad
  | .seqo e, g => do
    let x ← E.ev e g
    x.items
  | .rng1 a, g => do
    let x ← (E.ev a g) >>= O.asD
    let j ← asInt x
    if rngOk j then .ok (rngD 0 j.toNat) else .bad
  | .rng2 a b, g => do
    let x ← (E.ev a g) >>= O.asD
    let i ← asInt x
    let y ← (E.ev b g) >>= O.asD
    let j ← asInt y
    if rngOk i && rngOk j then .ok (rngD i (j - i).toNat) else .bad
  | .enum a, g => do
    let x ← (E.ev a g) >>= O.asD
    match x with
    | .list ds => .ok (enumD 0 ds)
    | .tuple ds => .ok (enumD 0 ds)
    | _ => .bad
  | .zip a b, g => do
    let x ← (E.ev a g) >>= O.asD
    let y ← (E.ev b g) >>= O.asD
    match x, y with
    | .list ds, .list es => .ok (zipD ds es)
    | .tuple ds, .tuple es => .ok (zipD ds es)
    | .list ds, .tuple es => .ok (zipD ds es)
    | .tuple ds, .list es => .ok (zipD ds es)
    | _, _ => .bad
end
end
/-- a list that this comes to is a new one -/
def E.fresh : E → Bool
  | .lst _ => true
  | .comp .. => true
  | .sset _ => true
  | .bin .. => true
  | .sl .. => true
  | .bi .. => true
  | .rg1 .. => true
  | .rg2 .. => true
  | _ => false
end Q

set_option Elab.async false
set_option linter.all false
set_option maxRecDepth 100000
/-! Rep: how plain data stands in the abstract heap. -/
namespace Q
open PySem L2

/-- the list at a is read: not one's own (B), tracked or locked; or an object of the module -/
def SqB (K : PySem.W.Frag) (B : Addr → Prop) (H : Hp) (a : Addr) (xs : List V) : Prop :=
  (¬ B a ∧ Rd H a (.lst xs)) ∨
    ∃ (o : Obj) (its : Array Value) (n : Nat), K.lookup a = some o ∧ o.cls = .type "list" ∧ o.dict = none ∧ o.data = .seq its n ∧ its.size ≤ sizeLine ∧ Vals xs its.toList
theorem SqB.sq {K : PySem.W.Frag} {B : Addr → Prop} {H : Hp} {a : Addr} {xs : List V} (h : SqB K B H a xs) : SqL K H a xs := by
  rcases h with ⟨_, h⟩ | h
  · exact .inl h
  · exact .inr h
/-- what is not one's own stays, and stays so -/
def Evo (B : Addr → Prop) (H : Hp) (B' : Addr → Prop) (H' : Hp) : Prop := ∀ a o, H a = some o → ¬ B a → H' a = some o ∧ ¬ B' a
theorem Evo.refl {B : Addr → Prop} {H : Hp} : Evo B H B H := fun _ _ h n => ⟨h, n⟩
theorem Evo.trans {B B1 B2 : Addr → Prop} {H H1 H2 : Hp} (a : Evo B H B1 H1) (b : Evo B1 H1 B2 H2) : Evo B H B2 H2 := fun x o h n =>
  let ⟨h1, n1⟩ := a x o h n
  b x o h1 n1
theorem Evo.same {B : Addr → Prop} {H H' : Hp} (e : Same H H') : Evo B H B H' := fun a o h n => ⟨e a o h, n⟩
theorem Evo.sub {B B' : Addr → Prop} {H : Hp} (e : ∀ a, B' a → B a) : Evo B H B' H := fun a o h n => ⟨h, fun z => n (e a z)⟩
/-- one more of one's own, that was not there -/
theorem Evo.fresh {B : Addr → Prop} {H : Hp} {p : Addr} (hp : H p = none) : Evo B H (fun a => B a ∨ a = p) H := fun a o h n => ⟨h, fun z => by
  rcases z with z | z
  · exact n z
  · subst z; rw [hp] at h; cases h⟩
theorem Evo.upd {B : Addr → Prop} {H : Hp} {p : Addr} {o : HO} (hp : B p) : Evo B H B (upd H p o) := fun a u h n => ⟨by
  rw [upd_ne (fun z => n (by rw [z]; exact hp))]
  exact h, n⟩
theorem SqB.evo {K : PySem.W.Frag} {B B' : Addr → Prop} {H H' : Hp} {a : Addr} {xs : List V} (h : SqB K B H a xs) (e : Evo B H B' H') : SqB K B' H' a xs := by
  rcases h with ⟨n, h | ⟨o, h⟩⟩ | h
  · obtain ⟨h1, h2⟩ := e a _ h n
    exact .inl ⟨h2, .inl h1⟩
  · obtain ⟨h1, h2⟩ := e a _ h n
    exact .inl ⟨h2, .inr ⟨o, h1⟩⟩
  · exact .inr h

mutual
/-- the value v is the data d; nothing of it is one's own -/
inductive RD (K : PySem.W.Frag) (B : Addr → Prop) (H : Hp) : V → D → Prop where
  | non : RD K B H .non .none
  | bl (b : Bool) : RD K B H (.bl b) (.bool b)
  | int (i : Int) : RD K B H (.int i) (.int i)
  | str (x : Str) : RD K B H (.str x) (.str x)
  | lst {a : Addr} {vs : List V} {ds : List D} (h : H a = some (.lst vs)) (n : ¬ B a) (r : RDs K B H vs ds) : RD K B H (.ref a) (.list ds)
  | tup {a : Addr} {vs : List V} {ds : List D} (h : H a = some (.tup vs)) (n : ¬ B a) (r : RDs K B H vs ds) : RD K B H (.ref a) (.tuple ds)
  | scr {a : Addr} {ns : List Int} (h : SqB K B H a (ns.map V.int)) : RD K B H (.ref a) (.dict (ns.map fun n => (.int n, .none)))
inductive RDs (K : PySem.W.Frag) (B : Addr → Prop) (H : Hp) : List V → List D → Prop where
  | nil : RDs K B H [] []
  | cons {v : V} {vs : List V} {d : D} {ds : List D} (h : RD K B H v d) (r : RDs K B H vs ds) : RDs K B H (v :: vs) (d :: ds)
end

section
variable {K : PySem.W.Frag} {B B' : Addr → Prop} {H H' : Hp}
mutual
theorem RD.evo (e : Evo B H B' H') : ∀ {v : V} {d : D}, RD K B H v d → RD K B' H' v d
  | _, _, .non => .non
  | _, _, .bl b => .bl b
  | _, _, .int i => .int i
  | _, _, .str x => .str x
  | _, _, .lst h n r => .lst (e _ _ h n).1 (e _ _ h n).2 (RDs.evo e r)
  | _, _, .tup h n r => .tup (e _ _ h n).1 (e _ _ h n).2 (RDs.evo e r)
  | _, _, .scr h => .scr (h.evo e)
theorem RDs.evo (e : Evo B H B' H') : ∀ {vs : List V} {ds : List D}, RDs K B H vs ds → RDs K B' H' vs ds
  | _, _, .nil => .nil
  | _, _, .cons h r => .cons (RD.evo e h) (RDs.evo e r)
end
theorem RDs.length : ∀ {vs : List V} {ds : List D}, RDs K B H vs ds → vs.length = ds.length
  | _, _, .nil => rfl
  | _, _, .cons _ r => by simp [RDs.length r]
theorem RDs.append : ∀ {vs ws : List V} {ds es : List D}, RDs K B H vs ds → RDs K B H ws es → RDs K B H (vs ++ ws) (ds ++ es)
  | _, _, _, _, .nil, s => s
  | _, _, _, _, .cons h r, s => .cons h (RDs.append r s)
theorem RDs.get : ∀ {vs : List V} {ds : List D} {i : Nat} {d : D}, RDs K B H vs ds → ds[i]? = some d → ∃ v, vs[i]? = some v ∧ RD K B H v d
  | _, _, _, _, .nil, e => by simp at e
  | _, _, 0, _, .cons h _, e => by simp at e; subst e; exact ⟨_, rfl, h⟩
  | _, _, i + 1, d, .cons _ r, e => by
    obtain ⟨v, h1, h2⟩ := RDs.get (i := i) (d := d) r (by simpa using e)
    exact ⟨v, by simpa using h1, h2⟩
theorem RDs.get' : ∀ {vs : List V} {ds : List D} {i : Nat} {v : V}, RDs K B H vs ds → vs[i]? = some v → ∃ d, ds[i]? = some d ∧ RD K B H v d
  | _, _, _, _, .nil, e => by simp at e
  | _, _, 0, _, .cons h _, e => by simp at e; subst e; exact ⟨_, rfl, h⟩
  | _, _, i + 1, d, .cons _ r, e => by
    obtain ⟨v, h1, h2⟩ := RDs.get' (i := i) (v := d) r (by simpa using e)
    exact ⟨v, by simpa using h1, h2⟩
theorem RDs.drop : ∀ {vs : List V} {ds : List D} (n : Nat), RDs K B H vs ds → RDs K B H (vs.drop n) (ds.drop n)
  | _, _, 0, r => r
  | _, _, _ + 1, .nil => .nil
  | _, _, n + 1, .cons _ t => RDs.drop n t
theorem RDs.take : ∀ {vs : List V} {ds : List D} (n : Nat), RDs K B H vs ds → RDs K B H (vs.take n) (ds.take n)
  | _, _, 0, _ => .nil
  | _, _, _ + 1, .nil => .nil
  | _, _, n + 1, .cons r t => .cons r (RDs.take n t)
theorem RDs.ints : ∀ (ns : List Int), RDs K B H (ns.map V.int) (ns.map PyData.int)
  | [] => .nil
  | n :: ns => .cons (.int n) (RDs.ints ns)
theorem RDs.isEmpty {vs : List V} {ds : List D} (r : RDs K B H vs ds) : vs.isEmpty = ds.isEmpty := by
  cases r <;> rfl
/-- values of plain ints -/
theorem RDs.ints_of : ∀ {vs : List V} {ds : List D} {ns : List Int}, RDs K B H vs ds → ints? ds = some ns → vs = ns.map V.int ∧ ds = ns.map .int
  | _, _, ns, .nil, e => by
    simp [ints?] at e; subst e; exact ⟨rfl, rfl⟩
  | _, _, ns, .cons (d := d) (ds := ds) h r, e => by
    cases h with
    | int i =>
      simp only [ints?, Option.map_eq_some_iff] at e
      obtain ⟨m, e1, e2⟩ := e
      obtain ⟨h1, h2⟩ := RDs.ints_of r e1
      subst e2
      exact ⟨by simp [h1], by simp [h2]⟩
    | _ => simp [ints?] at e
theorem RDs.bools_of : ∀ {vs : List V} {ds : List D} {ns : List Bool}, RDs K B H vs ds → bools? ds = some ns → vs = ns.map V.bl
  | _, _, ns, .nil, e => by
    simp [bools?] at e; subst e; rfl
  | _, _, ns, .cons (d := d) (ds := ds) h r, e => by
    cases h with
    | bl i =>
      simp only [bools?, Option.map_eq_some_iff] at e
      obtain ⟨m, e1, e2⟩ := e
      have h1 := RDs.bools_of r e1
      subst e2
      simp [h1]
    | _ => simp [bools?] at e
mutual
/-- .. for == -/
theorem RD.dp : ∀ {d : D} {v : V}, RD K B H v d → d.canLay0 = true → Dp K H v d
  | .none, _, h, _ => by cases h; exact .non
  | .bool b, _, h, _ => by cases h; exact .bl b
  | .int i, _, h, _ => by cases h; exact .int i
  | .str x, _, h, _ => by cases h; exact .str x
  | .list ds, _, h, c => by
    cases h with
    | lst h n r => exact .lst (SqL.of h) (RDs.dp (ds := ds) r (by simpa [PyData.canLay0] using c))
  | .tuple ds, _, h, c => by
    cases h with
    | tup h n r => exact .tup (SqT.of h) (RDs.dp (ds := ds) r (by simpa [PyData.canLay0] using c))
  | .dict _, _, _, c => by simp [PyData.canLay0] at c
theorem RDs.dp : ∀ {ds : List D} {vs : List V}, RDs K B H vs ds → PyData.canLayAll0 ds = true → DpAll K H vs ds
  | [], _, h, _ => by cases h; exact .nil
  | d :: ds, _, h, c => by
    cases h with
    | cons h r =>
      have c' : d.canLay0 = true ∧ PyData.canLayAll0 ds = true := by simpa [PyData.canLayAll0] using c
      exact .cons (RD.dp (d := d) h c'.1) (RDs.dp (ds := ds) r c'.2)
end
end

/-! ### what a slot holds -/
mutual
/-- the value v is what the slot holds; as: the lists of its own -/
def RO (K : PySem.W.Frag) (B : Addr → Prop) (H : Hp) : V → O → List Addr → Prop
  | v, .fz d, as => RD K B H v d ∧ as = []
  | v, .ol os, as => ∃ p vs r, v = .ref p ∧ as = p :: r ∧ H p = some (.lst vs) ∧ ROs K B H vs os r
def ROs (K : PySem.W.Frag) (B : Addr → Prop) (H : Hp) : List V → List O → List Addr → Prop
  | vs, [], as => vs = [] ∧ as = []
  | vs, o :: os, as => ∃ v vr a1 a2, vs = v :: vr ∧ as = a1 ++ a2 ∧ RO K B H v o a1 ∧ ROs K B H vr os a2
end
/-- a borrowed value -/
def Bor (K : PySem.W.Frag) (B : Addr → Prop) (H : Hp) (v : V) (o : O) : Prop := ∃ as, (∀ a ∈ as, B a) ∧ RO K B H v o as

section
variable {K : PySem.W.Frag} {B B' : Addr → Prop} {H H' : Hp}
mutual
/-- all of it stands as it was -/
theorem RO.keep (e : Evo B H B' H') : ∀ {o : O} {v : V} {as : List Addr}, (∀ a ∈ as, ∀ u, H a = some u → H' a = some u) → RO K B H v o as → RO K B' H' v o as
  | .fz d, v, as, k, h => ⟨h.1.evo e, h.2⟩
  | .ol os, v, as, k, h => by
    obtain ⟨p, vs, r, h1, h2, h3, h4⟩ := h
    subst h2
    exact ⟨p, vs, r, h1, rfl, k p (by simp) _ h3, ROs.keep e (os := os) (fun a ha => k a (by simp [ha])) h4⟩
theorem ROs.keep (e : Evo B H B' H') : ∀ {os : List O} {vs : List V} {as : List Addr}, (∀ a ∈ as, ∀ u, H a = some u → H' a = some u) → ROs K B H vs os as → ROs K B' H' vs os as
  | [], vs, as, k, h => h
  | o :: os, vs, as, k, h => by
    obtain ⟨v, vr, a1, a2, h1, h2, h3, h4⟩ := h
    subst h2
    exact ⟨v, vr, a1, a2, h1, rfl, RO.keep e (o := o) (fun a ha => k a (by simp [ha])) h3, ROs.keep e (os := os) (fun a ha => k a (by simp [ha])) h4⟩
end
mutual
theorem RO.owned : ∀ {o : O} {v : V} {as : List Addr}, RO K B H v o as → ∀ a ∈ as, ∃ vs, H a = some (.lst vs)
  | .fz d, v, as, h, a, ha => by rw [h.2] at ha; cases ha
  | .ol os, v, as, h, a, ha => by
    obtain ⟨p, vs, r, h1, h2, h3, h4⟩ := h
    subst h2
    rcases List.mem_cons.mp ha with e | e
    · subst e; exact ⟨vs, h3⟩
    · exact ROs.owned (os := os) h4 a e
theorem ROs.owned : ∀ {os : List O} {vs : List V} {as : List Addr}, ROs K B H vs os as → ∀ a ∈ as, ∃ vs, H a = some (.lst vs)
  | [], vs, as, h, a, ha => by rw [h.2] at ha; cases ha
  | o :: os, vs, as, h, a, ha => by
    obtain ⟨v, vr, a1, a2, h1, h2, h3, h4⟩ := h
    subst h2
    rcases List.mem_append.mp ha with e | e
    · exact RO.owned (o := o) h3 a e
    · exact ROs.owned (os := os) h4 a e
end
mutual
/-- it is given up: data from now on -/
theorem RO.frozen (e : Evo B H B' H) : ∀ {o : O} {v : V} {as : List Addr}, (∀ a ∈ as, ¬ B' a) → RO K B H v o as → RD K B' H v o.toD
  | .fz d, v, as, k, h => h.1.evo e
  | .ol os, v, as, k, h => by
    obtain ⟨p, vs, r, h1, h2, h3, h4⟩ := h
    subst h1 h2
    exact .lst h3 (k p (by simp)) (ROs.frozen e (os := os) (fun a ha => k a (by simp [ha])) h4)
theorem ROs.frozen (e : Evo B H B' H) : ∀ {os : List O} {vs : List V} {as : List Addr}, (∀ a ∈ as, ¬ B' a) → ROs K B H vs os as → RDs K B' H vs (O.toDs os)
  | [], vs, as, k, h => by
    rw [h.1]; exact .nil
  | o :: os, vs, as, k, h => by
    obtain ⟨v, vr, a1, a2, h1, h2, h3, h4⟩ := h
    subst h1 h2
    exact .cons (RO.frozen e (o := o) (fun a ha => k a (by simp [ha])) h3) (ROs.frozen e (os := os) (fun a ha => k a (by simp [ha])) h4)
end
mutual
/-- .. for == : read as data, whatever is one's own -/
theorem RO.dp : ∀ {o : O} {v : V} {as : List Addr}, RO K B H v o as → o.toD.canLay0 = true → Dp K H v o.toD
  | .fz d, v, as, h, c => h.1.dp c
  | .ol os, v, as, h, c => by
    obtain ⟨p, vs, r, h1, h2, h3, h4⟩ := h
    subst h1
    exact .lst (SqL.of h3) (ROs.dp (os := os) h4 (by simpa [O.toD, PyData.canLay0] using c))
theorem ROs.dp : ∀ {os : List O} {vs : List V} {as : List Addr}, ROs K B H vs os as → PyData.canLayAll0 (O.toDs os) = true → DpAll K H vs (O.toDs os)
  | [], vs, as, h, c => by rw [h.1]; exact .nil
  | o :: os, vs, as, h, c => by
    obtain ⟨v, vr, a1, a2, h1, h2, h3, h4⟩ := h
    subst h1
    have c' : o.toD.canLay0 = true ∧ PyData.canLayAll0 (O.toDs os) = true := by simpa [O.toDs, PyData.canLayAll0] using c
    exact .cons (RO.dp (o := o) h3 c'.1) (ROs.dp (os := os) h4 c'.2)
end
theorem RO.fzD {v : V} {d : D} (h : RD K B H v d) : RO K B H v (.fz d) [] := ⟨h, rfl⟩
theorem Bor.fz {v : V} {d : D} (h : RD K B H v d) : Bor K B H v (.fz d) := ⟨[], by simp, h, rfl⟩
theorem Bor.rd {v : V} {d : D} (h : Bor K B H v (.fz d)) : RD K B H v d := by
  obtain ⟨as, _, h, _⟩ := h
  exact h
theorem Bor.same {v : V} {o : O} (h : Bor K B H v o) (e : Same H H') : Bor K B H' v o := by
  obtain ⟨as, ha, h⟩ := h
  exact ⟨as, ha, h.keep (.same e) fun a _ u q => e a u q⟩
theorem ROs.length : ∀ {os : List O} {vs : List V} {as : List Addr}, ROs K B H vs os as → vs.length = os.length
  | [], vs, as, h => by rw [h.1]; rfl
  | o :: os, vs, as, h => by
    obtain ⟨v, vr, a1, a2, h1, h2, h3, h4⟩ := h
    subst h1
    simp [ROs.length h4]
theorem ROs.get : ∀ {os : List O} {vs : List V} {as : List Addr} {i : Nat} {o : O}, ROs K B H vs os as → os[i]? = some o → ∃ v a1, vs[i]? = some v ∧ (∀ a ∈ a1, a ∈ as) ∧ RO K B H v o a1
  | [], vs, as, i, o, h, e => by simp at e
  | o :: os, vs, as, 0, o', h, e => by
    obtain ⟨v, vr, a1, a2, h1, h2, h3, h4⟩ := h
    subst h1 h2
    simp at e; subst e
    exact ⟨v, a1, rfl, fun a ha => by simp [ha], h3⟩
  | o :: os, vs, as, i + 1, o', h, e => by
    obtain ⟨v, vr, a1, a2, h1, h2, h3, h4⟩ := h
    subst h1 h2
    obtain ⟨v', b1, e1, e2, e3⟩ := ROs.get (os := os) (i := i) (o := o') h4 (by simpa using e)
    exact ⟨v', b1, by simpa using e1, fun a ha => by simp [e2 a ha], e3⟩
/-- a list whose items are all data -/
theorem ROs.flat : ∀ {os : List O} {vs : List V} {as : List Addr} {ds : List D}, ROs K B H vs os as → fzAll os = .ok ds → RDs K B H vs ds ∧ os = ds.map .fz ∧ as = []
  | [], vs, as, ds, h, e => by
    simp [fzAll] at e; subst e
    rw [h.1, h.2]; exact ⟨.nil, rfl, rfl⟩
  | .fz d :: os, vs, as, ds, h, e => by
    obtain ⟨v, vr, a1, a2, h1, h2, h3, h4⟩ := h
    simp only [fzAll] at e
    cases q : fzAll os with
    | ok es =>
      rw [q] at e
      simp at e
      subst e
      obtain ⟨r1, r2, r3⟩ := ROs.flat h4 q
      subst h1 h2
      refine ⟨.cons h3.1 r1, by simp [r2], by rw [h3.2, r3]; rfl⟩
    | exc c => rw [q] at e; simp at e
    | bad => rw [q] at e; simp at e
  | .ol _ :: os, vs, as, ds, h, e => by simp [fzAll] at e
theorem ROs.of_rds : ∀ {vs : List V} {ds : List D}, RDs K B H vs ds → ROs K B H vs (ds.map .fz) []
  | _, _, .nil => ⟨rfl, rfl⟩
  | _, _, .cons h r => ⟨_, _, [], [], rfl, rfl, ⟨h, rfl⟩, ROs.of_rds r⟩
end

/-! ### the state of a def -/
/-- what is a slot's own -/
def Ow (own : Nat → List Addr) : Addr → Prop := fun a => ∃ i, a ∈ own i
/-- what is not to be met: the callers' own lists, this def's own lists -/
def Av (B : Addr → Prop) (own : Nat → List Addr) : Addr → Prop := fun a => B a ∨ Ow own a
def upo (own : Nat → List Addr) (i : Nat) (as : List Addr) : Nat → List Addr := fun j => if j = i then as else own j
theorem upo_same {own : Nat → List Addr} {i : Nat} {as : List Addr} : upo own i as i = as := by simp [upo]
theorem upo_ne {own : Nat → List Addr} {i j : Nat} {as : List Addr} (h : j ≠ i) : upo own i as j = own j := by simp [upo, h]
structure SR (K : PySem.W.Frag) (B : Addr → Prop) (own : Nat → List Addr) (H : Hp) (σ : L2.St) (g : Env) : Prop where
  len : σ.length = g.length
  slot : ∀ i o, g[i]? = some (some o) → ∃ v, σ[i]? = some (some v) ∧ RO K (Av B own) H v o (own i)
  emp : ∀ i, (∀ o, g[i]? ≠ some (some o)) → own i = []
  nd : ∀ i, (own i).Nodup
  dj : ∀ i j a, a ∈ own i → a ∈ own j → i = j
  db : ∀ i a, a ∈ own i → ¬ B a
  b0 : ∀ a, B a → ∃ o, H a = some o
theorem Evo.av {B : Addr → Prop} {own own' : Nat → List Addr} {H H' : Hp} (e : Evo (Ow own) H (Ow own') H') : Evo (Av B own) H (Av B own') H' := fun a o h n =>
  let ⟨h1, h2⟩ := e a o h fun z => n (.inr z)
  ⟨h1, fun z => z.elim (fun z => n (.inl z)) h2⟩
section
variable {K : PySem.W.Frag} {B : Addr → Prop} {own : Nat → List Addr} {H H' : Hp} {σ : L2.St} {g : Env}
theorem SR.inH (S : SR K B own H σ g) {a : Addr} (h : Ow own a) : ∃ vs, H a = some (.lst vs) := by
  obtain ⟨i, hi⟩ := h
  by_cases q : ∃ o, g[i]? = some (some o)
  · obtain ⟨o, q⟩ := q
    obtain ⟨v, _, r⟩ := S.slot i o q
    exact r.owned a hi
  · rw [S.emp i fun o z => q ⟨o, z⟩] at hi
    cases hi
theorem SR.inH' (S : SR K B own H σ g) {a : Addr} (h : Av B own a) : ∃ o, H a = some o := by
  rcases h with h | h
  · exact S.b0 a h
  · obtain ⟨vs, q⟩ := S.inH h
    exact ⟨_, q⟩
theorem SR.fresh (S : SR K B own H σ g) {p : Addr} (h : H p = none) : ¬ Av B own p := fun z => by
  obtain ⟨o, q⟩ := S.inH' z
  rw [h] at q; cases q
theorem SR.same (S : SR K B own H σ g) (e : Same H H') : SR K B own H' σ g :=
  ⟨S.len, fun i o q => let ⟨v, h1, h2⟩ := S.slot i o q; ⟨v, h1, h2.keep (.same e) fun a _ u r => e a u r⟩, S.emp, S.nd, S.dj, S.db, fun a h => let ⟨o, q⟩ := S.b0 a h; ⟨o, e a o q⟩⟩
/-- a slot takes what is its own (as: new, or its former ones), the others standing as they were -/
theorem SR.hold (S : SR K B own H σ g) {i : Nat} {v : V} {o : O} {as : List Addr} (hi : i < g.length) (σ' : L2.St) (hσ : σ' = σ.set i (some v))
    (ev : Evo (Ow own) H (Ow (upo own i as)) H') (kb : ∀ a u, B a → H a = some u → H' a = some u)
    (k : ∀ j a, j ≠ i → a ∈ own j → ∀ u, H a = some u → H' a = some u)
    (r : RO K (Av B (upo own i as)) H' v o as) (nd : as.Nodup) (dj : ∀ j a, j ≠ i → a ∈ own j → a ∉ as) (db : ∀ a ∈ as, ¬ B a) :
    SR K B (upo own i as) H' σ' (g.set i (some o)) := by
  subst hσ
  have hs : i < σ.length := by rw [S.len]; exact hi
  refine ⟨by simpa using S.len, fun j o' q => ?_, fun j q => ?_, fun j => ?_, fun j k' a h1 h2 => ?_, fun j a h => ?_, fun a h => let ⟨o, q⟩ := S.b0 a h; ⟨o, kb a o h q⟩⟩
  · by_cases e : j = i
    · subst e
      rw [List.getElem?_set_self hi] at q
      cases q
      exact ⟨v, by rw [List.getElem?_set_self hs], by rw [upo_same]; exact r⟩
    · rw [List.getElem?_set_ne (Ne.symm e)] at q
      obtain ⟨v, h1, h2⟩ := S.slot j o' q
      rw [upo_ne e]
      exact ⟨v, by rw [List.getElem?_set_ne (Ne.symm e)]; exact h1, h2.keep ev.av fun a ha u r => k j a e ha u r⟩
  · by_cases e : j = i
    · subst e
      exact absurd (List.getElem?_set_self hi) (q o)
    · rw [upo_ne e]
      refine S.emp j fun o z => q o ?_
      rw [List.getElem?_set_ne (Ne.symm e)]; exact z
  · by_cases e : j = i
    · subst e; rw [upo_same]; exact nd
    · rw [upo_ne e]; exact S.nd j
  · by_cases e1 : j = i
    · by_cases e2 : k' = i
      · rw [e1, e2]
      · subst e1
        rw [upo_same] at h1
        rw [upo_ne e2] at h2
        exact absurd h1 (dj k' a e2 h2)
    · by_cases e2 : k' = i
      · subst e2
        rw [upo_same] at h2
        rw [upo_ne e1] at h1
        exact absurd h2 (dj j a e1 h1)
      · rw [upo_ne e1] at h1
        rw [upo_ne e2] at h2
        exact S.dj j k' a h1 h2
  · by_cases e : j = i
    · subst e; rw [upo_same] at h; exact db a h
    · rw [upo_ne e] at h; exact S.db j a h
theorem drop_evo (i : Nat) : Evo (Ow own) H (Ow (upo own i [])) H := .sub fun a ⟨j, hj⟩ => by
  by_cases e : j = i
  · subst e; rw [upo_same] at hj; cases hj
  · rw [upo_ne e] at hj; exact ⟨j, hj⟩
/-- a slot takes data -/
theorem SR.put (S : SR K B own H σ g) {i : Nat} {v : V} {d : D} (r : RD K (Av B own) H v d) (hi : i < g.length) :
    SR K B (upo own i []) H (σ.set i (some v)) (g.set i (some (.fz d))) :=
  S.hold hi _ rfl (drop_evo i) (fun _ _ _ q => q) (fun _ _ _ _ _ q => q) ⟨r.evo (Evo.av (drop_evo i)), rfl⟩ List.nodup_nil (fun _ _ _ _ => by simp) (by simp)
/-- a slot forgotten -/
theorem SR.drop (S : SR K B own H σ g) (i : Nat) : SR K B (upo own i []) H σ (g.set i none) := by
  refine ⟨by simpa using S.len, fun j o q => ?_, fun j q => ?_, fun j => ?_, fun j k a h1 h2 => ?_, fun j a h => ?_, S.b0⟩
  · by_cases e : j = i
    · subst e
      by_cases hl : j < g.length
      · rw [List.getElem?_set_self hl] at q; cases q
      · rw [List.getElem?_eq_none (by simpa using hl)] at q; cases q
    · rw [List.getElem?_set_ne (Ne.symm e)] at q
      obtain ⟨v, h1, h2⟩ := S.slot j o q
      rw [upo_ne e]
      exact ⟨v, h1, h2.keep (drop_evo i).av fun a _ u r => r⟩
  · by_cases e : j = i
    · subst e; rw [upo_same]
    · rw [upo_ne e]
      refine S.emp j fun o z => q o ?_
      rw [List.getElem?_set_ne (Ne.symm e)]; exact z
  · by_cases e : j = i
    · subst e; rw [upo_same]; exact List.nodup_nil
    · rw [upo_ne e]; exact S.nd j
  · by_cases e1 : j = i
    · subst e1; rw [upo_same] at h1; cases h1
    · by_cases e2 : k = i
      · subst e2; rw [upo_same] at h2; cases h2
      · rw [upo_ne e1] at h1
        rw [upo_ne e2] at h2
        exact S.dj j k a h1 h2
  · by_cases e : j = i
    · subst e; rw [upo_same] at h; cases h
    · rw [upo_ne e] at h; exact S.db j a h
theorem set_self {α : Type} {l : List α} {i : Nat} {v : α} (h : l[i]? = some v) : l = l.set i v := by
  have hs : i < l.length := (List.getElem?_eq_some_iff.mp h).1
  apply List.ext_getElem?
  intro j
  by_cases q : j = i
  · subst q; rw [List.getElem?_set_self hs, h]
  · rw [List.getElem?_set_ne (Ne.symm q)]
/-- a slot's lists are given up: data from now on -/
theorem SR.freeze (S : SR K B own H σ g) {i : Nat} {o : O} (h : g[i]? = some (some o)) :
    SR K B (upo own i []) H σ (g.set i (some (.fz o.toD))) := by
  obtain ⟨v, h1, h2⟩ := S.slot i o h
  have hi : i < g.length := (List.getElem?_eq_some_iff.mp h).1
  refine S.hold (as := []) (v := v) hi σ (set_self h1) (drop_evo i) (fun _ _ _ q => q) (fun j a _ _ u q => q) ⟨h2.frozen (drop_evo i).av fun a ha z => ?_, rfl⟩ List.nodup_nil (fun _ _ _ _ => by simp) (by simp)
  rcases z with z | ⟨j, hj⟩
  · exact S.db i a ha z
  · by_cases q : j = i
    · subst q; rw [upo_same] at hj; cases hj
    · rw [upo_ne q] at hj
      exact q (S.dj j i a hj ha)
/-- a new list becomes a slot's own -/
theorem SR.take (S : SR K B own H σ g) {i : Nat} {p : Addr} {vs : List V} {ds : List D} (hi : i < g.length) (e : Same H H') (hp : H p = none) (h : H' p = some (.lst vs)) (r : RDs K (fun a => Av B own a ∨ a = p) H' vs ds) :
    SR K B (upo own i [p]) H' (σ.set i (some (.ref p))) (g.set i (some (.ol (ds.map .fz)))) := by
  have np := S.fresh hp
  have sub : ∀ a, Av B (upo own i [p]) a → Av B own a ∨ a = p := fun a z => by
    rcases z with z | ⟨j, hj⟩
    · exact .inl (.inl z)
    · by_cases q : j = i
      · subst q; rw [upo_same] at hj; exact .inr (by simpa using hj)
      · rw [upo_ne q] at hj; exact .inl (.inr ⟨j, hj⟩)
  refine S.hold (as := [p]) hi _ rfl (fun a o q n => ⟨e a o q, fun ⟨j, hj⟩ => ?_⟩) (fun a u _ q => e a u q) (fun j a _ _ u q => e a u q) ⟨p, vs, [], rfl, rfl, h, ROs.of_rds (r.evo (.sub sub))⟩ (by simp) (fun j a _ ha => ?_) (fun a ha => ?_)
  · by_cases z : j = i
    · subst z
      rw [upo_same] at hj
      have : a = p := by simpa using hj
      subst this
      rw [hp] at q; cases q
    · rw [upo_ne z] at hj; exact n ⟨j, hj⟩
  · intro z
    have : a = p := by simpa using z
    subst this
    exact np (.inr ⟨j, ha⟩)
  · have : a = p := by simpa using ha
    subst this
    exact fun z => np (.inl z)
end
end Q

set_option Elab.async false
set_option linter.all false
set_option maxRecDepth 100000
/-! Chk: whether a term of the small language is what a piece of the program's syntax says. -/
namespace Q
open PySem L2

/-- where names are looked up: the slots' names, the scope, which names' cells were made here -/
structure Sc where
  N : List Str
  sc : Scope
  fb : Str → Bool
  kn : String → Bool
def Sc.in_ (c : Sc) (scope : Scope) : Sc := ⟨c.N, relS scope c.sc, fun x => scope.names.lookup x == some .cell, c.kn⟩
def nkEq (a : Option NameKind) (b : NameKind) : Bool := decide (a = some b)
def visB (sc : Scope) (x : Str) : Bool := nkEq (sc.names.lookup x) .local || nkEq (sc.names.lookup x) .cell || nkEq (sc.names.lookup x) .free
def locB (sc : Scope) (x : Str) : Bool := nkEq (sc.names.lookup x) .local || nkEq (sc.names.lookup x) .cell
def glB (sc : Scope) (x : Str) : Bool := nkEq (sc.names.lookup x) .globalImplicit
def plainName (x : Str) : Bool := (x == ("__debug__" : Str)) == false && (x == ("__classdict__" : Str)) == false
def nameB (c : Sc) (i : Nat) : Expr → Bool
  | .Name x _ => decide (c.N[i]? = some x) && visB c.sc x && plainName x
  | _ => false
def storeB (c : Sc) (i : Nat) : Expr → Bool
  | .Name x _ => decide (c.N[i]? = some x) && locB c.sc x && (c.fb x || nkEq (c.sc.names.lookup x) .local)
  | _ => false
/-- a test that is no x if t else y -/
def testX : Expr → Bool
  | .IfExp .. => false
  | _ => true
/-- a piece of syntax of the common kind -/
def plainX : Expr → Bool
  | .Starred .. => false
  | .Slice .. => false
  | .Set .. => false
  | .SetComp .. => false
  | .DictComp .. => false
  | .GeneratorExp .. => false
  | _ => true
def glName (c : Sc) (s : Str) : Expr → Bool
  | .Name x _ => decide (x = s) && glB c.sc x && (x == ("__debug__" : Str)) == false
  | _ => false
def bopB : BOp → Operator → Bool
  | .add, .Add => true
  | .sub, .Sub => true
  | .mul, .Mult => true
  | .mod, .Mod => true
  | .fdiv, .FloorDiv => true
  | .shl, .LShift => true
  | .shr, .RShift => true
  | .band, .BitAnd => true
  | _, _ => false
def copB : COp → CmpOp → Bool
  | .lt, .Lt => true
  | .le, .LtE => true
  | .gt, .Gt => true
  | .ge, .GtE => true
  | .eq, .Eq => true
  | .ne, .NotEq => true
  | .in_, .In => true
  | .nin, .NotIn => true
  | .is_, .Is => true
  | .isn, .IsNot => true
  | _, _ => false
def biName : Bi → Str
  | .len => "len"
  | .int => "int"
  | .abs => "abs"
  | .max2 => "max"
  | .min2 => "min"
  | .tuple => "tuple"
  | .list => "list"
  | .sorted => "sorted"
  | .all => "all"
  | .any => "any"
  | .sum => "sum"
  | .max1 => "max"
  | .min1 => "min"
def tyName : Ty → Str
  | .int => "int"
  | .bool => "bool"
  | .tuple => "tuple"
  | .str => "str"

mutual
def tgB (c : Sc) : Tg → Expr → Bool
  | .n i, x => storeB c i x
  | .nil, .Tuple [] _ _ => true
  | .cons t ts, .Tuple xs _ _ => tgsB c (.cons t ts) xs
  | _, _ => false
def tgsB (c : Sc) : Tg → List Expr → Bool
  | .nil, [] => true
  | .cons t ts, x :: xs => plainX x && tgB c t x && tgsB c ts xs
  | _, _ => false
end

/-- what walks in pairs wants a target of several names -/
def needT : It → Bool
  | .enum _ => true
  | .zip _ _ => true
  | _ => false
/-- it walks no list of one's own -/
def notO : It → Bool
  | .seqo _ => false
  | _ => true
/-- y.index(z) -/
def idxX : Expr → Option (Expr × Expr)
  | .Call (.Attribute y m p) [z] [] q => if decide (m = Str.ofString "index") && (p.endLine == q.line) then some (y, z) else none
  | _ => none
def tupX : Expr → Bool
  | .Tuple .. => true
  | _ => false
/-- the first part of t[::-1], t[1::-1] -/
def loX (two : Bool) : Option Expr → Bool
  | none => !two
  | some (.Constant (.int 1) _ _) => two
  | _ => false
mutual
def eB (c : Sc) (e : E) (x : Expr) : Bool := match e with
  | .var i => nameB c i x
  | .non => match x with
    | .Constant .none _ _ => true
    | _ => false
  | .bl b => match x with
    | .Constant (.bool d) _ _ => decide (b = d)
    | _ => false
  | .int i => match x with
    | .Constant (.int j) _ _ => decide (i = j)
    | _ => false
  | .str s => match x with
    | .Constant (.str y) _ _ => decide (Str.ofString s = y)
    | _ => false
  | .bin o a b => match x with
    | .BinOp y p z _ => bopB o p && eB c a y && eB c b z
    | _ => false
  | .cmp o a b => match x with
    | .Compare y [p] [z] _ => copB o p && eB c a y && eB c b z && (behindInMarks p z == false)
    | _ => false
  | .cmp2 o o' a b d => match x with
    | .Compare y [p, p'] [z, w] _ => copB o p && copB o' p' && eB c a y && eB c b z && eB c d w && (lastMarks [p, p'] [z, w] == false)
    | _ => false
  | .isN neg a => match x with
    | .Compare y [p] [.Constant .none _ _] _ => (match p with | .Is => !neg | .IsNot => neg | _ => false) && eB c a y
    | _ => false
  | .and a b => match x with
    | .BoolOp .And (y :: z :: r) pos => testX y && eB c a y && (match r with
      | [] => testX z && eB c b z
      | _ => eB c b (.BoolOp .And (z :: r) pos))
    | _ => false
  | .or a b => match x with
    | .BoolOp .Or (y :: z :: r) pos => testX y && eB c a y && (match r with
      | [] => testX z && eB c b z
      | _ => eB c b (.BoolOp .Or (z :: r) pos))
    | _ => false
  | .not a => match x with
    | .UnaryOp .Not y _ => testX y && eB c a y
    | _ => false
  | .neg a => match x with
    | .UnaryOp .USub y _ => eB c a y
    | _ => false
  | .ite t a b => match x with
    | .IfExp w y z _ => testX w && eB c t w && eB c a y && eB c b z
    | _ => false
  | .tup es => match x with
    | .Tuple xs _ _ => decide (es.len ≤ 1000) && esB c es xs
    | _ => false
  | .lst es => match x with
    | .List xs _ => decide (es.len ≤ 1000) && esB c es xs
    | _ => false
  | .ix a b => match x with
    | .Subscript y z _ => eB c a y && eB c b z && plainX z
    | _ => false
  | .sl a lo hi => match x with
    | .Subscript y (.Slice l h none _) _ => eB c a y && oB c lo l && oB c hi h
    | _ => false
  | .call f es => match x with
    | .Call w (y :: ys) [] _ => c.kn f && glName c (Str.ofString f) w && esB c es (y :: ys)
    | _ => false
  | .bi b es => match x with
    | .Call w (y :: ys) [] _ => glName c (biName b) w && esB c es (y :: ys)
    | _ => false
  | .isi a t => match x with
    | .Call w [y, z] [] _ => glName c "isinstance" w && eB c a y && plainX y && glName c (tyName t) z
    | _ => false
  | .idx i b => match idxX x with
    | some (y, z) => nameB c i y && plainX z && eB c b z
    | none => false
  | .sset a => match x with
    | .Call w [.Call v [y] [] _] [] _ => glName c "sorted" w && glName c "set" v && plainX y && eB c a y
    | _ => false
  | .cmp3 o o' o2 a b d e => match x with
    | .Compare y [p, p', p2] [z, w, u] _ => copB o p && copB o' p' && copB o2 p2 && eB c a y && eB c b z && eB c d w && eB c e u && (lastMarks [p, p', p2] [z, w, u] == false)
    | _ => false
  | .rev two a => match x with
    | .Subscript y (.Slice l none (some (.UnaryOp .USub (.Constant (.int 1) _ _) _)) _) _ => eB c a y && loX two l
    | _ => false
  | .comp tg own it k e => match x with
    | .ListComp elt [g] scope _ => decide (g.is_async = 0) && tg.slots.all (fun i => (own.map (·.2)).contains i) && (!needT it || tupX g.target) && itB c it g.iter && blkC c.N c.sc scope (own.map fun p => (Str.ofString p.1, p.2)) && tgB (c.in_ scope) tg g.target && osB (c.in_ scope) k g.ifs && eB (c.in_ scope) e elt
    | _ => false
  | .rg1 t a => match x with
    | .Call w [.Call v [y] [] _] [] _ => glName c (if t then "tuple" else "list") w && glName c "range" v && plainX y && eB c a y
    | _ => false
  | .rg2 t a b => match x with
    | .Call w [.Call v [y, z] [] _] [] _ => glName c (if t then "tuple" else "list") w && glName c "range" v && plainX y && plainX z && eB c a y && eB c b z
    | _ => false
def esB (c : Sc) (es : Es) (xs : List Expr) : Bool := match es with
  | .nil => xs.isEmpty
  | .cons e es => match xs with
    | x :: xs => plainX x && eB c e x && esB c es xs
    | _ => false
def oB (c : Sc) (o : Oe) (x : Option Expr) : Bool := match o with
  | .no => x.isNone
  | .so e => match x with
    | some x => eB c e x
    | _ => false
def osB (c : Sc) (o : Oe) (xs : List Expr) : Bool := match o with
  | .no => xs.isEmpty
  | .so e => match xs with
    | [x] => testX x && eB c e x
    | _ => false
def itB (c : Sc) (it : It) (x : Expr) : Bool := match it with
  | .rng1 a => match x with
    | .Call w [y] [] _ => glName c "range" w && plainX y && eB c a y
    | _ => false
  | .rng2 a b => match x with
    | .Call w [y, z] [] _ => glName c "range" w && plainX y && plainX z && eB c a y && eB c b z
    | _ => false
  | .enum a => match x with
    | .Call w [y] [] _ => glName c "enumerate" w && plainX y && eB c a y
    | _ => false
  | .zip a b => match x with
    | .Call w [y, z] [] _ => glName c "zip" w && plainX y && plainX z && eB c a y && eB c b z
    | _ => false
  | .seq e => plainX x && eB c e x
  | .seqo e => plainX x && eB c e x
end
end Q

set_option Elab.async false
set_option linter.all false
set_option maxRecDepth 100000
set_option maxHeartbeats 1000000
/-! SdM: tuple * int. -/
namespace Q
open PySem PySem.Spec PyProof.Rows L2
theorem tuple_mul_same (l : Addr) (items : Array Value) (n : Nat) (dd : Option Addr) (sl : Array (Option Value)) (x : Int) (u : Tok) (c0 : (decide (x < -(2 ^ 63)) || decide (x ≥ 2 ^ 63)) = false) (c1 : (items.isEmpty || x == 1) = true) :
    Meets (Builtin.«tuple.__mul__» ⟨[.ref l, .int x u], []⟩) (fun _ R s => s.heap.get? l = some { cls := .type "tuple", dict := dd, data := .seq items n, slots := sl } ∧ R (.ok (.ret (.ref l))) s) :=
  .of_wp fun prog w A R s h => by
    obtain ⟨hp, ge, dr, tk, osv⟩ := s
    obtain ⟨hl, h⟩ := h
    have f1 := AutoSeq1.idx_int
    wp_walk using wpAny_loadPart' hl
    refine wpAny_ite_false (decide_eq_false (by rw [c0]; exact Bool.false_ne_true)) ?_
    wp_walk using wpAny_loadPart' hl
    exact ⟨_, rfl, h⟩
theorem tuple_mul_none (l : Addr) (items : Array Value) (n : Nat) (dd : Option Addr) (sl : Array (Option Value)) (x : Int) (u : Tok) (c0 : (decide (x < -(2 ^ 63)) || decide (x ≥ 2 ^ 63)) = false) (c1 : (items.isEmpty || x == 1) = false) (c2 : (decide (x ≤ 0) || items.isEmpty) = true) :
    Meets (Builtin.«tuple.__mul__» ⟨[.ref l, .int x u], []⟩) (fun _ R s => s.heap.get? l = some { cls := .type "tuple", dict := dd, data := .seq items n, slots := sl } ∧
      R (.ok (.ret (.ref s.heap.objs.size))) { s with heap := s.heap.push { cls := .type "tuple", data := .seq #[] } }) :=
  .of_wp fun prog w A R s h => by
    obtain ⟨hp, ge, dr, tk, osv⟩ := s
    obtain ⟨hl, h⟩ := h
    have f1 := AutoSeq1.idx_int
    wp_walk using wpAny_loadPart' hl
    refine wpAny_ite_false (decide_eq_false (by rw [c0]; exact Bool.false_ne_true)) ?_
    wp_walk using wpAny_loadPart' hl
    exact ⟨_, rfl, h⟩
/-- tuple * int, the int from 0 -/
def rMulT (K : PySem.W.Frag) : R2 := fun x y H Q => ∃ l k xs, x = .ref l ∧ y = .int k ∧ SqT K H l xs ∧ 0 ≤ k ∧ k ≤ 1000 ∧ xs.length ≤ 1000 ∧ ((xs = [] ∨ k = 1) → Q (.ref l) H) ∧ ∀ p, H p = none → Q (.ref p) (upd H p (.tup (List.replicate k.toNat xs).flatten))
section
variable {X : Cx}
theorem op_mulT : OpR X (binaryOp .Mult) (rMulT X.K) := by
  intro pins s σ H x y v u Q I rx ry h
  obtain ⟨l, k, xs, rfl, rfl, hT, h0, h1, hz, q1, q⟩ := h
  by_cases big : xs ≠ [] ∧ 2 ≤ k
  · exact op_repT pins s σ H _ _ v u Q I rx ry ⟨l, k, xs, rfl, rfl, hT, big.1, big.2, h1, hz, q⟩
  cases rx
  obtain ⟨t, rfl⟩ := ry
  obtain ⟨its, r, ⟨⟨cls, dd, data, sl⟩, ho, hc, n, hd⟩, hs⟩ := I.tuple hT
  simp only at hc hd
  subst hc hd
  have hle : its.length = xs.length := r.length.symm
  have c0 : (decide (k < -(2 ^ 63)) || decide (k ≥ 2 ^ 63)) = false := by
    rw [decide_eq_false (by omega), decide_eq_false (by omega)] <;> rfl
  have emp : its.toArray.isEmpty = decide (xs = []) := by
    cases its with
    | nil => rw [List.eq_nil_of_length_eq_zero hle.symm]; rfl
    | cons a b =>
      have : xs ≠ [] := fun e => by rw [e] at hle; cases hle
      rw [decide_eq_false this]
      rfl
  have go : wpAny (model X.prog X.w) X.A (call (.builtin "tuple.__mul__") [.ref l, .int k t]) (EP X pins σ Q) X.xe s → wpAny (model X.prog X.w) X.A (binaryOp .Mult (.ref l) (.int k t)) (EP X pins σ Q) X.xe s := fun hS =>
    wpAny_binaryOp_repeat_ref (T := "tuple") (U := "int") (by decide) ⟨_, ho, rfl⟩ (fun s' => typeIs_int s' k t) noFill_tuple_mul F.fills_int_mul F.slot_int_rmul repeat_tuple F.slot_int_index.lookup
      (call_meets F.slot_int_rmul (typeIs_int s k t) F.entry_int_rmul (F.args_int_rmul_2 _ _) (int_rmul_tuple k t l its.toArray n dd sl) ⟨ho, rfl, ⟨_, ho, rfl⟩, hS⟩)
  by_cases same : xs = [] ∨ k = 1
  · refine go (call_meets F.slot_tuple_mul ⟨_, ho, rfl⟩ F.entry_tuple_mul (F.args_tuple_mul_2 _ _) (tuple_mul_same l its.toArray n dd sl k t c0 ?_) ⟨ho, ⟨.ref l, H, I, rfl, q1 same⟩⟩)
    rcases same with e | e
    · rw [emp, decide_eq_true e]; rfl
    · rw [e]; simp
  · have n1 : xs ≠ [] := fun e => same (.inl e)
    have n2 : k ≠ 1 := fun e => same (.inr e)
    have k0 : k = 0 := by
      by_cases c : 2 ≤ k
      · exact absurd ⟨n1, c⟩ big
      · omega
    subst k0
    refine go (call_meets F.slot_tuple_mul ⟨_, ho, rfl⟩ F.entry_tuple_mul (F.args_tuple_mul_2 _ _) (tuple_mul_none l its.toArray n dd sl 0 t c0 (by rw [emp, decide_eq_false n1]; rfl) rfl) ⟨ho, ?_⟩)
    refine ⟨.ref s.heap.objs.size, _, I.laid (t' := s.toks) (o := .tup []) (fun b ob q => Heap.get?_push_of_some _ q) (Nat.le_refl _) ?_, rfl, q _ (I.hok.fresh (Nat.le_refl _))⟩
    exact ⟨Nat.zero_le _, [], .nil, IsTup.new _ _⟩
end
end Q

set_option Elab.async false
set_option linter.all false
set_option maxRecDepth 100000
set_option maxHeartbeats 1000000
/-! Sd1: the context of a proof, the readings, the operators. -/
namespace Q
open PySem PySem.Spec PyProof.Rows L2

/-- what is wanted of an evaluation -/
def Mt {α : Type} (r : R α) (P : α → Prop) (E : String → Prop) : Prop := match r with
  | .ok a => P a
  | .exc c => E c
  | .bad => False
theorem Mt.bind {α β : Type} {x : R α} {f : α → R β} {P : β → Prop} {E : String → Prop} (h : Mt (x >>= f) P E) : Mt x (fun a => Mt (f a) P E) E := by
  cases x with
  | ok a => exact h
  | exc c => exact h
  | bad => exact h
theorem Mt.imp {α : Type} {x : R α} {P P' : α → Prop} {E E' : String → Prop} (h : Mt x P E) (hp : ∀ a, x = .ok a → P a → P' a) (he : ∀ c, E c → E' c) : Mt x P' E' := by
  cases x with
  | ok a => exact hp a rfl h
  | exc c => exact he c h
  | bad => exact h
theorem Mt.asD {o : O} {P : D → Prop} {E : String → Prop} (h : Mt o.asD P E) : ∃ d, o = .fz d ∧ P d := by
  cases o with
  | fz d => exact ⟨d, rfl, h⟩
  | ol os => exact h.elim
theorem Mt.asInt {d : D} {P : Int → Prop} {E : String → Prop} (h : Mt (asInt d) P E) : ∃ i, d = .int i ∧ P i := by
  cases d <;> first | exact ⟨_, rfl, h⟩ | exact h.elim

/-- what a def promises, by what it is worth -/
def spF (K : PySem.W.Frag) (C : String → Addr) (cd : String → List D → R D) (f : String) : Sp := fun vs H Q E => ∃ (B : Addr → Prop) (ds : List D), (∀ a, B a → ∃ o, H a = some o) ∧ RDs K B H vs ds ∧
  Mt (cd f ds) (fun d => ∀ v H', Same H H' → RD K B H' v d → Q v H') (fun c => ∀ H', Same H H' → E (.ref (C c)) none H')

/-- the built-in names that the rules speak of -/
def bnames : List Str := ["isinstance", "int", "bool", "tuple", "str", "len", "abs", "max", "min", "list", "sorted", "all", "any", "sum", "range", "enumerate", "zip", "set"]
structure Glb (C : String → Addr) (cd : String → List D → R D) (kn : String → Bool) (k : Nat) (P : Program) (w : World) (K : PySem.W.Frag) (mg : Str → Option Value) (base : Heap) : Prop where
  free : ∀ x ∈ bnames, mg x = none
  defs : ∀ f, kn f = true → ∃ a fd ps, mg (Str.ofString f) = some (.ref a) ∧ PySem.W.keepIn K (.ref a) = true ∧ Binds K fd ps [] ∧ FnOk P w K mg base (L2.CX P w) k a fd ps (spF K C cd f)
structure Ctx (C : String → Addr) (cd : String → List D → R D) (k : Nat) (X : Cx) (c : Sc) (W : WX) : Prop where
  N : X.N = c.N
  nd : X.N.Nodup
  sc : X.env.scope = c.sc
  calm : X.calm = true
  room : Room k X.A
  fn : ∀ x, c.fb x = true → X.fn x = true
  tk : Takes X W
  glb : Glb C cd c.kn k X.prog X.w X.K X.mg X.base

section
variable {C : String → Addr} {cd : String → List D → R D} {k : Nat} {X : Cx} {c : Sc} {W : WX}
theorem Ctx.blk (h : Ctx C cd k X c W) (s : Shared) (H : Hp) (scope : Scope) (C' : Addr) (cl : List (Str × Addr)) (fp : List Addr) :
    Ctx C cd k (X.blk s H scope (compEnvC scope cl C' X.env) fp) (c.in_ scope) (fun _ _ _ _ => False) where
  N := h.N
  nd := h.nd
  sc := by
    show relS scope X.env.scope = relS scope c.sc
    rw [h.sc]
  calm := h.calm
  room := h.room
  fn := fun x q => q
  tk := takes0
  glb := h.glb
theorem nk {a : Option NameKind} {b : NameKind} (h : nkEq a b = true) : a = some b := of_decide_eq_true h
theorem Ctx.vis (h : Ctx C cd k X c W) {x : Str} (q : visB c.sc x = true) : Vis X.env.scope x := by
  unfold visB at q
  simp only [Bool.or_eq_true] at q
  rw [Vis, h.sc]
  rcases q with (q | q) | q
  · exact .inl (nk q)
  · exact .inr (.inl (nk q))
  · exact .inr (.inr (nk q))
theorem Ctx.loc (h : Ctx C cd k X c W) {x : Str} (q : locB c.sc x = true) : L2.Loc X.env.scope x := by
  unfold locB at q
  simp only [Bool.or_eq_true] at q
  rw [L2.Loc, h.sc]
  rcases q with q | q
  · exact .inl (nk q)
  · exact .inr (nk q)
theorem Ctx.gl (h : Ctx C cd k X c W) {x : Str} (q : glB c.sc x = true) : Gl X x := by
  show X.env.scope.names.lookup x = some .globalImplicit
  rw [h.sc]
  exact nk q
end

/-! ### readings -/
/-- a new list -/
def FrP (K : PySem.W.Frag) (A : Addr → Prop) (H : Hp) (v : V) (H' : Hp) (d : D) : Prop := ∀ ds, d = .list ds → ∃ p vs, v = .ref p ∧ H p = none ∧ H' p = some (.lst vs) ∧ RDs K (fun a => A a ∨ a = p) H' vs ds
def WP (C : String → Addr) (W : WX) (σ : L2.St) (H : Hp) (c : String) : Prop := ∀ H', Same H H' → W (.ref (C c)) none σ H'
theorem WP.same {C : String → Addr} {W : WX} {σ : L2.St} {H H1 : Hp} (e : Same H H1) {c : String} (h : WP C W σ H c) : WP C W σ H1 c := fun H' e' => h H' (e.trans e')
section
variable (K : PySem.W.Frag) (C : String → Addr) (cd : String → List D → R D) (W : WX)
def tE (e : E) : TE := fun σ H Q => ∃ B own g, SR K B own H σ g ∧
  Mt (e.ev cd g) (fun o => ∀ v H', Same H H' → Bor K (Av B own) H' v o → (e.fresh = true → ∀ d, o = .fz d → FrP K (Av B own) H v H' d) → Q v H') (WP C W σ H)
def tT (e : E) : TT := fun σ H Q => ∃ B own g, SR K B own H σ g ∧
  Mt (e.ev cd g >>= fun o => truth o.toD) (fun b => ∀ H', Same H H' → Q b H') (WP C W σ H)
inductive Bors (K : PySem.W.Frag) (A : Addr → Prop) (H : Hp) : List V → List O → Prop where
  | nil : Bors K A H [] []
  | cons {v : V} {vs : List V} {o : O} {os : List O} (h : Bor K A H v o) (r : Bors K A H vs os) : Bors K A H (v :: vs) (o :: os)
def tEs (es : Es) : TA := fun σ H Q => ∃ B own g, SR K B own H σ g ∧
  Mt (es.evo cd g) (fun os => ∀ vs H', Same H H' → Bors K (Av B own) H' vs os → Q vs H') (WP C W σ H)
end
theorem Bors.same {K : PySem.W.Frag} {A : Addr → Prop} {H H' : Hp} (e : Same H H') : ∀ {vs : List V} {os : List O}, Bors K A H vs os → Bors K A H' vs os
  | _, _, .nil => .nil
  | _, _, .cons h r => .cons (h.same e) (Bors.same e r)
theorem Bors.rds {K : PySem.W.Frag} {A : Addr → Prop} {H : Hp} : ∀ {vs : List V} {os : List O} {ds : List D}, Bors K A H vs os → fzAll os = .ok ds → RDs K A H vs ds
  | _, _, ds, .nil, e => by simp [fzAll] at e; subst e; exact .nil
  | _, _, ds, .cons (o := o) (os := os) h r, e => by
    cases o with
    | ol _ => simp [fzAll] at e
    | fz d =>
      simp only [fzAll] at e
      cases q : fzAll os with
      | ok es => rw [q] at e; simp at e; subst e; exact .cons h.rd (Bors.rds r q)
      | exc c => rw [q] at e; simp at e
      | bad => rw [q] at e; simp at e
theorem Bors.length {K : PySem.W.Frag} {A : Addr → Prop} {H : Hp} : ∀ {vs : List V} {os : List O}, Bors K A H vs os → vs.length = os.length
  | _, _, .nil => rfl
  | _, _, .cons _ r => by simp [Bors.length r]
theorem Es.evo_len {cd : String → List D → R D} : ∀ {es : Es} {g : Env} {os : List O}, es.evo cd g = .ok os → os.length = es.len
  | .nil, g, os, h => by simp [Es.evo] at h; subst h; rfl
  | .cons e es, g, os, h => by
    simp only [Es.evo] at h
    cases q : e.ev cd g with
    | ok o =>
      rw [q] at h
      cases q2 : es.evo cd g with
      | ok os' =>
        rw [q2] at h
        cases h
        simp [Es.len, Es.evo_len q2]
      | exc c => rw [q2] at h; cases h
      | bad => rw [q2] at h; cases h
    | exc c => rw [q] at h; cases h
    | bad => rw [q] at h; cases h
theorem fzAll_ne {os : List O} {c : String} : fzAll os ≠ .exc c := by
  induction os with
  | nil => simp [fzAll]
  | cons o os ih =>
    cases o with
    | ol _ => simp [fzAll]
    | fz d =>
      simp only [fzAll]
      cases q : fzAll os with
      | ok es => simp
      | exc c' => rw [q] at ih; simp; intro z; subst z; exact ih rfl
      | bad => simp
theorem Mt.fzAll {os : List O} {P : List D → Prop} {E : String → Prop} (h : Mt (fzAll os) P E) : ∃ ds, Q.fzAll os = .ok ds ∧ P ds := by
  cases q : Q.fzAll os with
  | ok ds => rw [q] at h; exact ⟨ds, rfl, h⟩
  | exc c => exact absurd q fzAll_ne
  | bad => rw [q] at h; exact h.elim

section
variable {K : PySem.W.Frag} {C : String → Addr} {cd : String → List D → R D} {W : WX} {B : Addr → Prop} {own : Nat → List Addr} {H : Hp} {σ : L2.St} {g : Env}
/-- e is evaluated next -/
theorem useE {e : E} {P : O → Prop} {Ex : String → Prop} {Q : VK} (S : SR K B own H σ g) (h : Mt (e.ev cd g) P Ex) (he : ∀ c, Ex c → WP C W σ H c)
    (hk : ∀ o v H1, e.ev cd g = .ok o → P o → Same H H1 → Bor K (Av B own) H1 v o → (e.fresh = true → ∀ d, o = .fz d → FrP K (Av B own) H v H1 d) → Q v H1) : tE K C cd W e σ H Q :=
  ⟨B, own, g, S, h.imp (fun o q p v H1 e1 b f => hk o v H1 q p e1 b f) he⟩
/-- .. as data -/
theorem useD {e : E} {P : D → Prop} {Ex : String → Prop} {Q : VK} (S : SR K B own H σ g) (h : Mt (e.ev cd g >>= O.asD) P Ex) (he : ∀ c, Ex c → WP C W σ H c)
    (hk : ∀ d v H1, P d → Same H H1 → RD K (Av B own) H1 v d → Q v H1) : tE K C cd W e σ H Q :=
  useE S h.bind he fun o v H1 q p e1 b _ => by
    obtain ⟨d, rfl, p⟩ := p.asD
    exact hk d v H1 p e1 b.rd
theorem useT {e : E} {P : Bool → Prop} {Ex : String → Prop} {Q : Bool → Hp → Prop} (S : SR K B own H σ g) (h : Mt (e.ev cd g >>= fun o => truth o.toD) P Ex) (he : ∀ c, Ex c → WP C W σ H c)
    (hk : ∀ b H1, P b → Same H H1 → Q b H1) : tT K C cd W e σ H Q :=
  ⟨B, own, g, S, h.imp (fun b _ p H1 e1 => hk b H1 p e1) he⟩
theorem useEs {es : Es} {P : List O → Prop} {Ex : String → Prop} {Q : List V → Hp → Prop} (S : SR K B own H σ g) (h : Mt (es.evo cd g) P Ex) (he : ∀ c, Ex c → WP C W σ H c)
    (hk : ∀ os vs H1, P os → Same H H1 → Bors K (Av B own) H1 vs os → Q vs H1) : tEs K C cd W es σ H Q :=
  ⟨B, own, g, S, h.imp (fun os _ p vs H1 e1 b => hk os vs H1 p e1 b) he⟩
end

/-! ### weaker readings -/
theorem PE.imp {X : Cx} {e : Expr} {t t' : TE} (h : PE X e t) (i : ∀ σ H Q, t' σ H Q → t σ H Q) : PE X e t' := ⟨fun pins s σ H Q I q => h.run pins s σ H Q I (i σ H Q q)⟩
theorem PT.imp {X : Cx} {e : Expr} {t t' : TT} (h : PT X e t) (i : ∀ σ H Q, t' σ H Q → t σ H Q) : PT X e t' := ⟨fun pins s σ H Q I q => h.run pins s σ H Q I (i σ H Q q)⟩
theorem PW.imp {X : Cx} {e : Expr} {t t' : TT} (h : PW X e t) (i : ∀ σ H Q, t' σ H Q → t σ H Q) : PW X e t' := ⟨fun wh pins s σ H Q I q => h.run wh pins s σ H Q I (i σ H Q q)⟩
theorem PA.imp {X : Cx} {e : List Expr} {t t' : TA} (h : PA X e t) (i : ∀ σ H Q, t' σ H Q → t σ H Q) : PA X e t' := ⟨fun pos pins s σ H Q I q => h.run pos pins s σ H Q I (i σ H Q q)⟩
theorem PS.imp {X : Cx} {e : Stmt} {t t' : TS} (h : PS X e t) (i : ∀ D σ H, t' D σ H → t D σ H) : PS X e t' := ⟨fun pins s σ H D I q => h.run pins s σ H D I (i D σ H q)⟩
theorem PSs.imp {X : Cx} {e : List Stmt} {t t' : TS} (h : PSs X e t) (i : ∀ D σ H, t' D σ H → t D σ H) : PSs X e t' := ⟨fun pins s σ H D I q => h.run pins s σ H D I (i D σ H q)⟩
theorem PI.imp {X : Cx} {tg iter : Expr} {t t' : TI} (h : PI X tg iter t) (i : ∀ σ H R, t' σ H R → t σ H R) : PI X tg iter t' := ⟨fun pins s σ H R I q => h.run pins s σ H R I (i σ H R q)⟩
theorem PG.imp {X : Cx} {tg : Expr} {t t' : TG} (h : PG X tg t) (i : ∀ v σ H Q, t' v σ H Q → t v σ H Q) : PG X tg t' := ⟨fun pins s σ H v u Q I r q => h.run pins s σ H v u Q I r (i v σ H Q q)⟩
theorem OpR.imp {X : Cx} {f : Value → Value → Sem Value} {r r' : R2} (h : OpR X f r) (i : ∀ x y H Q, r' x y H Q → r x y H Q) : OpR X f r' := fun pins s σ H x y v u Q I rx ry q => h pins s σ H x y v u Q I rx ry (i x y H Q q)
theorem CallR.imp {X : Cx} {f : Value} {r r' : List V → Hp → VK → Prop} (h : CallR X f r) (i : ∀ xs H Q, r' xs H Q → r xs H Q) : CallR X f r' := fun pins s σ H xs us Q I rv q => h pins s σ H xs us Q I rv (i xs H Q q)
theorem IxR.imp {X : Cx} {r r' : R2} (h : IxR X r) (i : ∀ x y H Q, r' x y H Q → r x y H Q) : IxR X r' := fun a b pins s σ H x y v u Q I rx ry q => h a b pins s σ H x y v u Q I rx ry (i x y H Q q)
theorem SlR.imp {X : Cx} {r r' : V → Option Int → Option Int → Hp → VK → Prop} (h : SlR X r) (i : ∀ x l u H Q, r' x l u H Q → r x l u H Q) : SlR X r' := by
  intro pins s σ H x v vl vu lo hi sl Q I rx hs pl pu q
  exact h pins s σ H x v vl vu lo hi sl Q I rx hs pl pu (i x lo hi H Q q)

/-! ### operators, by what they are worth -/
/-- the left one data, the right one borrowed -/
def rS (K : PySem.W.Frag) (F : D → O → R D) : R2 := fun x y H Q => ∃ A dx oy, (∀ a, A a → ∃ o, H a = some o) ∧ RD K A H x dx ∧ Bor K A H y oy ∧
  Mt (F dx oy) (fun d => ∀ v H', Same H H' → RD K A H' v d → FrP K A H v H' d → Q v H') fun _ => False
theorem same_new {H : Hp} {p : Addr} {o : HO} (h : H p = none) : Same H (upd H p o) := fun a u q => by
  rw [upd_ne (fun z => by subst z; rw [h] at q; cases q)]
  exact q
theorem new_not {A : Addr → Prop} {H : Hp} (ha : ∀ a, A a → ∃ o, H a = some o) {p : Addr} (h : H p = none) : ¬ A p := fun z => by
  obtain ⟨o, q⟩ := ha p z
  rw [h] at q; cases q
/-- a new list of standing data -/
theorem new_list {K : PySem.W.Frag} {A : Addr → Prop} {H : Hp} (ha : ∀ a, A a → ∃ o, H a = some o) {p : Addr} (h : H p = none) {vs : List V} {ds : List D} (r : RDs K A H vs ds) :
    RD K A (upd H p (.lst vs)) (.ref p) (.list ds) ∧ FrP K A H (.ref p) (upd H p (.lst vs)) (.list ds) := by
  have e := same_new (o := .lst vs) h
  refine ⟨.lst upd_same (new_not ha h) (r.evo (.same e)), fun ds' q => ⟨p, vs, rfl, h, upd_same, ?_⟩⟩
  cases q
  exact RDs.evo (.same e) (r.evo (.fresh h))
theorem new_tup {K : PySem.W.Frag} {A : Addr → Prop} {H : Hp} (ha : ∀ a, A a → ∃ o, H a = some o) {p : Addr} (h : H p = none) {vs : List V} {ds : List D} (r : RDs K A H vs ds) :
    RD K A (upd H p (.tup vs)) (.ref p) (.tuple ds) := .tup upd_same (new_not ha h) (r.evo (.same (same_new h)))
theorem FrP.no {K : PySem.W.Frag} {A : Addr → Prop} {H H' : Hp} {v : V} {d : D} (h : ∀ ds, d ≠ .list ds) : FrP K A H v H' d := fun ds q => absurd q (h ds)

theorem sz_ok {n : Nat} (h : szOk n = true) : n ≤ sizeLine := by
  have h1 : n ≤ 1000000 := of_decide_eq_true h
  rw [sizeLine_eq]; omega

section
variable {X : Cx}
theorem mul_ok {i j : Int} (h : mulOk i j = true) : IntMulOk i j := by
  have h3 : i.natAbs.log2 + j.natAbs.log2 < 100000000 := of_decide_eq_true h
  have b : ∀ x : Int, Builtin.Int.intBits x ≤ x.natAbs.log2 + 1 := fun x => by
    unfold Builtin.Int.intBits
    split <;> omega
  have h1 := b i
  have h2 := b j
  have e : bitsLine = 134217728 := by decide
  unfold IntMulOk
  intro z
  rw [Bool.and_eq_true] at z
  have z2 := z.2
  unfold Builtin.Int.intTooBig at z2
  have z3 := of_decide_eq_true z2
  rw [e] at z3
  omega
theorem op_mulG : OpR X (binaryOp .Mult) (rI (fun i j => mulOk i j = true) fun i j => .int (i * j)) := opI fun _ _ _ _ _ _ _ hc q => mul_int q (mul_ok hc)

theorem Mt.okP {α : Type} {a : α} {P : α → Prop} {E : String → Prop} (h : Mt (.ok a) P E) : P a := h
theorem Mt.iteP {α : Type} {b : Bool} {x : R α} {P : α → Prop} {E : String → Prop} (h : Mt (if b = true then x else .bad) P E) : b = true ∧ Mt x P E := by
  cases b with
  | true => exact ⟨rfl, h⟩
  | false => exact h.elim

theorem RDs.rep {K : PySem.W.Frag} {A : Addr → Prop} {H : Hp} {vs : List V} {ds : List D} (r : RDs K A H vs ds) : ∀ k : Nat, RDs K A H (List.replicate k vs).flatten (List.replicate k ds).flatten
  | 0 => .nil
  | k + 1 => by
    rw [List.replicate_succ, List.flatten_cons, List.replicate_succ, List.flatten_cons]
    exact r.append (RDs.rep r k)
theorem op_bin {o : BOp} {p : Operator} (hb : bopB o p = true) : OpR X (binaryOp p) (rS X.K fun d o' => o'.asD >>= bop o d) := by
  have key : ∀ {R' : R2}, OpR X (binaryOp p) R' → (∀ x y H Q, (rS X.K fun d o' => o'.asD >>= bop o d) x y H Q → R' x y H Q) → OpR X (binaryOp p) (rS X.K fun d o' => o'.asD >>= bop o d) := fun h i => OpR.imp h i
  cases o with
  | add =>
    have e : p = .Add := by cases p <;> first | rfl | cases hb
    subst e
    refine key ((op_add.or op_cat).or op_catA) fun x y H Q h => ?_
    obtain ⟨A, dx, oy, ha, rx, ry, m⟩ := h
    obtain ⟨dy, rfl, m⟩ := m.bind.asD
    have ry := ry.rd
    cases rx with
    | int i =>
      cases ry with
      | int j => exact .inl (.inl ⟨i, j, rfl, rfl, m.okP _ H (Same.refl H) (.int _) (.no (by intro _ z; cases z))⟩)
      | _ => exact m.elim
    | lst h1 n1 r1 =>
      cases ry with
      | lst h2 n2 r2 =>
        obtain ⟨z, m⟩ := m.iteP
        refine .inl (.inr ⟨_, _, _, _, rfl, rfl, h1, h2, by rw [r1.length, r2.length]; exact sz_ok z, fun q hq => ?_⟩)
        have nl := new_list ha hq (r1.append r2)
        exact m _ _ (same_new hq) nl.1 nl.2
      | _ => exact m.elim
    | tup h1 n1 r1 =>
      cases ry with
      | tup h2 n2 r2 =>
        obtain ⟨z, m⟩ := m.iteP
        refine .inr ⟨_, _, _, _, rfl, rfl, SqT.of h1, SqT.of h2, by rw [r1.length, r2.length]; exact sz_ok z, fun e => ?_, fun e e2 => ?_, fun e e2 q hq => ?_⟩
        · subst e
          cases r1
          exact m _ _ (Same.refl H) (.tup h2 n2 r2) (.no (by intro _ z; cases z))
        · subst e2
          cases r2
          rw [List.append_nil] at m
          exact m _ _ (Same.refl H) (.tup h1 n1 r1) (.no (by intro _ z; cases z))
        · exact m _ _ (same_new hq) (new_tup ha hq (r1.append r2)) (.no (by intro _ z; cases z))
      | _ => exact m.elim
    | _ => cases ry <;> exact m.elim
  | sub =>
    have e : p = .Sub := by cases p <;> first | rfl | cases hb
    subst e
    refine key op_sub fun x y H Q h => ?_
    obtain ⟨A, dx, oy, ha, rx, ry, m⟩ := h
    obtain ⟨dy, rfl, m⟩ := m.bind.asD
    have ry := ry.rd
    cases rx with
    | int i =>
      cases ry with
      | int j => exact ⟨i, j, rfl, rfl, m.okP _ H (Same.refl H) (.int _) (.no (by intro _ z; cases z))⟩
      | _ => exact m.elim
    | _ => cases ry <;> exact m.elim
  | mul =>
    have e : p = .Mult := by cases p <;> first | rfl | cases hb
    subst e
    refine key (op_mulG.or op_mulT) fun x y H Q h => ?_
    obtain ⟨A, dx, oy, ha, rx, ry, m⟩ := h
    obtain ⟨dy, rfl, m⟩ := m.bind.asD
    have ry := ry.rd
    cases rx with
    | int i =>
      cases ry with
      | int j =>
        obtain ⟨z, m⟩ := m.iteP
        exact .inl ⟨i, j, rfl, rfl, z, m.okP _ H (Same.refl H) (.int _) (.no (by intro _ z; cases z))⟩
      | _ => exact m.elim
    | @tup a vs ds h1 n1 r1 =>
      cases ry with
      | int k =>
        obtain ⟨z, m⟩ := m.iteP
        have z : 0 ≤ k ∧ k ≤ 1000 ∧ ds.length ≤ 1000 := of_decide_eq_true z
        refine .inr ⟨a, k, vs, rfl, rfl, SqT.of h1, z.1, z.2.1, by rw [r1.length]; exact z.2.2, fun c => ?_, fun q hq => ?_⟩
        · have e : (List.replicate k.toNat ds).flatten = ds := by
            rcases c with c | c
            · subst c
              cases r1
              simp
            · subst c
              simp
          exact m.okP _ H (Same.refl H) (by rw [e]; exact .tup h1 n1 r1) (.no (by intro _ z; cases z))
        · exact m.okP _ _ (same_new hq) (new_tup ha hq (r1.rep k.toNat)) (.no (by intro _ z; cases z))
      | _ => exact m.elim
    | _ => cases ry <;> exact m.elim
  | mod =>
    have e : p = .Mod := by cases p <;> first | rfl | cases hb
    subst e
    refine key op_mod fun x y H Q h => ?_
    obtain ⟨A, dx, oy, ha, rx, ry, m⟩ := h
    obtain ⟨dy, rfl, m⟩ := m.bind.asD
    have ry := ry.rd
    cases rx with
    | int i =>
      cases ry with
      | int j =>
        obtain ⟨z, m⟩ := m.iteP
        exact ⟨i, j, rfl, rfl, of_decide_eq_true z, m.okP _ H (Same.refl H) (.int _) (.no (by intro _ z; cases z))⟩
      | _ => exact m.elim
    | _ => cases ry <;> exact m.elim
  | fdiv =>
    have e : p = .FloorDiv := by cases p <;> first | rfl | cases hb
    subst e
    refine key op_fdivW fun x y H Q h => ?_
    obtain ⟨A, dx, oy, ha, rx, ry, m⟩ := h
    obtain ⟨dy, rfl, m⟩ := m.bind.asD
    have ry := ry.rd
    cases rx with
    | int i =>
      cases ry with
      | int j =>
        obtain ⟨z, m⟩ := m.iteP
        have z' : 0 < j ∧ j.natAbs.log2 < 9000 := of_decide_eq_true z
        exact ⟨i, j, rfl, rfl, z', m.okP _ H (Same.refl H) (.int _) (.no (by intro _ z; cases z))⟩
      | _ => exact m.elim
    | _ => cases ry <;> exact m.elim
  | shl =>
    have e : p = .LShift := by cases p <;> first | rfl | cases hb
    subst e
    refine key op_shl fun x y H Q h => ?_
    obtain ⟨A, dx, oy, ha, rx, ry, m⟩ := h
    obtain ⟨dy, rfl, m⟩ := m.bind.asD
    have ry := ry.rd
    cases rx with
    | int i =>
      cases ry with
      | int j =>
        obtain ⟨z, m⟩ := m.iteP
        have z' : 0 ≤ j ∧ j ≤ 1000 ∧ i.natAbs < 2 ^ 64 := of_decide_eq_true z
        exact ⟨i, j, rfl, rfl, ⟨z'.1, by omega, z'.2.2⟩, m.okP _ H (Same.refl H) (.int _) (.no (by intro _ z; cases z))⟩
      | _ => exact m.elim
    | _ => cases ry <;> exact m.elim
  | shr =>
    have e : p = .RShift := by cases p <;> first | rfl | cases hb
    subst e
    refine key op_shr fun x y H Q h => ?_
    obtain ⟨A, dx, oy, ha, rx, ry, m⟩ := h
    obtain ⟨dy, rfl, m⟩ := m.bind.asD
    have ry := ry.rd
    cases rx with
    | int i =>
      cases ry with
      | int j =>
        obtain ⟨z, m⟩ := m.iteP
        exact ⟨i, j, rfl, rfl, of_decide_eq_true z, m.okP _ H (Same.refl H) (.int _) (.no (by intro _ z; cases z))⟩
      | _ => exact m.elim
    | _ => cases ry <;> exact m.elim
  | band =>
    have e : p = .BitAnd := by cases p <;> first | rfl | cases hb
    subst e
    refine key op_odd fun x y H Q h => ?_
    obtain ⟨A, dx, oy, ha, rx, ry, m⟩ := h
    obtain ⟨dy, rfl, m⟩ := m.bind.asD
    have ry := ry.rd
    cases rx with
    | int i =>
      cases ry with
      | int j =>
        obtain ⟨z, m2⟩ := m.iteP
        have z' : 0 ≤ i ∧ j = 1 := of_decide_eq_true z
        obtain ⟨z1, rfl⟩ := z'
        have e1 : i = ((i.toNat : Nat) : Int) := by omega
        have e2 : ((i.toNat % 2 : Nat) : Int) = i % 2 := by omega
        exact ⟨i.toNat, by rw [← e1], rfl, by rw [e2]; exact m2.okP _ H (Same.refl H) (.int _) (.no (by intro _ z; cases z))⟩
      | _ => exact m.elim
    | _ => cases ry <;> exact m.elim
end
end Q

set_option Elab.async false
set_option linter.all false
set_option maxRecDepth 100000
set_option maxHeartbeats 1000000
/-! Sd2: comparisons, items, slices, isinstance, built-ins. -/
namespace Q
open PySem PySem.Spec PyProof.Rows L2

theorem lexLt_eq : ∀ (x y : List Int), HT.lexLt x y = lexLt x y
  | [], [] => rfl
  | [], _ :: _ => rfl
  | _ :: _, [] => rfl
  | x :: xs, y :: ys => by
    rw [HT.lexLt_cons, lexLt, lexLt_eq xs ys]

section
variable {X : Cx}
theorem op_inDT (hu : X.A.units + 65 < cLine) : OpR X (compareOp .In) (fun x y H Q => ∃ d ds, Dp X.K H x d ∧ Dp X.K H y (.tuple ds) ∧ SeqAt.shaped d = true ∧ SeqAt.shaped (.tuple ds) = true ∧ Q (.bl (ds.any fun z => PyData.eqv z d)) H) := by
  intro pins s σ H x y v u Q I rx ry h
  obtain ⟨d, ds, hd, he, sd, se, q⟩ := h
  obtain ⟨as, r1⟩ := Dp.reads I d x v hd rx
  obtain ⟨bs, r2⟩ := Dp.reads I (.tuple ds) y u he ry
  exact SeqAt.in_tuple_reads r2 r1 (SeqAt.canLay_of_shaped se) (SeqAt.canLay_of_shaped sd) (room_in_shaped sd hu) ⟨.bl _, H, I, rfl, q⟩
theorem op_notInDT (hu : X.A.units + 65 < cLine) : OpR X (compareOp .NotIn) (fun x y H Q => ∃ d ds, Dp X.K H x d ∧ Dp X.K H y (.tuple ds) ∧ SeqAt.shaped d = true ∧ SeqAt.shaped (.tuple ds) = true ∧ Q (.bl (!ds.any fun z => PyData.eqv z d)) H) := by
  intro pins s σ H x y v u Q I rx ry h
  obtain ⟨d, ds, hd, he, sd, se, q⟩ := h
  obtain ⟨as, r1⟩ := Dp.reads I d x v hd rx
  obtain ⟨bs, r2⟩ := Dp.reads I (.tuple ds) y u he ry
  exact SeqAt.notIn_tuple_reads r2 r1 (SeqAt.canLay_of_shaped se) (SeqAt.canLay_of_shaped sd) (room_in_shaped sd hu) ⟨.bl _, H, I, rfl, q⟩

/-- an answer -/
def rC (K : PySem.W.Frag) (F : D → O → R Bool) : R2 := fun x y H Q => ∃ A dx oy, (∀ a, A a → ∃ o, H a = some o) ∧ RD K A H x dx ∧ Bor K A H y oy ∧
  Mt (F dx oy) (fun b => Q (.bl b) H) fun _ => False
theorem and_shaped {a b : Bool} {α : Type} {x : R α} {P : α → Prop} {E : String → Prop} (h : Mt (if (a && b) = true then x else .bad) P E) : a = true ∧ b = true ∧ Mt x P E := by
  obtain ⟨h1, h2⟩ := h.iteP
  rw [Bool.and_eq_true] at h1
  exact ⟨h1.1, h1.2, h2⟩
theorem lay_of {d : D} (h : SeqAt.shaped d = true) : d.canLay0 = true := SeqAt.canLay_of_shaped h
theorem op_cmp {o : COp} {p : CmpOp} (hb : copB o p = true) (hu : X.A.units + 65 < cLine) : OpR X (compareOp p) (rC X.K fun d o' => cop o d o'.toD) := by
  have key : ∀ {R' : R2}, OpR X (compareOp p) R' → (∀ x y H Q, (rC X.K fun d o' => cop o d o'.toD) x y H Q → R' x y H Q) → OpR X (compareOp p) (rC X.K fun d o' => cop o d o'.toD) := fun h i => OpR.imp h i
  have hu1 : X.A.units + 64 < cLine := by omega
  have hu0 : X.A.units < cLine := by omega
  cases o with
  | lt =>
    have e : p = .Lt := by cases p <;> first | rfl | cases hb
    subst e
    refine key (op_lt.or (op_ltT hu0)) fun x y H Q h => ?_
    obtain ⟨A, dx, oy, ha, rx, ry, m⟩ := h
    cases oy with
    | ol os => cases dx <;> exact m.elim
    | fz dy =>
      have ry := ry.rd
      cases rx with
      | int i =>
        cases ry with
        | int j => exact .inl ⟨i, j, rfl, rfl, m.okP⟩
        | _ => exact m.elim
      | @tup a vs ds h1 n1 r1 =>
        cases ry with
        | @tup b ws es h2 n2 r2 =>
          have m' : Mt (match ints? ds, ints? es with
            | some x, some y => R.ok (lexLt x y)
            | _, _ => .bad) (fun b => Q (.bl b) H) (fun _ => False) := m
          cases q1 : ints? ds with
          | none => rw [q1] at m'; exact m'.elim
          | some ns =>
            cases q2 : ints? es with
            | none => rw [q1, q2] at m'; exact m'.elim
            | some ms =>
              rw [q1, q2] at m'
              obtain ⟨e1, _⟩ := r1.ints_of q1
              obtain ⟨e2, _⟩ := r2.ints_of q2
              subst e1 e2
              exact .inr ⟨_, _, ns, ms, rfl, rfl, SqT.of h1, SqT.of h2, by rw [lexLt_eq]; exact m'.okP⟩
        | _ => exact m.elim
      | _ => cases ry <;> exact m.elim
  | le =>
    have e : p = .LtE := by cases p <;> first | rfl | cases hb
    subst e
    refine key op_le fun x y H Q h => ?_
    obtain ⟨A, dx, oy, ha, rx, ry, m⟩ := h
    cases oy with
    | ol os => cases dx <;> exact m.elim
    | fz dy =>
      have ry := ry.rd
      cases rx with
      | int i =>
        cases ry with
        | int j => exact ⟨i, j, rfl, rfl, m.okP⟩
        | _ => exact m.elim
      | _ => cases ry <;> exact m.elim
  | gt =>
    have e : p = .Gt := by cases p <;> first | rfl | cases hb
    subst e
    refine key op_gt fun x y H Q h => ?_
    obtain ⟨A, dx, oy, ha, rx, ry, m⟩ := h
    cases oy with
    | ol os => cases dx <;> exact m.elim
    | fz dy =>
      have ry := ry.rd
      cases rx with
      | int i =>
        cases ry with
        | int j => exact ⟨i, j, rfl, rfl, m.okP⟩
        | _ => exact m.elim
      | _ => cases ry <;> exact m.elim
  | ge =>
    have e : p = .GtE := by cases p <;> first | rfl | cases hb
    subst e
    refine key op_ge fun x y H Q h => ?_
    obtain ⟨A, dx, oy, ha, rx, ry, m⟩ := h
    cases oy with
    | ol os => cases dx <;> exact m.elim
    | fz dy =>
      have ry := ry.rd
      cases rx with
      | int i =>
        cases ry with
        | int j => exact ⟨i, j, rfl, rfl, m.okP⟩
        | _ => exact m.elim
      | _ => cases ry <;> exact m.elim
  | eq =>
    have e : p = .Eq := by cases p <;> first | rfl | cases hb
    subst e
    refine key (op_eqD hu1) fun x y H Q h => ?_
    obtain ⟨A, dx, oy, ha, rx, ⟨as, _, ry⟩, m⟩ := h
    have m' : Mt (if (SeqAt.shaped dx && SeqAt.shaped oy.toD) = true then R.ok (PyData.eqv dx oy.toD) else .bad) (fun b => Q (.bl b) H) (fun _ => False) := by
      cases dx <;> exact m
    obtain ⟨s1, s2, m2⟩ := and_shaped m'
    exact ⟨dx, oy.toD, rx.dp (lay_of s1), ry.dp (lay_of s2), s1, s2, m2.okP⟩
  | ne =>
    have e : p = .NotEq := by cases p <;> first | rfl | cases hb
    subst e
    refine key (op_neD hu1) fun x y H Q h => ?_
    obtain ⟨A, dx, oy, ha, rx, ⟨as, _, ry⟩, m⟩ := h
    have m' : Mt (if (SeqAt.shaped dx && SeqAt.shaped oy.toD) = true then R.ok (!PyData.eqv dx oy.toD) else .bad) (fun b => Q (.bl b) H) (fun _ => False) := by
      cases dx <;> exact m
    obtain ⟨s1, s2, m2⟩ := and_shaped m'
    exact ⟨dx, oy.toD, rx.dp (lay_of s1), ry.dp (lay_of s2), s1, s2, m2.okP⟩
  | in_ =>
    have e : p = .In := by cases p <;> first | rfl | cases hb
    subst e
    refine key ((op_inD hu).or (op_inDT hu)) fun x y H Q h => ?_
    obtain ⟨A, dx, oy, ha, rx, ⟨as, _, ry⟩, m⟩ := h
    dsimp only at m
    cases q : oy.toD with
    | list ds =>
      rw [q] at m
      have m' : Mt (if (SeqAt.shaped dx && SeqAt.shaped (.list ds)) = true then R.ok (ds.any fun z => PyData.eqv z dx) else .bad) (fun b => Q (.bl b) H) (fun _ => False) := by
        cases dx <;> exact m
      obtain ⟨s1, s2, m2⟩ := and_shaped m'
      have ry' := ry.dp (by rw [q]; exact lay_of s2)
      rw [q] at ry'
      exact .inl ⟨dx, ds, rx.dp (lay_of s1), ry', s1, s2, m2.okP⟩
    | tuple ds =>
      rw [q] at m
      have m' : Mt (if (SeqAt.shaped dx && SeqAt.shaped (.tuple ds)) = true then R.ok (ds.any fun z => PyData.eqv z dx) else .bad) (fun b => Q (.bl b) H) (fun _ => False) := by
        cases dx <;> exact m
      obtain ⟨s1, s2, m2⟩ := and_shaped m'
      have ry' := ry.dp (by rw [q]; exact lay_of s2)
      rw [q] at ry'
      exact .inr ⟨dx, ds, rx.dp (lay_of s1), ry', s1, s2, m2.okP⟩
    | _ => rw [q] at m; cases dx <;> exact m.elim
  | nin =>
    have e : p = .NotIn := by cases p <;> first | rfl | cases hb
    subst e
    refine key ((op_notInD hu).or (op_notInDT hu)) fun x y H Q h => ?_
    obtain ⟨A, dx, oy, ha, rx, ⟨as, _, ry⟩, m⟩ := h
    dsimp only at m
    cases q : oy.toD with
    | list ds =>
      rw [q] at m
      have m' : Mt (if (SeqAt.shaped dx && SeqAt.shaped (.list ds)) = true then R.ok (!ds.any fun z => PyData.eqv z dx) else .bad) (fun b => Q (.bl b) H) (fun _ => False) := by
        cases dx <;> exact m
      obtain ⟨s1, s2, m2⟩ := and_shaped m'
      have ry' := ry.dp (by rw [q]; exact lay_of s2)
      rw [q] at ry'
      exact .inl ⟨dx, ds, rx.dp (lay_of s1), ry', s1, s2, m2.okP⟩
    | tuple ds =>
      rw [q] at m
      have m' : Mt (if (SeqAt.shaped dx && SeqAt.shaped (.tuple ds)) = true then R.ok (!ds.any fun z => PyData.eqv z dx) else .bad) (fun b => Q (.bl b) H) (fun _ => False) := by
        cases dx <;> exact m
      obtain ⟨s1, s2, m2⟩ := and_shaped m'
      have ry' := ry.dp (by rw [q]; exact lay_of s2)
      rw [q] at ry'
      exact .inr ⟨dx, ds, rx.dp (lay_of s1), ry', s1, s2, m2.okP⟩
    | _ => rw [q] at m; cases dx <;> exact m.elim
  | is_ =>
    have e : p = .Is := by cases p <;> first | rfl | cases hb
    subst e
    refine key op_isBl fun x y H Q h => ?_
    obtain ⟨A, dx, oy, ha, rx, ry, m⟩ := h
    cases oy with
    | ol os => cases dx <;> exact m.elim
    | fz dy =>
      have ry := ry.rd
      cases ry with
      | bl b =>
        cases rx with
        | bl a => exact ⟨a, b, rfl, rfl, m.okP⟩
        | _ => exact m.elim
      | _ => cases rx <;> exact m.elim
  | isn =>
    have e : p = .IsNot := by cases p <;> first | rfl | cases hb
    subst e
    refine key op_notBl fun x y H Q h => ?_
    obtain ⟨A, dx, oy, ha, rx, ry, m⟩ := h
    cases oy with
    | ol os => cases dx <;> exact m.elim
    | fz dy =>
      have ry := ry.rd
      cases ry with
      | bl b =>
        cases rx with
        | bl a => exact ⟨a, b, rfl, rfl, m.okP⟩
        | _ => exact m.elim
      | _ => cases rx <;> exact m.elim

/-! ### items -/
theorem at_map {α β : Type} {xs : List α} {ys : List β} (hl : xs.length = ys.length) {i : Int} {y : β} (h : atI ys i = some y) : ∃ j : Nat, ys[j]? = some y ∧ ∀ x, xs[j]? = some x → atI xs i = some x := by
  unfold atI at h ⊢
  rw [hl]
  cases q : ixN ys.length i with
  | none => rw [q] at h; cases h
  | some j =>
    rw [q] at h
    exact ⟨j, h, fun x hx => hx⟩
/-- an item of what is borrowed, borrowed -/
def rI (K : PySem.W.Frag) (F : O → D → R O) : R2 := fun x y H Q => ∃ A ox dy, Bor K A H x ox ∧ RD K A H y dy ∧
  Mt (F ox dy) (fun o => ∀ v, Bor K A H v o → Q v H) fun _ => False
theorem ix_at : IxR X (rI X.K fun o d => asInt d >>= o.at) := by
  refine IxR.imp ix_seq fun x y H Q h => ?_
  obtain ⟨A, ox, dy, rx, ry, m⟩ := h
  obtain ⟨i, rfl, m⟩ := m.bind.asInt
  cases ry
  cases ox with
  | ol os =>
    obtain ⟨as, ia, p, vs, r, e1, e2, e3, e4⟩ := rx
    subst e1
    have m' : Mt (match atI os i with | some o => R.ok o | none => .bad) (fun o => ∀ v, Bor X.K A H v o → Q v H) (fun _ => False) := m
    cases q : atI os i with
    | none => rw [q] at m'; exact m'.elim
    | some o =>
      rw [q] at m'
      obtain ⟨j, hj, hx⟩ := at_map (xs := vs) e4.length q
      obtain ⟨v, a1, hv, hs, hr⟩ := e4.get hj
      exact .inl ⟨p, vs, i, v, rfl, rfl, SqL.of e3, hx v hv, m'.okP v ⟨a1, fun a ha => ia a (by rw [e2]; simp [hs a ha]), hr⟩⟩
  | fz d =>
    have rx := rx.rd
    cases rx with
    | @lst a vs ds h1 n1 r1 =>
      have m' : Mt (match atI ds i with | some o => R.ok (O.fz o) | none => .bad) (fun o => ∀ v, Bor X.K A H v o → Q v H) (fun _ => False) := m
      cases q : atI ds i with
      | none => rw [q] at m'; exact m'.elim
      | some o =>
        rw [q] at m'
        obtain ⟨j, hj, hx⟩ := at_map (xs := vs) r1.length q
        obtain ⟨v, hv, hr⟩ := r1.get hj
        exact .inl ⟨a, vs, i, v, rfl, rfl, SqL.of h1, hx v hv, m'.okP v (.fz hr)⟩
    | @tup a vs ds h1 n1 r1 =>
      have m' : Mt (match atI ds i with | some o => R.ok (O.fz o) | none => .bad) (fun o => ∀ v, Bor X.K A H v o → Q v H) (fun _ => False) := m
      cases q : atI ds i with
      | none => rw [q] at m'; exact m'.elim
      | some o =>
        rw [q] at m'
        obtain ⟨j, hj, hx⟩ := at_map (xs := vs) r1.length q
        obtain ⟨v, hv, hr⟩ := r1.get hj
        exact .inr (.inl ⟨a, vs, i, v, rfl, rfl, SqT.of h1, hx v hv, m'.okP v (.fz hr)⟩)
    | @scr a ns h1 =>
      have m' : Mt (match atI (ns.map fun n => ((PyData.int n, PyData.none) : D × D)) i with | some o => R.ok (O.fz o.1) | none => .bad) (fun o => ∀ v, Bor X.K A H v o → Q v H) (fun _ => False) := m
      cases q : atI (ns.map fun n => ((PyData.int n, PyData.none) : D × D)) i with
      | none => rw [q] at m'; exact m'.elim
      | some o =>
        rw [q] at m'
        obtain ⟨j, hj, hx⟩ := at_map (xs := ns.map V.int) (by simp) q
        rw [List.getElem?_map] at hj
        cases qn : ns[j]? with
        | none => rw [qn] at hj; cases hj
        | some n =>
          rw [qn] at hj
          cases hj
          exact .inl ⟨a, ns.map V.int, i, .int n, rfl, rfl, h1.sq, hx _ (by rw [List.getElem?_map, qn]; rfl), m'.okP _ (.fz (.int n))⟩
    | _ => exact m.elim

/-! ### slices -/
theorem cut_eq {α β : Type} {xs : List α} {ys : List β} (hl : xs.length = ys.length) (lo hi : Option Int) : HT.sIx xs.length 0 lo = HT.sIx ys.length 0 lo ∧ HT.sIx xs.length xs.length hi = HT.sIx ys.length ys.length hi := by
  rw [hl]; exact ⟨rfl, rfl⟩
theorem RDs.cut {K : PySem.W.Frag} {A : Addr → Prop} {H : Hp} {vs : List V} {ds : List D} (r : RDs K A H vs ds) (lo hi : Option Int) : RDs K A H (cutV vs lo hi) (cutD ds lo hi) := by
  unfold cutV cutD
  rw [r.length]
  exact (r.drop _).take _
def rSl (K : PySem.W.Frag) : V → Option Int → Option Int → Hp → VK → Prop := fun x lo hi H Q => ∃ A ox, (∀ a, A a → ∃ o, H a = some o) ∧ Bor K A H x ox ∧
  Mt (ox.cut lo hi) (fun d => ∀ v H', Same H H' → RD K A H' v d → FrP K A H v H' d → Q v H') fun _ => False
theorem sl_cut : SlR X (rSl X.K) := by
  refine SlR.imp (sl_list.or sl_tupA) fun x lo hi H Q h => ?_
  obtain ⟨A, ox, ha, rx, m⟩ := h
  cases ox with
  | ol os =>
    obtain ⟨as, ia, p, vs, r, e1, e2, e3, e4⟩ := rx
    subst e1
    obtain ⟨ds, q, m⟩ := (Mt.bind (x := fzAll os) (f := fun ds => R.ok (PyData.list (cutD ds lo hi))) m).fzAll
    obtain ⟨r1, _, _⟩ := e4.flat q
    refine .inl ⟨p, vs, rfl, SqL.of e3, fun l hl => ?_⟩
    have nl := new_list ha hl (r1.cut lo hi)
    exact Mt.okP m _ _ (same_new hl) nl.1 nl.2
  | fz d =>
    have rx := rx.rd
    cases rx with
    | lst h1 n1 r1 =>
      refine .inl ⟨_, _, rfl, SqL.of h1, fun l hl => ?_⟩
      have nl := new_list ha hl (r1.cut lo hi)
      exact Mt.okP m _ _ (same_new hl) nl.1 nl.2
    | @scr a ns h1 =>
      have rs := (RDs.ints (K := X.K) (B := A) (H := H) ns).cut lo hi
      refine .inl ⟨_, _, rfl, h1.sq, fun l hl => ?_⟩
      have nl := new_list ha hl rs
      have e : (ns.map fun n => ((PyData.int n, PyData.none) : D × D)).map (·.1) = ns.map PyData.int := by simp
      have m' : Mt (R.ok (PyData.list (cutD ((ns.map fun n => ((PyData.int n, PyData.none) : D × D)).map (·.1)) lo hi))) _ _ := m
      rw [e] at m'
      exact Mt.okP m' _ _ (same_new hl) nl.1 nl.2
    | @tup a vs ds h1 n1 r1 =>
      refine .inr ⟨a, vs, rfl, SqT.of h1, fun e => ?_, fun e p hp => ?_⟩
      · have ed : cutD ds lo hi = ds := by
          unfold cutD
          rw [← r1.length, e.1, e.2, r1.length]
          simp
        exact m.okP _ _ (Same.refl H) (by rw [ed]; exact .tup h1 n1 r1) (.no (by intro _ z; cases z))
      · exact m.okP _ _ (same_new hp) (new_tup ha hp (r1.cut lo hi)) (.no (by intro _ z; cases z))
    | _ => exact m.elim
end
end Q

set_option Elab.async false
set_option linter.all false
/-! Srt: the sorts of the small language are the sorts. -/
namespace Q
open PySem

theorem lex_irr : ∀ (x : List Int), lexLt x x = false
  | [] => rfl
  | a :: as => by simp [lexLt, lex_irr as]
theorem lex_tri : ∀ (x y : List Int), lexLt x y = false → lexLt y x = false → x = y
  | [], [], _, _ => rfl
  | [], _ :: _, h, _ => by simp [lexLt] at h
  | _ :: _, [], _, h => by simp [lexLt] at h
  | a :: as, b :: bs, h1, h2 => by
    simp only [lexLt] at h1 h2
    by_cases e : a = b
    · subst e
      simp only [if_true] at h1 h2
      rw [lex_tri as bs h1 h2]
    · rw [if_neg e] at h1
      rw [if_neg (Ne.symm e)] at h2
      have := of_decide_eq_false h1
      have := of_decide_eq_false h2
      omega
theorem lex_asym : ∀ (x y : List Int), lexLt x y = true → lexLt y x = false
  | [], [], h => by simp [lexLt] at h
  | [], _ :: _, _ => rfl
  | _ :: _, [], h => by simp [lexLt] at h
  | a :: as, b :: bs, h => by
    simp only [lexLt] at h ⊢
    by_cases e : a = b
    · subst e
      simp only [if_true] at h ⊢
      exact lex_asym as bs h
    · rw [if_neg e] at h
      rw [if_neg (Ne.symm e)]
      have := of_decide_eq_true h
      exact decide_eq_false (by omega)
/-- not less is carried on -/
theorem lex_trans : ∀ (x y z : List Int), lexLt y x = false → lexLt z y = false → lexLt z x = false
  | [], [], z, _, h => h
  | [], _ :: _, [], _, h => by simp [lexLt] at h
  | [], _ :: _, _ :: _, _, _ => rfl
  | _ :: _, [], _, h, _ => by simp [lexLt] at h
  | a :: as, b :: bs, [], _, h => by simp [lexLt] at h
  | a :: as, b :: bs, c :: cs, h1, h2 => by
    simp only [lexLt] at h1 h2 ⊢
    by_cases e1 : b = a
    · subst e1
      simp only [if_true] at h1
      by_cases e2 : c = b
      · subst e2
        simp only [if_true] at h2 ⊢
        exact lex_trans as bs cs h1 h2
      · rw [if_neg e2] at h2 ⊢
        exact h2
    · rw [if_neg e1] at h1
      have g1 := of_decide_eq_false h1
      by_cases e2 : c = b
      · subst e2
        rw [if_neg e1]
        exact decide_eq_false (by omega)
      · rw [if_neg e2] at h2
        have g2 := of_decide_eq_false h2
        rw [if_neg (by omega)]
        exact decide_eq_false (by omega)

theorem insI_perm (x : Int) : ∀ l : List Int, (insI x l).Perm (x :: l)
  | [] => .refl _
  | y :: ys => by
    unfold insI
    split
    · exact .refl _
    · exact ((insI_perm x ys).cons y).trans (.swap x y ys)
theorem sortI_perm : ∀ l : List Int, (sortI l).Perm l
  | [] => .refl _
  | x :: xs => (insI_perm x (sortI xs)).trans ((sortI_perm xs).cons x)
theorem insI_sorted (x : Int) : ∀ l : List Int, l.Pairwise (· ≤ ·) → (insI x l).Pairwise (· ≤ ·)
  | [], _ => List.pairwise_singleton _ _
  | y :: ys, h => by
    unfold insI
    obtain ⟨h1, h2⟩ := List.pairwise_cons.mp h
    split
    · rename_i hx
      refine List.pairwise_cons.mpr ⟨fun z hz => ?_, h⟩
      rcases List.mem_cons.mp hz with e | e
      · subst e; exact hx
      · exact Int.le_trans hx (h1 z e)
    · rename_i hx
      refine List.pairwise_cons.mpr ⟨fun z hz => ?_, insI_sorted x ys h2⟩
      rcases List.mem_cons.mp ((insI_perm x ys).mem_iff.mp hz) with e | e
      · subst e; omega
      · exact h1 z e
theorem sortI_sorted : ∀ l : List Int, (sortI l).Pairwise (· ≤ ·)
  | [] => .nil
  | x :: xs => insI_sorted x _ (sortI_sorted xs)
theorem sortI_unique {l ns : List Int} (p : l.Perm ns) (s : l.Pairwise (· ≤ ·)) : l = sortI ns :=
  List.Perm.eq_of_pairwise (fun a b _ _ h1 h2 => by omega) s (sortI_sorted ns) (p.trans (sortI_perm ns).symm)

theorem insR_perm (x : List Int) : ∀ l : List (List Int), (insR x l).Perm (x :: l)
  | [] => .refl _
  | y :: ys => by
    unfold insR
    split
    · exact ((insR_perm x ys).cons y).trans (.swap x y ys)
    · exact .refl _
theorem sortR_perm : ∀ l : List (List Int), (sortR l).Perm l
  | [] => .refl _
  | x :: xs => (insR_perm x (sortR xs)).trans ((sortR_perm xs).cons x)
abbrev leR (x y : List Int) : Prop := lexLt y x = false
theorem insR_sorted (x : List Int) : ∀ l : List (List Int), l.Pairwise leR → (insR x l).Pairwise leR
  | [], _ => List.pairwise_singleton _ _
  | y :: ys, h => by
    unfold insR
    obtain ⟨h1, h2⟩ := List.pairwise_cons.mp h
    split
    · rename_i hx
      refine List.pairwise_cons.mpr ⟨fun z hz => ?_, insR_sorted x ys h2⟩
      rcases List.mem_cons.mp ((insR_perm x ys).mem_iff.mp hz) with e | e
      · subst e; exact lex_asym _ _ hx
      · exact h1 z e
    · rename_i hx
      have hx : lexLt y x = false := by simpa using hx
      refine List.pairwise_cons.mpr ⟨fun z hz => ?_, h⟩
      rcases List.mem_cons.mp hz with e | e
      · subst e; exact hx
      · exact lex_trans x y z hx (h1 z e)
theorem sortR_sorted : ∀ l : List (List Int), (sortR l).Pairwise leR
  | [] => .nil
  | x :: xs => insR_sorted x _ (sortR_sorted xs)
theorem sortR_unique {l ns : List (List Int)} (p : l.Perm ns) (s : l.Pairwise leR) : l = sortR ns :=
  List.Perm.eq_of_pairwise (fun a b _ _ h1 h2 => lex_tri a b h2 h1) s (sortR_sorted ns) (p.trans (sortR_perm ns).symm)
theorem foldl_max_spec : ∀ (ns : List Int) (n : Int), (ns.foldl max n = n ∨ ns.foldl max n ∈ ns) ∧ n ≤ ns.foldl max n ∧ ∀ y ∈ ns, y ≤ ns.foldl max n
  | [], n => ⟨.inl rfl, Int.le_refl _, by simp⟩
  | m :: ns, n => by
    obtain ⟨h1, h2, h3⟩ := foldl_max_spec ns (max n m)
    simp only [List.foldl_cons]
    refine ⟨?_, by omega, fun y hy => ?_⟩
    · rcases h1 with h1 | h1
      · rw [h1]
        by_cases e : n ≤ m
        · right; rw [Int.max_eq_right e]; simp
        · left; rw [Int.max_eq_left (by omega)]
      · right; simp [h1]
    · rcases List.mem_cons.mp hy with e | e
      · subst e; omega
      · exact h3 y e
theorem foldl_min_spec : ∀ (ns : List Int) (n : Int), (ns.foldl min n = n ∨ ns.foldl min n ∈ ns) ∧ ns.foldl min n ≤ n ∧ ∀ y ∈ ns, ns.foldl min n ≤ y
  | [], n => ⟨.inl rfl, Int.le_refl _, by simp⟩
  | m :: ns, n => by
    obtain ⟨h1, h2, h3⟩ := foldl_min_spec ns (min n m)
    simp only [List.foldl_cons]
    refine ⟨?_, by omega, fun y hy => ?_⟩
    · rcases h1 with h1 | h1
      · rw [h1]
        by_cases e : n ≤ m
        · left; rw [Int.min_eq_left e]
        · right; rw [Int.min_eq_right (by omega)]; simp
      · right; simp [h1]
    · rcases List.mem_cons.mp hy with e | e
      · subst e; omega
      · exact h3 y e
end Q

set_option Elab.async false
set_option linter.all false
set_option maxRecDepth 100000
set_option maxHeartbeats 1000000
/-! TSort: sorted of a tuple. -/
namespace Q
open PySem PySem.Spec PyProof.Rows L2 SrtO
section
variable {prog : Program} {w : World} {A : Around} {E : Value → Shared → Prop} {s : Shared}
theorem gather_tuple {l : Addr} {vs : List Value} {Q : List Value → Shared → Prop} (hl : IsTup s.heap l vs.toArray) (hz : vs.length ≤ sizeLine)
    (h : Q vs { s with heap := (s.heap.push (seqObj "list" #[] 0)).update s.heap.objs.size (Obj.mapSeq (· ++ vs.toArray)) }) :
    wpAny (model prog w) A (collect (.ref l)) Q E s := by
  obtain ⟨ot, h1, h2, nt, h3⟩ := id hl
  have new : (s.heap.push (seqObj "list" #[] 0)).get? s.heap.objs.size = some (seqObj "list" #[] 0) := Heap.get?_push_size _ rfl
  have old : (s.heap.push (seqObj "list" #[] 0)).get? l = some ot := Heap.get?_push_of_some _ h1
  unfold collect
  refine wpAny_bind (wpAny_runValue (codeAny_builtin entry_proto_collect' (show wpAny _ _ (do again (.builtin "list.__iadd__" ⟨[← newList [], .ref l], []⟩)) _ _ s from ?_)))
  refine wpAny_bind (wpAny_newList (wpAny_pure ⟨Code.quiet_builtin _ (by decide +kernel), codeAny_builtin entry_list_iadd' ?_⟩))
  show wpAny _ _ (Builtin.List.listExtendWith (.ref s.heap.objs.size) (.ref l) (.ref s.heap.objs.size)) _ _ _
  unfold Builtin.List.listExtendWith
  refine wpAny_bind (wpAny_typeOf (T := "tuple") ⟨ot, old, h2⟩ ?_)
  have tt : (Value.type "tuple" == Value.type "tuple") = true := rfl
  rw [if_pos (by rw [tt]; simp)]
  refine wpAny_bind (listItems_at old h3 (wpAny_bind (listItems_at (xs := #[]) (n := 0) new rfl ?_)))
  rw [if_neg (by simp)]
  refine wpAny_bind (listUpdate_at (xs := #[]) (n := 0) new rfl (wpAny_pure ?_) (Nat.zero_le _) (by show (#[] ++ vs.toArray).size ≤ sizeLine + 1; simp only [Array.size_append, List.size_toArray, List.length_nil]; omega))
  show wpAny (model prog w) A (do
      let o ← load s.heap.objs.size
      match o.data with
      | .seq xs _ => pure xs.toList
      | _ => unsupported "internal:collect") Q E _
  refine wpAny_bind (wpAny_load (get?_update_seq new _) ?_)
  have e : ((#[] : Array Value) ++ vs.toArray).toList = vs := by simp
  show wpAny _ _ (pure ((#[] : Array Value) ++ vs.toArray).toList) Q E _
  rw [e]
  exact wpAny_pure h
theorem sorted_tup {l : Addr} {vs : List Value} {ltv : Value → Value → Bool} {Q : Value → Shared → Prop} (O : Swo ltv) (hl : IsTup s.heap l vs.toArray) (hz : vs.length ≤ sizeLine)
    (hS : 2 ≤ vs.length → ∀ (h₁ : Heap) (a : Addr), h₁.get? a = some (seqObj "list" vs.toArray 0) → (∀ b o, s.heap.get? b = some o → b ≠ a ∧ h₁.get? b = some o) → SortableO prog w A.in1.in1 { s with heap := h₁ } a vs ltv)
    (h : ∀ out : List Value, Srtd ltv out → Stb ltv out vs → Q (.ref (s.heap.objs.size + 1)) { s with heap := sortedAll s.heap vs out.toArray }) :
    wpAny (model prog w) A (call (.builtin "sorted") [.ref l]) Q E s := by
  refine Calls.call_function_entry kind_sorted plain_sorted entry_sorted (args_sorted1 _) ?_
  unfold Builtin.«sorted»
  refine wpAny_bind (m := checkCount "sorted" 1 1 _) (wpAny_pure (wpAny_bind (gather_tuple hl hz (wpAny_bind (wpAny_newList ?_ hz)))))
  generalize hu : (s.heap.push (seqObj "list" #[] 0)).update s.heap.objs.size (Obj.mapSeq (· ++ vs.toArray)) = hp
  have sz : hp.objs.size = s.heap.objs.size + 1 := by rw [← hu, Heap.size_update, size_push']
  have at1 : (hp.push (seqObj "list" vs.toArray 0)).get? (s.heap.objs.size + 1) = some (seqObj "list" vs.toArray 0) := by
    rw [← sz]; exact Heap.get?_push_size _ rfl
  have keep : ∀ b o, s.heap.get? b = some o → b ≠ s.heap.objs.size + 1 ∧ (hp.push (seqObj "list" vs.toArray 0)).get? b = some o := fun b o q => by
    have lt := Heap.lt_size q
    refine ⟨Nat.ne_of_lt (Nat.lt_succ_of_lt lt), Heap.get?_push_of_some _ ?_⟩
    rw [← hu, Heap.get?_update_ne _ _ _ _ (Nat.ne_of_lt lt)]
    exact Heap.get?_push_of_some _ q
  show wpAny _ _ _ _ _ { s with heap := hp.push (seqObj "list" vs.toArray 0) }
  rw [sz]
  refine wpAny_bind (wpAny_holding (wpAny_call_entry slot_list_sort ⟨_, at1, rfl⟩ entry_list_sort (list_sort_ord O at1 hz (fun h2 => hS h2 _ _ at1 keep) fun out hs hb => ⟨_, rfl, ?_⟩) (args_list_sort _)))
  refine wpAny_pure ⟨_, rfl, ?_⟩
  have z := h out hs hb
  unfold sortedAll at z
  rw [hu] at z
  exact z
end
section
variable {X : Cx}
theorem sorted_intsT : CallR X (.builtin "sorted") (fun vs H Q => ∃ (a : Addr) (ns : List Int), vs = [V.ref a] ∧ SqT X.K H a (ns.map V.int) ∧
    ∀ (ns' : List Int) (p : Addr), ns'.Perm ns → ns'.Pairwise (· ≤ ·) → H p = none → Q (.ref p) (upd H p (.lst (ns'.map V.int)))) := by
  intro pins s σ H vs us Q I r h
  obtain ⟨a, ns, rfl, hs, q⟩ := h
  obtain ⟨its, rv, hl, hz⟩ := I.tuple hs
  rw [Vals.ref1 r]
  have hi := rv.ints
  refine sorted_tup SrtO.swo_int hl (by rw [← rv.length]; exact hz) (fun h2 h₁ a' _ _ => SrtO.ints_sortable hi h2) fun out h1 h2 => ?_
  obtain ⟨k1, k2, k3⟩ := SrtO.ints_out hi h1 h2
  obtain ⟨ep, he⟩ := PyProof.Rows.sortedAll_at s.heap its out.toArray
  have hlen : ((out.map SrtO.iv).map V.int).length ≤ sizeLine := by
    rw [List.length_map, k2.length_eq]
    simpa using hz
  have J := I.laid (t' := s.toks) (o := .lst ((out.map SrtO.iv).map V.int)) (fun _ _ => PyProof.Rows.sortedAll_old) (Nat.le_succ _) ⟨hlen, out, ep, vals_of_ints k1, he⟩
  exact ⟨.ref _, _, J, rfl, q _ _ k2 k3 (I.hok.fresh (Nat.le_succ _))⟩
theorem sorted_pairsT : CallR X (.builtin "sorted") (fun vs H Q => ∃ (a : Addr) (xs : List V) (k : V → Int × Int), vs = [V.ref a] ∧ SqT X.K H a xs ∧ (∀ x ∈ xs, ∃ t, x = V.ref t ∧ H t = some (.tup [.int (k x).1, .int (k x).2])) ∧
    ∀ ys p, SrtO.Srtd (ltP k) ys → SrtO.Stb (ltP k) ys xs → H p = none → Q (.ref p) (upd H p (.lst ys))) := by
  intro pins s σ H vs us Q I r h
  obtain ⟨a, xs, k, rfl, hs, hx, q⟩ := h
  obtain ⟨its, rv, hl, hz⟩ := I.tuple hs
  obtain ⟨u, rfl, ru⟩ := vals1 r
  obtain rfl : u = Value.ref a := ru
  obtain ⟨e1, e2⟩ := refs_back rv fun x m => let ⟨t, e, _⟩ := hx x m; ⟨t, e⟩
  have pr : ∀ v ∈ its, Srt.IsPair s.heap v (k (backV v)).1 (k (backV v)).2 := fun v hv => by
    obtain ⟨t, rfl⟩ := e2 v hv
    obtain ⟨t', e, ht⟩ := hx (V.ref t) (by rw [e1]; exact List.mem_map.mpr ⟨_, hv, rfl⟩)
    cases e
    obtain ⟨_, its2, r2, o, ho, hc, n, hd⟩ := I.hok _ _ ht
    obtain ⟨u1, u2, rfl, ⟨t1, rfl⟩, ⟨t2, rfl⟩⟩ := vals2 r2
    exact ⟨t, o, t1, t2, n, rfl, ho, hc, hd⟩
  refine sorted_tup (SrtO.swo_lex fun u => k (backV u)) hl (by rw [← rv.length]; exact hz) (fun h2 h₁ a' ha kk => ?_) fun out h1 h2 => ?_
  · refine SrtO.pairs_sortableO (s := { s with heap := h₁ }) (by omega) (fun v hm => (pr v hm).keeps fun b o e _ => (kk b o e).2) fun o e => ?_
    cases (show some o = some (seqObj "list" its.toArray 0) from e.symm.trans ha)
    exact fun c => absurd (Value.type.inj c) (by decide)
  · have h3 : ∀ u ∈ out, ∃ a, u = Value.ref a := fun u hu => e2 u (h2.perm.mem_iff.mp hu)
    obtain ⟨ep, he⟩ := PyProof.Rows.sortedAll_at s.heap its out.toArray
    have hb : SrtO.Stb (ltP k) (out.map backV) xs := by
      rw [e1]
      exact SrtO.Stb.map (ltP_swo k) backV h2
    have J := I.laid (t' := s.toks) (o := .lst (out.map backV)) (fun _ _ => PyProof.Rows.sortedAll_old) (Nat.le_succ _) ⟨by rw [hb.len]; exact hz, out, ep, vals_back h3, he⟩
    exact ⟨.ref _, _, J, rfl, q _ _ (SrtO.srtd_map h1) hb (I.hok.fresh (Nat.le_succ _))⟩
end
end Q

set_option Elab.async false
set_option linter.all false
set_option maxRecDepth 100000
set_option maxHeartbeats 1000000
/-! TSort2: sorted of pairs of an int and a tuple of ints. -/
namespace Q
open PySem PySem.Spec PyProof.Rows L2 SrtO
/-- an int and a tuple of ints -/
def IsPT (h : Heap) (v : Value) (x : Int) (ns : List Int) : Prop := ∃ a o t b n, v = .ref a ∧ h.get? a = some o ∧ o.cls = .type "tuple" ∧ o.data = .seq #[.int x t, .ref b] n ∧ ∃ items, IsTup h b items ∧ IntsAre items.toList ns
theorem IsPT.keeps {h h' : Heap} {v : Value} {x : Int} {ns : List Int} (p : IsPT h v x ns) (k : ∀ b o, h.get? b = some o → o.cls = .type "tuple" → h'.get? b = some o) : IsPT h' v x ns := by
  obtain ⟨a, o, t, b, n, e, ho, hc, hd, items, ⟨o2, ho2, hc2, n2, hd2⟩, hi⟩ := p
  exact ⟨a, o, t, b, n, e, k _ _ ho hc, hc, hd, items, ⟨o2, k _ _ ho2 hc2, hc2, n2, hd2⟩, hi⟩
theorem reads_ints {h : Heap} : ∀ {us : List Value} {ns : List Int}, IntsAre us ns → ReadsAll h us (ns.map PyData.int) []
  | _, _, .nil => .nil
  | _, _, .cons _ _ r => ReadsAll.cons (as := []) (bs := []) (Reads.int _ _) (reads_ints r)
theorem lay_ints : ∀ ns : List Int, PyData.canLayAll0 (ns.map PyData.int) = true ∧ PyData.depthAll (ns.map PyData.int) ≤ 0
  | [] => ⟨rfl, Nat.le_refl _⟩
  | n :: ns => by
    obtain ⟨h1, h2⟩ := lay_ints ns
    refine ⟨?_, ?_⟩
    · simp only [List.map_cons, PyData.canLayAll0, h1, Bool.and_true]; rfl
    · simp only [List.map_cons, PyData.depthAll, PyData.depth]; omega
theorem eqv_ints : ∀ ns ms : List Int, PyData.eqvAll (ns.map PyData.int) (ms.map PyData.int) = decide (ns = ms)
  | [], [] => rfl
  | [], _ :: _ => rfl
  | _ :: _, [] => rfl
  | n :: ns, m :: ms => by
    simp only [List.map_cons, PyData.eqvAll, eqv_ints ns ms]
    by_cases h1 : n = m
    · by_cases h2 : ns = ms <;> simp [PyData.eqv, h1, h2]
    · simp [PyData.eqv, h1]
def lexR (p q : Int × List Int) : Bool := if p.1 = q.1 then HT.lexLt p.2 q.2 else decide (p.1 < q.1)
theorem lexR_row (p q : Int × List Int) : lexR p q = lexLt (p.1 :: p.2) (q.1 :: q.2) := by
  unfold lexR
  rw [lexLt, lexLt_eq]
theorem swo_R {α : Type} (k : α → Int × List Int) : Swo fun v u => lexR (k v) (k u) := by
  refine ⟨fun x y h => ?_, fun x y z h1 h2 => ?_⟩
  · simp only [lexR_row] at h ⊢
    exact lex_asym _ _ h
  · simp only [lexR_row] at h1 h2 ⊢
    exact lex_trans _ _ _ h1 h2
section
variable {prog : Program} {w : World} {A : Around} {E : Value → Shared → Prop} {s : Shared}
theorem pt_cmp {vs : List Value} {k : Value → Int × List Int} (hu : A.units + 4 < cLine) (hp : ∀ v ∈ vs, IsPT s.heap v (k v).1 (k v).2) : Cmp prog w A s (tuples' true) (fun p => p.1 ∈ vs) (lt2 fun v u => lexR (k v) (k u)) := by
  intro p q hm hm'
  have h1 := hp _ hm
  have h2 := hp _ hm'
  show wpAny (model prog w) A (keyLt' (tuples' true) p.1 q.1) (fun r s' => s' = s ∧ r = lexR (k p.1) (k q.1)) (fun _ _ => False) s
  unfold lexR
  generalize (k p.1).1 = x at h1 ⊢
  generalize (k p.1).2 = y at h1 ⊢
  generalize (k q.1).1 = x' at h2 ⊢
  generalize (k q.1).2 = y' at h2 ⊢
  obtain ⟨a, o, t, b, n, e, ho, hc, hd, items, hb, hi⟩ := h1
  obtain ⟨a', o', t', b', n', e', ho', hc', hd', items', hb', hi'⟩ := h2
  rw [e, e']
  refine PySem.W.kat_lt ho hd ho' hd' ?_
  show PySem.W.KatLex prog w A true (decide (2 < 2)) _ [(.int x t, .int x' t'), (.ref b, .ref b')] 0 s
  refine PySem.W.kat_cons (SeqAt.EqAt.int_int x t x' t' prog w _ _ ?_)
  refine PySem.W.kat_go (fun e1 => ?_) (fun e1 => ?_)
  · have ex : x = x' := by simpa using e1
    have eq : SeqAt.EqAt A s (.ref b) (.ref b') (PyData.eqv (.tuple (y.map .int)) (.tuple (y'.map .int))) := by
      obtain ⟨o1, g1, g2, n1, g3⟩ := hb
      obtain ⟨o2, g4, g5, n2, g6⟩ := hb'
      have d1 := lay_ints y
      have d2 := lay_ints y'
      refine SeqAt.eqAt_reads _ _ A s _ _ _ _ (Reads.tuple g1 g2 g3 (reads_ints hi)) (Reads.tuple g4 g5 g6 (reads_ints hi')) d1.1 d2.1 ?_
      have e3 : (PyData.tuple (y.map .int)).depth ≤ 1 := by
        simp only [PyData.depth]
        omega
      omega
    have ev : PyData.eqv (.tuple (y.map .int)) (.tuple (y'.map .int)) = decide (y = y') := eqv_ints y y'
    rw [ev] at eq
    refine PySem.W.kat_yes (PySem.W.kat_cons (eq prog w _ _ ?_))
    refine PySem.W.kat_go (fun e2 => ?_) (fun e2 => ?_)
    · have ey : y = y' := by simpa using e2
      have e3 : (if x = x' then HT.lexLt y y' else decide (x < x')) = false := by
        rw [if_pos ex, ey, lexLt_eq]
        exact lex_irr _
      exact PySem.W.kat_yes (PySem.W.kat_nil ⟨rfl, e3.symm⟩)
    · have e3 : (if x = x' then HT.lexLt y y' else decide (x < x')) = HT.lexLt y y' := if_pos ex
      refine PySem.W.kat_no (PySem.W.kat_one _ _ (HT.lt_tupInts hb hb' hi hi' (by omega) ?_))
      exact (show s = s ∧ HT.lexLt y y' = (if x = x' then HT.lexLt y y' else decide (x < x')) from ⟨rfl, e3.symm⟩)
  · have ex : ¬ x = x' := by simpa using e1
    have e3 : (if x = x' then HT.lexLt y y' else decide (x < x')) = decide (x < x') := if_neg ex
    exact PySem.W.kat_no (oneLt_int ⟨rfl, e3.symm⟩)
theorem firsts_pt {h : Heap} : ∀ {vs : List Value}, (∀ v ∈ vs, ∃ x y, IsPT h v x y) → ∃ fs : List Value, PySem.W.KatTups h vs fs ∧ fs.length = vs.length ∧ ∀ f ∈ fs, ∃ x t, f = Value.int x t
  | [], _ => ⟨[], PySem.W.KatTups.nil, rfl, fun _ hm => by simp at hm⟩
  | v :: vs, hp => by
    obtain ⟨fs, h1, h2, h3⟩ := firsts_pt (vs := vs) fun v' hm => hp v' (List.mem_cons_of_mem _ hm)
    obtain ⟨x, y, a, o, t, b, n, e, ho, hc, hd, _⟩ := hp v (List.mem_cons_self ..)
    subst e
    refine ⟨.int x t :: fs, PySem.W.KatTups.cons ho hc hd rfl h1, by simp [h2], fun f hf => ?_⟩
    rcases List.mem_cons.mp hf with q | q
    · exact ⟨x, t, q⟩
    · exact h3 f q
theorem pts_sortable {a : Addr} {vs : List Value} {k : Value → Int × List Int} (hu : A.units + 4 < cLine) (h0 : 0 < vs.length) (hp : ∀ v ∈ vs, IsPT s.heap v (k v).1 (k v).2) (ha : ∀ o, s.heap.get? a = some o → o.cls ≠ .type "tuple") : SortableO prog w A s a vs fun v u => lexR (k v) (k u) := by
  intro h' keep
  have hp' : ∀ v ∈ vs, IsPT h' v (k v).1 (k v).2 := fun v hm => (hp v hm).keeps fun b o e c => keep b o (fun z => by subst z; exact ha o e c) e
  obtain ⟨fs, h1, h2, h3⟩ := firsts_pt fun v hm => ⟨_, _, hp' v hm⟩
  refine ⟨tuples' true, fun Q E hq => ?_, pt_cmp (s := { s with heap := h' }) hu hp'⟩
  refine PySem.W.kat_kind (T := .type "int") h1 (by omega) (fun f hm => ?_) (by rfl) ?_
  · obtain ⟨x, t, rfl⟩ := h3 f hm
    exact PySem.W.Looks.now
  · have e : (Value.type "int" != Value.type "tuple") = true := by first | decide +kernel | rfl | decide
    rw [e]
    exact hq
end
section
variable {X : Cx}
abbrev ltV (k : V → Int × List Int) (x y : V) : Bool := lexR (k x) (k y)
theorem sorted_pts (hu : X.A.units + 65 < cLine) : CallR X (.builtin "sorted") (fun vs H Q => ∃ (a : Addr) (xs : List V) (k : V → Int × List Int), vs = [V.ref a] ∧ SqL X.K H a xs ∧ (∀ x ∈ xs, ∃ t b, x = V.ref t ∧ H t = some (.tup [.int (k x).1, .ref b]) ∧ H b = some (.tup ((k x).2.map V.int))) ∧
    ∀ ys p, SrtO.Srtd (ltV k) ys → SrtO.Stb (ltV k) ys xs → H p = none → Q (.ref p) (upd H p (.lst ys))) := by
  intro pins s σ H vs us Q I r h
  obtain ⟨a, xs, k, rfl, hs, hx, q⟩ := h
  obtain ⟨its, rv, hl, hz⟩ := I.list hs
  obtain ⟨u, rfl, ru⟩ := vals1 r
  obtain rfl : u = Value.ref a := ru
  obtain ⟨e1, e2⟩ := refs_back rv fun x m => by
    obtain ⟨t, b, e, _⟩ := hx x m
    exact ⟨t, e⟩
  have pr : ∀ v ∈ its, IsPT s.heap v (k (backV v)).1 (k (backV v)).2 := fun v hv => by
    obtain ⟨t, rfl⟩ := e2 v hv
    have hm : V.ref t ∈ xs := by rw [e1]; exact List.mem_map.mpr ⟨_, hv, rfl⟩
    obtain ⟨t', b, e, ht, hb⟩ := hx _ hm
    cases e
    obtain ⟨_, its2, r2, o, ho, hc, n, hd⟩ := I.hok _ _ ht
    obtain ⟨u1, u2, rfl, ri, rj⟩ := vals2 r2
    obtain ⟨t1, rfl⟩ := ri
    obtain rfl : u2 = Value.ref b := rj
    obtain ⟨its3, r3, p3, _⟩ := I.tuple (SqT.of (K := X.K) hb)
    exact ⟨t, o, t1, b, n, rfl, ho, hc, hd, its3.toArray, p3, (show IntsAre its3.toArray.toList _ by rw [List.toList_toArray]; exact r3.ints)⟩
  refine sorted_ord (swo_R fun u => k (backV u)) hl.isList (by rw [← rv.length]; exact hz) (fun h2 h₁ a' ha kk => ?_) fun out h1 h2 => ?_
  · refine pts_sortable (s := { s with heap := h₁ }) (by simp only [units_in1]; omega) (by omega) (fun v hm => (pr v hm).keeps fun b o e _ => (kk b o e).2) fun o e => ?_
    have e' : some o = some (seqObj "list" its.toArray 0) := e.symm.trans ha
    cases e'
    intro c
    exact absurd (Value.type.inj c) (by decide)
  · have h3 : ∀ u ∈ out, ∃ a, u = Value.ref a := fun u hu => e2 u (h2.perm.mem_iff.mp hu)
    obtain ⟨ep, he⟩ := PyProof.Rows.sortedAll_at s.heap its out.toArray
    have hb : SrtO.Stb (ltV k) (out.map backV) xs := by
      rw [e1]
      exact SrtO.Stb.map (swo_R k) backV h2
    have J := I.laid (t' := s.toks) (o := .lst (out.map backV)) (fun _ _ => PyProof.Rows.sortedAll_old) (Nat.le_succ _) ⟨by rw [hb.len]; exact hz, out, ep, vals_back h3, he⟩
    exact ⟨.ref _, _, J, rfl, q _ _ (SrtO.srtd_map h1) hb (I.hok.fresh (Nat.le_succ _))⟩
theorem sorted_ptsT (hu : X.A.units + 65 < cLine) : CallR X (.builtin "sorted") (fun vs H Q => ∃ (a : Addr) (xs : List V) (k : V → Int × List Int), vs = [V.ref a] ∧ SqT X.K H a xs ∧ (∀ x ∈ xs, ∃ t b, x = V.ref t ∧ H t = some (.tup [.int (k x).1, .ref b]) ∧ H b = some (.tup ((k x).2.map V.int))) ∧
    ∀ ys p, SrtO.Srtd (ltV k) ys → SrtO.Stb (ltV k) ys xs → H p = none → Q (.ref p) (upd H p (.lst ys))) := by
  intro pins s σ H vs us Q I r h
  obtain ⟨a, xs, k, rfl, hs, hx, q⟩ := h
  obtain ⟨its, rv, hl, hz⟩ := I.tuple hs
  obtain ⟨u, rfl, ru⟩ := vals1 r
  obtain rfl : u = Value.ref a := ru
  obtain ⟨e1, e2⟩ := refs_back rv fun x m => by
    obtain ⟨t, b, e, _⟩ := hx x m
    exact ⟨t, e⟩
  have pr : ∀ v ∈ its, IsPT s.heap v (k (backV v)).1 (k (backV v)).2 := fun v hv => by
    obtain ⟨t, rfl⟩ := e2 v hv
    have hm : V.ref t ∈ xs := by rw [e1]; exact List.mem_map.mpr ⟨_, hv, rfl⟩
    obtain ⟨t', b, e, ht, hb⟩ := hx _ hm
    cases e
    obtain ⟨_, its2, r2, o, ho, hc, n, hd⟩ := I.hok _ _ ht
    obtain ⟨u1, u2, rfl, ri, rj⟩ := vals2 r2
    obtain ⟨t1, rfl⟩ := ri
    obtain rfl : u2 = Value.ref b := rj
    obtain ⟨its3, r3, p3, _⟩ := I.tuple (SqT.of (K := X.K) hb)
    exact ⟨t, o, t1, b, n, rfl, ho, hc, hd, its3.toArray, p3, (show IntsAre its3.toArray.toList _ by rw [List.toList_toArray]; exact r3.ints)⟩
  refine sorted_tup (swo_R fun u => k (backV u)) hl (by rw [← rv.length]; exact hz) (fun h2 h₁ a' ha kk => ?_) fun out h1 h2 => ?_
  · refine pts_sortable (s := { s with heap := h₁ }) (by simp only [units_in1]; omega) (by omega) (fun v hm => (pr v hm).keeps fun b o e _ => (kk b o e).2) fun o e => ?_
    cases (show some o = some (seqObj "list" its.toArray 0) from e.symm.trans ha)
    exact fun c => absurd (Value.type.inj c) (by decide)
  · have h3 : ∀ u ∈ out, ∃ a, u = Value.ref a := fun u hu => e2 u (h2.perm.mem_iff.mp hu)
    obtain ⟨ep, he⟩ := PyProof.Rows.sortedAll_at s.heap its out.toArray
    have hb : SrtO.Stb (ltV k) (out.map backV) xs := by
      rw [e1]
      exact SrtO.Stb.map (swo_R k) backV h2
    have J := I.laid (t' := s.toks) (o := .lst (out.map backV)) (fun _ _ => PyProof.Rows.sortedAll_old) (Nat.le_succ _) ⟨by rw [hb.len]; exact hz, out, ep, vals_back h3, he⟩
    exact ⟨.ref _, _, J, rfl, q _ _ (SrtO.srtd_map h1) hb (I.hok.fresh (Nat.le_succ _))⟩
end
def intsOf : List V → List Int
  | .int i :: r => i :: intsOf r
  | _ => []
theorem intsOf_map : ∀ ns : List Int, intsOf (ns.map V.int) = ns
  | [] => rfl
  | n :: ns => by rw [List.map_cons, intsOf, intsOf_map ns]
def tupAt (H : Hp) (b : Addr) : List Int := match H b with
  | some (.tup ws) => intsOf ws
  | _ => []
def ptAt (H : Hp) (v : V) : Int × List Int := match v with
  | .ref a => match H a with
    | some (.tup [.int i, .ref b]) => (i, tupAt H b)
    | _ => (0, [])
  | _ => (0, [])
section
variable {K : PySem.W.Frag} {A : Addr → Prop} {H : Hp}
theorem pts_of : ∀ {vs : List V} {ds : List D} {rs : List (List Int)}, RDs K A H vs ds → ptRows? ds = some rs →
    (∀ x ∈ vs, ∃ t b, x = V.ref t ∧ ¬ A t ∧ ¬ A b ∧ H t = some (.tup [.int (ptAt H x).1, .ref b]) ∧ H b = some (.tup ((ptAt H x).2.map V.int))) ∧ rs = vs.map fun x => (ptAt H x).1 :: (ptAt H x).2
  | _, _, rs, .nil, e => by
    simp [ptRows?] at e; subst e; exact ⟨fun x hx => (nomatch hx), rfl⟩
  | _, _, rs, .cons (d := d) (ds := ds) h r, e => by
    unfold ptRows? at e
    split at e
    · rename_i e1; cases e1
    · rename_i x es r' e1
      cases e1
      cases q1 : ints? es with
      | none => rw [q1] at e; cases e
      | some ns =>
        cases q2 : ptRows? ds with
        | none => rw [q1, q2] at e; cases e
        | some y =>
          rw [q1, q2] at e
          cases e
          obtain ⟨i1, i2⟩ := pts_of r q2
          cases h with
          | @tup a vs _ h1 n1 r1 =>
            cases r1 with
            | cons g1 r1 =>
              cases g1
              cases r1 with
              | cons g2 r2 =>
                cases r2
                cases g2 with
                | @tup b ws _ h2 n2 r2 =>
                  obtain ⟨e1, _⟩ := r2.ints_of q1
                  subst e1
                  have hb : tupAt H b = ns := by unfold tupAt; rw [h2]; exact intsOf_map ns
                  have hp : ptAt H (.ref a) = (x, ns) := by
                    simp only [ptAt, h1, hb]
                  refine ⟨fun z hz => ?_, ?_⟩
                  · rcases List.mem_cons.mp hz with z' | z'
                    · subst z'
                      exact ⟨a, b, rfl, n1, n2, by rw [hp]; exact h1, by rw [hp]; exact h2⟩
                    · exact i1 z z'
                  · rw [List.map_cons, hp, ← i2]
    · cases e
theorem rds_pts : ∀ {vs : List V}, (∀ x ∈ vs, ∃ t b, x = V.ref t ∧ ¬ A t ∧ ¬ A b ∧ H t = some (.tup [.int (ptAt H x).1, .ref b]) ∧ H b = some (.tup ((ptAt H x).2.map V.int))) →
    RDs K A H vs ((vs.map fun x => (ptAt H x).1 :: (ptAt H x).2).map ptD)
  | [], _ => .nil
  | v :: vs, h => by
    obtain ⟨t, b, e, n, n2, q, q2⟩ := h v (by simp)
    refine .cons ?_ (rds_pts fun x hx => h x (by simp [hx]))
    subst e
    exact .tup q n (.cons (.int _) (.cons (.tup q2 n2 (RDs.ints _)) .nil))
end
end Q

set_option Elab.async false
set_option linter.all false
set_option maxRecDepth 100000
set_option maxHeartbeats 1000000
/-! Sd3: built-ins by what they are worth. -/
namespace Q
open PySem PySem.Spec PyProof.Rows L2

/-- a call of a built-in over borrowed values -/
def rBi (K : PySem.W.Frag) (F : List O → R D) : List V → Hp → VK → Prop := fun vs H Q => ∃ A os, (∀ a, A a → ∃ o, H a = some o) ∧ Bors K A H vs os ∧
  Mt (F os) (fun d => ∀ v H', Same H H' → RD K A H' v d → FrP K A H v H' d → Q v H') fun _ => False
def biVal : Bi → Value
  | .len => .builtin "len"
  | .int => .type "int"
  | .abs => .builtin "abs"
  | .max2 => .builtin "max"
  | .min2 => .builtin "min"
  | .tuple => .type "tuple"
  | .list => .type "list"
  | .sorted => .builtin "sorted"
  | .all => .builtin "all"
  | .any => .builtin "any"
  | .sum => .builtin "sum"
  | .max1 => .builtin "max"
  | .min1 => .builtin "min"
theorem notInt {ds : List D} {i : Int} : ∀ e, (PyData.int i : D) ≠ .list e := fun _ z => by cases z

section
variable {K : PySem.W.Frag} {A : Addr → Prop} {H : Hp}
theorem Bors.one {vs : List V} {o : O} (h : Bors K A H vs [o]) : ∃ v, vs = [v] ∧ Bor K A H v o := by
  cases h with
  | cons h r => cases r; exact ⟨_, rfl, h⟩
theorem Bors.two {vs : List V} {o o' : O} (h : Bors K A H vs [o, o']) : ∃ v w, vs = [v, w] ∧ Bor K A H v o ∧ Bor K A H w o' := by
  cases h with
  | cons h r =>
    cases r with
    | cons h' r => cases r; exact ⟨_, _, rfl, h, h'⟩
/-- the items of a list or tuple that is read -/
theorem items_of {v : V} {o : O} {P : List D → Prop} {E : String → Prop} (b : Bor K A H v o) (m : Mt o.items P E) : ∃ a vs ds, v = .ref a ∧ RDs K A H vs ds ∧ P ds ∧
    ((SqL K H a vs) ∨ (SqT K H a vs ∧ o = .fz (.tuple ds) ∧ RD K A H v (.tuple ds))) := by
  cases o with
  | ol os =>
    obtain ⟨as, ia, p, vs, r, e1, e2, e3, e4⟩ := b
    subst e1
    obtain ⟨ds, q, m⟩ := Mt.fzAll (os := os) m
    obtain ⟨r1, _, _⟩ := e4.flat q
    exact ⟨p, vs, ds, rfl, r1, m, .inl (SqL.of e3)⟩
  | fz d =>
    have b := b.rd
    cases b with
    | @lst a vs ds h1 n1 r1 => exact ⟨a, vs, ds, rfl, r1, m, .inl (SqL.of h1)⟩
    | @tup a vs ds h1 n1 r1 => exact ⟨a, vs, ds, rfl, r1, m, .inr ⟨SqT.of h1, rfl, .tup h1 n1 r1⟩⟩
    | _ => exact m.elim
end

/-- the pair of ints at an address -/
def pairAt (H : Hp) (v : V) : Int × Int := match v with
  | .ref t => (match H t with
    | some (.tup [.int i, .int j]) => (i, j)
    | _ => (0, 0))
  | _ => (0, 0)
theorem rows_of {K : PySem.W.Frag} {A : Addr → Prop} {H : Hp} : ∀ {vs : List V} {ds : List D} {rs : List (List Int)}, RDs K A H vs ds → intRows? ds = some rs → rs.all (fun r => r.length == 2) = true →
    (∀ x ∈ vs, ∃ t, x = V.ref t ∧ ¬ A t ∧ H t = some (.tup [.int (pairAt H x).1, .int (pairAt H x).2])) ∧ rs = vs.map fun x => [(pairAt H x).1, (pairAt H x).2]
  | _, _, rs, .nil, e, _ => by
    simp [intRows?] at e; subst e
    exact ⟨by simp, rfl⟩
  | _, _, rs, .cons (v := v) (vs := vs) (d := d) (ds := ds) h r, e, hl => by
    cases h with
    | @tup a ws es h n q =>
      simp only [intRows?] at e
      cases q1 : ints? es with
      | none => rw [q1] at e; cases e
      | some x =>
        cases q2 : intRows? ds with
        | none => rw [q1, q2] at e; cases e
        | some y =>
          rw [q1, q2] at e
          cases e
          rw [List.all_cons, Bool.and_eq_true] at hl
          obtain ⟨i1, i2⟩ := rows_of r q2 hl.2
          obtain ⟨e1, e2⟩ := q.ints_of q1
          have hx : ∃ i j, x = [i, j] := by
            match x, hl.1 with
            | [i, j], _ => exact ⟨i, j, rfl⟩
          obtain ⟨i, j, rfl⟩ := hx
          subst e1
          have hp : pairAt H (.ref a) = (i, j) := by
            have h' : H a = some (.tup [.int i, .int j]) := h
            simp only [pairAt, h']
          refine ⟨fun x hx => ?_, ?_⟩
          · rcases List.mem_cons.mp hx with z | z
            · subst z
              exact ⟨a, rfl, n, by rw [hp]; exact h⟩
            · exact i1 x z
          · rw [List.map_cons, hp, ← i2]
    | _ => simp [intRows?] at e
theorem rds_pairs {K : PySem.W.Frag} {A : Addr → Prop} {H : Hp} : ∀ {vs : List V}, (∀ x ∈ vs, ∃ t, x = V.ref t ∧ ¬ A t ∧ H t = some (.tup [.int (pairAt H x).1, .int (pairAt H x).2])) →
    RDs K A H vs ((vs.map fun x => [(pairAt H x).1, (pairAt H x).2]).map fun r => PyData.tuple (r.map .int))
  | [], _ => .nil
  | v :: vs, h => by
    obtain ⟨t, e, n, q⟩ := h v (by simp)
    refine .cons ?_ (rds_pairs fun x hx => h x (by simp [hx]))
    rw [e]
    rw [e] at q
    exact .tup q n (.cons (.int _) (.cons (.int _) .nil))

section
variable {X : Cx}
theorem call_bi (b : Bi) (hc : X.calm = true) (hu : X.A.units + 65 < cLine) : CallR X (biVal b) (rBi X.K (bi b)) := by
  cases b with
  | len =>
    refine CallR.imp call_len_seq fun vs H Q h => ?_
    obtain ⟨A, os, ha, r, m⟩ := h
    match os, r, m with
    | [o], r, m =>
      obtain ⟨v, rfl, b⟩ := r.one
      have seq : ∀ {n : Nat}, Mt (R.ok (PyData.int (n : Nat))) (fun d => ∀ v H', Same H H' → RD X.K A H' v d → FrP X.K A H v H' d → Q v H') (fun _ => False) → Q (.int n) H := fun {n} m => m.okP _ H (Same.refl H) (.int _) (.no fun _ z => nomatch z)
      cases o with
      | ol os =>
        obtain ⟨as, ia, p, ws, r, e1, e2, e3, e4⟩ := b
        subst e1
        exact ⟨p, ws, rfl, .inl (SqL.of e3), by rw [e4.length]; exact seq m⟩
      | fz d =>
        have b := b.rd
        cases b with
        | @lst a ws ds h1 n1 r1 => exact ⟨a, ws, rfl, .inl (SqL.of h1), by rw [r1.length]; exact seq m⟩
        | @tup a ws ds h1 n1 r1 => exact ⟨a, ws, rfl, .inr (SqT.of h1), by rw [r1.length]; exact seq m⟩
        | @scr a ns h1 => exact ⟨a, ns.map V.int, rfl, .inl h1.sq, by
            have e : (ns.map V.int).length = (ns.map fun n => ((PyData.int n, PyData.none) : D × D)).length := by simp
            rw [e]; exact seq m⟩
        | _ => exact m.elim
  | int =>
    refine CallR.imp call_int1 fun vs H Q h => ?_
    obtain ⟨A, os, ha, r, m⟩ := h
    match os, r, m with
    | [.fz (.int i)], r, m =>
      obtain ⟨v, rfl, b⟩ := r.one
      cases b.rd
      exact .inl ⟨i, rfl, m.okP _ H (Same.refl H) (.int _) (.no fun _ z => nomatch z)⟩
    | [.fz (.bool i)], r, m =>
      obtain ⟨v, rfl, b⟩ := r.one
      cases b.rd
      exact .inr ⟨i, rfl, m.okP _ H (Same.refl H) (.int _) (.no fun _ z => nomatch z)⟩
  | abs =>
    refine CallR.imp call_abs fun vs H Q h => ?_
    obtain ⟨A, os, ha, r, m⟩ := h
    match os, r, m with
    | [.fz (.int i)], r, m =>
      obtain ⟨v, rfl, b⟩ := r.one
      cases b.rd
      exact ⟨i, rfl, m.okP _ H (Same.refl H) (.int _) (.no fun _ z => nomatch z)⟩
  | max2 =>
    refine CallR.imp (call_max2 hc) fun vs H Q h => ?_
    obtain ⟨A, os, ha, r, m⟩ := h
    match os, r, m with
    | [.fz (.int i), .fz (.int j)], r, m =>
      obtain ⟨v, w, rfl, b, b'⟩ := r.two
      cases b.rd
      cases b'.rd
      exact ⟨i, j, rfl, m.okP _ H (Same.refl H) (.int _) (.no fun _ z => nomatch z)⟩
  | min2 =>
    refine CallR.imp (call_min2 hc) fun vs H Q h => ?_
    obtain ⟨A, os, ha, r, m⟩ := h
    match os, r, m with
    | [.fz (.int i), .fz (.int j)], r, m =>
      obtain ⟨v, w, rfl, b, b'⟩ := r.two
      cases b.rd
      cases b'.rd
      exact ⟨i, j, rfl, m.okP _ H (Same.refl H) (.int _) (.no fun _ z => nomatch z)⟩
  | tuple =>
    refine CallR.imp call_tuple_of fun vs H Q h => ?_
    obtain ⟨A, os, ha, r, m⟩ := h
    match os, r, m with
    | [o], r, m =>
      obtain ⟨v, rfl, b⟩ := r.one
      obtain ⟨a, ws, ds, rfl, rr, m, hs⟩ := items_of b (Mt.bind (x := o.items) (f := fun ds => R.ok (PyData.tuple ds)) m)
      refine ⟨a, ws, rfl, ?_⟩
      rcases hs with hs | ⟨hs, _, rd⟩
      · exact .inl ⟨hs, fun l hl => m.okP _ _ (same_new hl) (new_tup ha hl rr) (.no fun _ z => nomatch z)⟩
      · exact .inr ⟨hs, m.okP _ _ (Same.refl H) rd (.no fun _ z => nomatch z)⟩
  | list =>
    refine CallR.imp call_list_of fun vs H Q h => ?_
    obtain ⟨A, os, ha, r, m⟩ := h
    match os, r, m with
    | [o], r, m =>
      obtain ⟨v, rfl, b⟩ := r.one
      obtain ⟨a, ws, ds, rfl, rr, m, hs⟩ := items_of b (Mt.bind (x := o.items) (f := fun ds => R.ok (PyData.list ds)) m)
      refine ⟨a, ws, rfl, ?_, fun l hl => ?_⟩
      · rcases hs with hs | ⟨hs, _⟩
        · exact .inl hs
        · exact .inr hs
      · have nl := new_list ha hl rr
        exact m.okP _ _ (same_new hl) nl.1 nl.2
  | sorted =>
    refine CallR.imp (CallR.or (CallR.or (CallR.or cr_sortedI cr_sortedPO) (CallR.or sorted_intsT sorted_pairsT)) (CallR.or (sorted_pts hu) (sorted_ptsT hu))) fun vs H Q h => ?_
    obtain ⟨A, os, ha, r, m⟩ := h
    match os, r, m with
    | [o], r, m =>
      obtain ⟨v, rfl, b⟩ := r.one
      obtain ⟨a, ws, ds, rfl, rr, m, hs⟩ := items_of b (Mt.bind (x := o.items) (f := fun ds => sortD ds >>= fun es => R.ok (PyData.list es)) m)
      have m := Mt.bind (x := sortD ds) (f := fun es => R.ok (PyData.list es)) m
      unfold sortD at m
      cases q1 : ints? ds with
      | some ns =>
        rw [q1] at m
        obtain ⟨e1, e2⟩ := rr.ints_of q1
        subst e1
        have m : ∀ v H', Same H H' → RD X.K A H' v (.list ((sortI ns).map .int)) → FrP X.K A H v H' (.list ((sortI ns).map .int)) → Q v H' := m
        have fin : ∀ (ns' : List Int) (p : Addr), ns'.Perm ns → ns'.Pairwise (· ≤ ·) → H p = none → Q (.ref p) (upd H p (.lst (ns'.map V.int))) := fun ns' p h1 h2 h3 => by
          have e := sortI_unique h1 h2
          subst e
          have nl := new_list ha h3 (RDs.ints (K := X.K) (B := A) (H := H) (sortI ns))
          exact m _ _ (same_new h3) nl.1 nl.2
        rcases hs with hs | ⟨hs, _⟩
        · exact .inl (.inl (.inl ⟨a, ns, rfl, hs, fin⟩))
        · exact .inl (.inr (.inl ⟨a, ns, rfl, hs, fin⟩))
      | none =>
        rw [q1] at m
        cases q2 : intRows? ds with
        | none =>
          rw [q2] at m
          cases q3 : ptRows? ds with
          | none => rw [q3] at m; exact m.elim
          | some rs =>
            rw [q3] at m
            obtain ⟨hx, er⟩ := pts_of rr q3
            have m : ∀ v H', Same H H' → RD X.K A H' v (.list ((sortR rs).map ptD)) → FrP X.K A H v H' (.list ((sortR rs).map ptD)) → Q v H' := m
            have fin : ∀ (ys : List V) (p : Addr), SrtO.Srtd (ltV (ptAt H)) ys → SrtO.Stb (ltV (ptAt H)) ys ws → H p = none → Q (.ref p) (upd H p (.lst ys)) := fun ys p h1 h2 h3 => by
              have e : (ys.map fun x => (ptAt H x).1 :: (ptAt H x).2) = sortR rs := by
                rw [er]
                refine sortR_unique (h2.perm.map _) (List.pairwise_map.mpr (h1.imp fun {x y} q => ?_))
                have q' : lexR (ptAt H y) (ptAt H x) = false := q
                rw [lexR_row] at q'
                exact q'
              have rd := rds_pts (K := X.K) (A := A) (H := H) (vs := ys) fun x hm => hx x (h2.perm.mem_iff.mp hm)
              rw [e] at rd
              have nl := new_list ha h3 rd
              exact m _ _ (same_new h3) nl.1 nl.2
            have hx' : ∀ x ∈ ws, ∃ t b, x = V.ref t ∧ H t = some (.tup [.int (ptAt H x).1, .ref b]) ∧ H b = some (.tup ((ptAt H x).2.map V.int)) := fun x hm => let ⟨t, b, e, _, _, q, q2⟩ := hx x hm; ⟨t, b, e, q, q2⟩
            rcases hs with hs | ⟨hs, _⟩
            · exact .inr (.inl ⟨a, ws, ptAt H, rfl, hs, hx', fin⟩)
            · exact .inr (.inr ⟨a, ws, ptAt H, rfl, hs, hx', fin⟩)
        | some rs =>
          rw [q2] at m
          obtain ⟨z, m⟩ := Mt.iteP m
          obtain ⟨hx, er⟩ := rows_of rr q2 z
          have m : ∀ v H', Same H H' → RD X.K A H' v (.list ((sortR rs).map fun r => .tuple (r.map .int))) → FrP X.K A H v H' (.list ((sortR rs).map fun r => .tuple (r.map .int))) → Q v H' := m
          have fin : ∀ (ys : List V) (p : Addr), SrtO.Srtd (ltP (pairAt H)) ys → SrtO.Stb (ltP (pairAt H)) ys ws → H p = none → Q (.ref p) (upd H p (.lst ys)) := fun ys p h1 h2 h3 => by
            have e : (ys.map fun x => [(pairAt H x).1, (pairAt H x).2]) = sortR rs := by
              rw [er]
              refine sortR_unique (h2.perm.map _) (List.pairwise_map.mpr (h1.imp fun {x y} q => ?_))
              have q' := SrtO.lexB_no.mp q
              simp only [leR, lexLt]
              by_cases c : (pairAt H y).1 = (pairAt H x).1
              · rw [if_pos c]
                by_cases c2 : (pairAt H y).2 = (pairAt H x).2
                · rw [if_pos c2]
                · rw [if_neg c2]
                  exact decide_eq_false fun w => q' (.inr ⟨c, w⟩)
              · rw [if_neg c]
                exact decide_eq_false fun w => q' (.inl w)
            have rd := rds_pairs (K := X.K) (A := A) (H := H) (vs := ys) fun x hm => hx x (h2.perm.mem_iff.mp hm)
            rw [e] at rd
            have nl := new_list ha h3 rd
            exact m _ _ (same_new h3) nl.1 nl.2
          have hx' : ∀ x ∈ ws, ∃ t, x = V.ref t ∧ H t = some (.tup [.int (pairAt H x).1, .int (pairAt H x).2]) := fun x hm => let ⟨t, e, _, q⟩ := hx x hm; ⟨t, e, q⟩
          rcases hs with hs | ⟨hs, _⟩
          · exact .inl (.inl (.inr ⟨a, ws, pairAt H, rfl, hs, hx', fin⟩))
          · exact .inl (.inr (.inr ⟨a, ws, pairAt H, rfl, hs, hx', fin⟩))
  | all =>
    refine CallR.imp (cr_all hc) fun vs H Q h => ?_
    obtain ⟨A, os, ha, r, m⟩ := h
    match os, r, m with
    | [.fz (.list ds)], r, m =>
      obtain ⟨v, rfl, b⟩ := r.one
      have m' : Mt (match bools? ds with | some bs => R.ok (PyData.bool (bs.all id)) | none => .bad) _ _ := m
      cases q : bools? ds with
      | none => rw [q] at m'; exact m'.elim
      | some bs =>
        rw [q] at m'
        have b := b.rd
        cases b with
        | @lst a ws ds h1 n1 r1 =>
          have e := r1.bools_of q
          subst e
          exact ⟨a, bs, rfl, SqL.of h1, Mt.okP m' _ H (Same.refl H) (.bl _) (.no fun _ z => nomatch z)⟩
  | any =>
    refine CallR.imp (cr_any hc) fun vs H Q h => ?_
    obtain ⟨A, os, ha, r, m⟩ := h
    match os, r, m with
    | [.fz (.list ds)], r, m =>
      obtain ⟨v, rfl, b⟩ := r.one
      have m' : Mt (match bools? ds with | some bs => R.ok (PyData.bool (bs.any id)) | none => .bad) _ _ := m
      cases q : bools? ds with
      | none => rw [q] at m'; exact m'.elim
      | some bs =>
        rw [q] at m'
        have b := b.rd
        cases b with
        | @lst a ws ds h1 n1 r1 =>
          have e := r1.bools_of q
          subst e
          exact ⟨a, bs, rfl, SqL.of h1, Mt.okP m' _ H (Same.refl H) (.bl _) (.no fun _ z => nomatch z)⟩
  | sum =>
    refine CallR.imp (cr_sum hc) fun vs H Q h => ?_
    obtain ⟨A, os, ha, r, m⟩ := h
    match os, r, m with
    | [.fz (.list ds)], r, m =>
      obtain ⟨v, rfl, b⟩ := r.one
      have m' : Mt (match ints? ds with | some ns => R.ok (PyData.int ns.sum) | none => .bad) _ _ := m
      cases q : ints? ds with
      | none => rw [q] at m'; exact m'.elim
      | some ns =>
        rw [q] at m'
        have b := b.rd
        cases b with
        | @lst a ws ds h1 n1 r1 =>
          obtain ⟨e, _⟩ := r1.ints_of q
          subst e
          exact ⟨a, ns, rfl, SqL.of h1, Mt.okP m' _ H (Same.refl H) (.int _) (.no fun _ z => nomatch z)⟩
  | max1 =>
    refine CallR.imp (cr_max hc) fun vs H Q h => ?_
    obtain ⟨A, os, ha, r, m⟩ := h
    match os, r, m with
    | [.fz (.list ds)], r, m =>
      obtain ⟨v, rfl, b⟩ := r.one
      have m' : Mt (match ints? ds with | some (n :: ns) => R.ok (PyData.int (ns.foldl max n)) | _ => .bad) _ _ := m
      cases q : ints? ds with
      | none => rw [q] at m'; exact m'.elim
      | some nn =>
        rw [q] at m'
        cases nn with
        | nil => exact m'.elim
        | cons n ns =>
          have b := b.rd
          cases b with
          | @lst a ws ds h1 n1 r1 =>
            obtain ⟨e, _⟩ := r1.ints_of q
            subst e
            refine ⟨a, n :: ns, rfl, SqL.of h1, by simp, fun w hw hm => ?_⟩
            obtain ⟨g1, g2, g3⟩ := foldl_max_spec ns n
            have e : w = ns.foldl max n := by
              have u1 : ns.foldl max n ≤ w := by
                rcases g1 with g | g
                · rw [g]; exact hm n (by simp)
                · exact hm _ (by simp [g])
              have u2 : w ≤ ns.foldl max n := by
                rcases List.mem_cons.mp hw with z | z
                · rw [z]; exact g2
                · exact g3 w z
              omega
            rw [e]
            exact Mt.okP m' _ H (Same.refl H) (.int _) (.no fun _ z => nomatch z)
  | min1 =>
    refine CallR.imp (cr_min hc) fun vs H Q h => ?_
    obtain ⟨A, os, ha, r, m⟩ := h
    match os, r, m with
    | [.fz (.list ds)], r, m =>
      obtain ⟨v, rfl, b⟩ := r.one
      have m' : Mt (match ints? ds with | some (n :: ns) => R.ok (PyData.int (ns.foldl min n)) | _ => .bad) _ _ := m
      cases q : ints? ds with
      | none => rw [q] at m'; exact m'.elim
      | some nn =>
        rw [q] at m'
        cases nn with
        | nil => exact m'.elim
        | cons n ns =>
          have b := b.rd
          cases b with
          | @lst a ws ds h1 n1 r1 =>
            obtain ⟨e, _⟩ := r1.ints_of q
            subst e
            refine ⟨a, n :: ns, rfl, SqL.of h1, by simp, fun w hw hm => ?_⟩
            obtain ⟨g1, g2, g3⟩ := foldl_min_spec ns n
            have e : w = ns.foldl min n := by
              have u1 : w ≤ ns.foldl min n := by
                rcases g1 with g | g
                · rw [g]; exact hm n (by simp)
                · exact hm _ (by simp [g])
              have u2 : ns.foldl min n ≤ w := by
                rcases List.mem_cons.mp hw with z | z
                · rw [z]; exact g2
                · exact g3 w z
              omega
            rw [e]
            exact Mt.okP m' _ H (Same.refl H) (.int _) (.no fun _ z => nomatch z)
end
end Q

set_option Elab.async false
set_option linter.all false
set_option maxRecDepth 100000
set_option maxHeartbeats 1000000
/-! ChkI: what the check tells of the syntax. -/
namespace Q
open PySem L2
section
variable {c : Sc}
theorem glName_inv {s : Str} {x : Expr} (h : glName c s x = true) : ∃ p, x = .Name s p ∧ glB c.sc s = true ∧ (s == ("__debug__" : Str)) = false := by
  cases x <;> simp [glName] at h
  obtain ⟨⟨h1, h2⟩, h3⟩ := h
  subst h1
  exact ⟨_, rfl, h2, by simpa using h3⟩
theorem nameB_inv {i : Nat} {x : Expr} (h : nameB c i x = true) : ∃ y p, x = .Name y p ∧ c.N[i]? = some y ∧ visB c.sc y = true ∧ (y == ("__debug__" : Str)) = false ∧ (y == ("__classdict__" : Str)) = false := by
  cases x <;> simp [nameB, plainName] at h
  obtain ⟨⟨h1, h2⟩, h3, h4⟩ := h
  exact ⟨_, _, rfl, h1, h2, by simpa using h3, by simpa using h4⟩
theorem storeB_inv {i : Nat} {x : Expr} (h : storeB c i x = true) : ∃ y p, x = .Name y p ∧ c.N[i]? = some y ∧ locB c.sc y = true ∧ (c.fb y = true ∨ c.sc.names.lookup y = some .local) := by
  cases x <;> simp [storeB] at h
  obtain ⟨⟨h1, h2⟩, h3⟩ := h
  exact ⟨_, _, rfl, h1, h2, h3.imp id of_decide_eq_true⟩
theorem var_inv {i : Nat} {x : Expr} (h : eB c (.var i) x = true) : nameB c i x = true := by
  cases x <;> simpa [eB] using h
theorem non_inv {x : Expr} (h : eB c .non x = true) : ∃ k p, x = .Constant .none k p := by
  cases x with
  | Constant v k p => cases v <;> simp [eB] at h ⊢
  | _ => simp [eB] at h
theorem bl_inv {b : Bool} {x : Expr} (h : eB c (.bl b) x = true) : ∃ k p, x = .Constant (.bool b) k p := by
  cases x with
  | Constant v k p => cases v <;> simp [eB] at h ⊢; exact h.symm
  | _ => simp [eB] at h
theorem int_inv {i : Int} {x : Expr} (h : eB c (.int i) x = true) : ∃ k p, x = .Constant (.int i) k p := by
  cases x with
  | Constant v k p => cases v <;> simp [eB] at h ⊢; exact h.symm
  | _ => simp [eB] at h
theorem str_inv {s : String} {x : Expr} (h : eB c (.str s) x = true) : ∃ k p, x = .Constant (.str (Str.ofString s)) k p := by
  cases x with
  | Constant v k p => cases v <;> simp [eB] at h ⊢; exact h.symm
  | _ => simp [eB] at h
theorem bin_inv {o : BOp} {a b : E} {x : Expr} (h : eB c (.bin o a b) x = true) : ∃ y p z pos, x = .BinOp y p z pos ∧ bopB o p = true ∧ eB c a y = true ∧ eB c b z = true := by
  cases x <;> simp [eB] at h
  exact ⟨_, _, _, _, rfl, h.1.1, h.1.2, h.2⟩
theorem cmp2_inv {o o' : COp} {a b d : E} {x : Expr} (h : eB c (.cmp2 o o' a b d) x = true) : ∃ y p p' z w pos, x = .Compare y [p, p'] [z, w] pos ∧ copB o p = true ∧ copB o' p' = true ∧ eB c a y = true ∧ eB c b z = true ∧ eB c d w = true ∧ lastMarks [p, p'] [z, w] = false := by
  cases x with
  | Compare y ps zs pos =>
    match ps, zs, h with
    | [p, p'], [z, w], h =>
      simp [eB] at h
      exact ⟨_, _, _, _, _, _, rfl, h.1.1.1.1.1, h.1.1.1.1.2, h.1.1.1.2, h.1.1.2, h.1.2, h.2⟩
    | [], _, h => simp [eB] at h
    | [_], _, h => simp [eB] at h
    | _ :: _ :: _ :: _, _, h => simp [eB] at h
    | [_, _], [], h => simp [eB] at h
    | [_, _], [_], h => simp [eB] at h
    | [_, _], _ :: _ :: _ :: _, h => simp [eB] at h
  | _ => simp [eB] at h
theorem cmp_inv {o : COp} {a b : E} {x : Expr} (h : eB c (.cmp o a b) x = true) : ∃ y p z pos, x = .Compare y [p] [z] pos ∧ copB o p = true ∧ eB c a y = true ∧ eB c b z = true ∧ behindInMarks p z = false := by
  cases x with
  | Compare y ps zs pos =>
    match ps, zs, h with
    | [p], [z], h =>
      simp [eB] at h
      exact ⟨_, _, _, _, rfl, h.1.1.1, h.1.1.2, h.1.2, h.2⟩
    | [], _, h => simp [eB] at h
    | _ :: _ :: _, _, h => simp [eB] at h
    | [_], [], h => simp [eB] at h
    | [_], _ :: _ :: _, h => simp [eB] at h
  | _ => simp [eB] at h
theorem isN_inv {neg : Bool} {a : E} {x : Expr} (h : eB c (.isN neg a) x = true) : ∃ y k p pos, eB c a y = true ∧ ((neg = false ∧ x = .Compare y [.Is] [.Constant .none k p] pos) ∨ (neg = true ∧ x = .Compare y [.IsNot] [.Constant .none k p] pos)) := by
  cases x with
  | Compare y ps zs pos =>
    match ps, zs, h with
    | [], _, h => simp [eB] at h
    | _ :: _ :: _, _, h => simp [eB] at h
    | [_], [], h => simp [eB] at h
    | [_], _ :: _ :: _, h => simp [eB] at h
    | [p], [z], h =>
      cases z with
      | Constant v k q =>
        cases v with
        | none =>
          cases p <;> simp [eB] at h
          · exact ⟨y, k, q, pos, h.2, .inl ⟨h.1, rfl⟩⟩
          · exact ⟨y, k, q, pos, h.2, .inr ⟨h.1, rfl⟩⟩
        | _ => simp [eB] at h
      | _ => simp [eB] at h
  | _ => simp [eB] at h
theorem and_inv {a b : E} {x : Expr} (h : eB c (.and a b) x = true) : ∃ y z r pos, x = .BoolOp .And (y :: z :: r) pos ∧ testX y = true ∧ eB c a y = true ∧
    ((r = [] ∧ testX z = true ∧ eB c b z = true) ∨ (r ≠ [] ∧ eB c b (.BoolOp .And (z :: r) pos) = true)) := by
  cases x with
  | BoolOp o vs pos =>
    cases o with
    | Or => simp [eB] at h
    | And =>
      match vs, h with
      | [], h => simp [eB] at h
      | [_], h => simp [eB] at h
      | y :: z :: [], h =>
        simp [eB] at h
        exact ⟨y, z, [], pos, rfl, h.1.1, h.1.2, .inl ⟨rfl, h.2.1, h.2.2⟩⟩
      | y :: z :: w :: r, h =>
        simp [eB] at h
        exact ⟨y, z, w :: r, pos, rfl, h.1.1, h.1.2, .inr ⟨by simp, h.2⟩⟩
  | _ => simp [eB] at h
theorem or_inv {a b : E} {x : Expr} (h : eB c (.or a b) x = true) : ∃ y z r pos, x = .BoolOp .Or (y :: z :: r) pos ∧ testX y = true ∧ eB c a y = true ∧
    ((r = [] ∧ testX z = true ∧ eB c b z = true) ∨ (r ≠ [] ∧ eB c b (.BoolOp .Or (z :: r) pos) = true)) := by
  cases x with
  | BoolOp o vs pos =>
    cases o with
    | And => simp [eB] at h
    | Or =>
      match vs, h with
      | [], h => simp [eB] at h
      | [_], h => simp [eB] at h
      | y :: z :: [], h =>
        simp [eB] at h
        exact ⟨y, z, [], pos, rfl, h.1.1, h.1.2, .inl ⟨rfl, h.2.1, h.2.2⟩⟩
      | y :: z :: w :: r, h =>
        simp [eB] at h
        exact ⟨y, z, w :: r, pos, rfl, h.1.1, h.1.2, .inr ⟨by simp, h.2⟩⟩
  | _ => simp [eB] at h
theorem not_inv {a : E} {x : Expr} (h : eB c (.not a) x = true) : ∃ y pos, x = .UnaryOp .Not y pos ∧ testX y = true ∧ eB c a y = true := by
  cases x with
  | UnaryOp o y pos => cases o <;> simp [eB] at h; exact ⟨_, _, rfl, h.1, h.2⟩
  | _ => simp [eB] at h
theorem neg_inv {a : E} {x : Expr} (h : eB c (.neg a) x = true) : ∃ y pos, x = .UnaryOp .USub y pos ∧ eB c a y = true := by
  cases x with
  | UnaryOp o y pos => cases o <;> simp [eB] at h; exact ⟨_, _, rfl, h⟩
  | _ => simp [eB] at h
theorem ite_inv {t a b : E} {x : Expr} (h : eB c (.ite t a b) x = true) : ∃ w y z pos, x = .IfExp w y z pos ∧ testX w = true ∧ eB c t w = true ∧ eB c a y = true ∧ eB c b z = true := by
  cases x <;> simp [eB] at h
  exact ⟨_, _, _, _, rfl, h.1.1.1, h.1.1.2, h.1.2, h.2⟩
theorem tup_inv {es : Es} {x : Expr} (h : eB c (.tup es) x = true) : ∃ xs k pos, x = .Tuple xs k pos ∧ es.len ≤ 1000 ∧ esB c es xs = true := by
  cases x <;> simp [eB] at h
  exact ⟨_, _, _, rfl, h.1, h.2⟩
theorem lst_inv {es : Es} {x : Expr} (h : eB c (.lst es) x = true) : ∃ xs pos, x = .List xs pos ∧ es.len ≤ 1000 ∧ esB c es xs = true := by
  cases x <;> simp [eB] at h
  exact ⟨_, _, rfl, h.1, h.2⟩
theorem ix_inv {a b : E} {x : Expr} (h : eB c (.ix a b) x = true) : ∃ y z pos, x = .Subscript y z pos ∧ eB c a y = true ∧ eB c b z = true ∧ plainX z = true := by
  cases x <;> simp [eB] at h
  exact ⟨_, _, _, rfl, h.1.1, h.1.2, h.2⟩
theorem sl_inv {a : E} {lo hi : Oe} {x : Expr} (h : eB c (.sl a lo hi) x = true) : ∃ y l u p pos, x = .Subscript y (.Slice l u none p) pos ∧ eB c a y = true ∧ oB c lo l = true ∧ oB c hi u = true := by
  cases x with
  | Subscript y z pos =>
    cases z with
    | Slice l u s p =>
      cases s <;> simp [eB] at h
      exact ⟨_, _, _, _, _, rfl, h.1.1, h.1.2, h.2⟩
    | _ => simp [eB] at h
  | _ => simp [eB] at h
theorem call_inv {f : String} {es : Es} {x : Expr} (h : eB c (.call f es) x = true) : ∃ w y ys pos, x = .Call w (y :: ys) [] pos ∧ c.kn f = true ∧ glName c (Str.ofString f) w = true ∧ esB c es (y :: ys) = true := by
  cases x with
  | Call w args kws pos =>
    cases args with
    | nil => simp [eB] at h
    | cons y ys =>
      cases kws <;> simp [eB] at h
      exact ⟨_, _, _, _, rfl, h.1.1, h.1.2, h.2⟩
  | _ => simp [eB] at h
theorem bi_inv {f : Bi} {es : Es} {x : Expr} (h : eB c (.bi f es) x = true) : ∃ w y ys pos, x = .Call w (y :: ys) [] pos ∧ glName c (biName f) w = true ∧ esB c es (y :: ys) = true := by
  cases x with
  | Call w args kws pos =>
    cases args with
    | nil => simp [eB] at h
    | cons y ys =>
      cases kws <;> simp [eB] at h
      exact ⟨_, _, _, _, rfl, h.1, h.2⟩
  | _ => simp [eB] at h
theorem isi_inv {a : E} {t : Ty} {x : Expr} (h : eB c (.isi a t) x = true) : ∃ w y z pos, x = .Call w [y, z] [] pos ∧ glName c "isinstance" w = true ∧ eB c a y = true ∧ plainX y = true ∧ glName c (tyName t) z = true := by
  cases x with
  | Call w args kws pos =>
    match args, kws, h with
    | [y, z], [], h =>
      simp [eB] at h
      exact ⟨_, _, _, _, rfl, h.1.1.1, h.1.1.2, h.1.2, h.2⟩
    | [], _, h => simp [eB] at h
    | [_], _, h => simp [eB] at h
    | [_, _], _ :: _, h => simp [eB] at h
    | _ :: _ :: _ :: _, _, h => simp [eB] at h
  | _ => simp [eB] at h
theorem comp_inv {tg : Tg} {own : List (String × Nat)} {it : It} {k : Oe} {e : E} {x : Expr} (h : eB c (.comp tg own it k e) x = true) :
    ∃ elt t iter ifs scope pos, x = .ListComp elt [⟨t, iter, ifs, 0⟩] scope pos ∧ (∀ i ∈ tg.slots, i ∈ own.map (·.2)) ∧ (needT it = true → tupX t = true) ∧ itB c it iter = true ∧ blkC c.N c.sc scope (own.map fun p => (Str.ofString p.1, p.2)) = true ∧ tgB (c.in_ scope) tg t = true ∧ osB (c.in_ scope) k ifs = true ∧ eB (c.in_ scope) e elt = true := by
  cases x with
  | ListComp elt gs scope pos =>
    match gs, h with
    | [⟨t, iter, ifs, n⟩], h =>
      simp only [eB, Bool.and_eq_true, decide_eq_true_eq] at h
      obtain ⟨⟨⟨⟨⟨⟨⟨h0, hsl⟩, hn⟩, h1⟩, h2⟩, h3⟩, h4⟩, h5⟩ := h
      subst h0
      exact ⟨_, _, _, _, _, _, rfl, fun i hi => by simpa using List.all_eq_true.mp hsl i hi, fun z => by simpa [z] using hn, h1, h2, h3, h4, h5⟩
    | [], h => simp [eB] at h
    | _ :: _ :: _, h => simp [eB] at h
  | _ => simp [eB] at h
theorem idxX_inv {x y z : Expr} (h : idxX x = some (y, z)) : ∃ m p q, x = .Call (.Attribute y m p) [z] [] q ∧ m = Str.ofString "index" ∧ p.endLine = q.line := by
  unfold idxX at h
  split at h
  · split at h
    · rename_i g
      cases h
      simp only [Bool.and_eq_true, decide_eq_true_eq, beq_iff_eq] at g
      exact ⟨_, _, _, rfl, g.1, g.2⟩
    · cases h
  · cases h
theorem idx_inv {i : Nat} {b : E} {x : Expr} (h : eB c (.idx i b) x = true) : ∃ y m p z q, x = .Call (.Attribute y m p) [z] [] q ∧ m = Str.ofString "index" ∧ p.endLine = q.line ∧ nameB c i y = true ∧ plainX z = true ∧ eB c b z = true := by
  simp only [eB] at h
  cases q : idxX x with
  | none => rw [q] at h; cases h
  | some r =>
    obtain ⟨y, z⟩ := r
    rw [q] at h
    simp only [Bool.and_eq_true] at h
    obtain ⟨m, p, q', h1, h2, h3⟩ := idxX_inv q
    exact ⟨y, m, p, z, q', h1, h2, h3, h.1.1, h.1.2, h.2⟩
theorem sset_inv {a : E} {x : Expr} (h : eB c (.sset a) x = true) : ∃ w v y p pos, x = .Call w [.Call v [y] [] p] [] pos ∧ glName c "sorted" w = true ∧ glName c "set" v = true ∧ plainX y = true ∧ eB c a y = true := by
  simp only [eB] at h
  split at h
  · simp only [Bool.and_eq_true] at h
    exact ⟨_, _, _, _, _, rfl, h.1.1.1, h.1.1.2, h.1.2, h.2⟩
  · cases h
theorem cmp3_inv {o o' o2 : COp} {a b d e : E} {x : Expr} (h : eB c (.cmp3 o o' o2 a b d e) x = true) : ∃ y p p' p2 z w u pos, x = .Compare y [p, p', p2] [z, w, u] pos ∧ copB o p = true ∧ copB o' p' = true ∧ copB o2 p2 = true ∧ eB c a y = true ∧ eB c b z = true ∧ eB c d w = true ∧ eB c e u = true ∧ lastMarks [p, p', p2] [z, w, u] = false := by
  simp only [eB] at h
  split at h
  · simp only [Bool.and_eq_true, beq_iff_eq] at h
    exact ⟨_, _, _, _, _, _, _, _, rfl, h.1.1.1.1.1.1.1, h.1.1.1.1.1.1.2, h.1.1.1.1.1.2, h.1.1.1.1.2, h.1.1.1.2, h.1.1.2, h.1.2, h.2⟩
  · cases h
theorem rev_inv {two : Bool} {a : E} {x : Expr} (h : eB c (.rev two a) x = true) : ∃ y l k p1 p2 p3 pos, x = .Subscript y (.Slice l none (some (.UnaryOp .USub (.Constant (.int 1) k p1) p2)) p3) pos ∧ eB c a y = true ∧ loX two l = true := by
  simp only [eB] at h
  split at h
  · simp only [Bool.and_eq_true] at h
    exact ⟨_, _, _, _, _, _, _, rfl, h.1, h.2⟩
  · cases h
theorem es_inv {e : E} {es : Es} {xs : List Expr} (h : esB c (.cons e es) xs = true) : ∃ y ys, xs = y :: ys ∧ plainX y = true ∧ eB c e y = true ∧ esB c es ys = true := by
  cases xs with
  | nil => simp [esB] at h
  | cons y ys =>
    simp [esB] at h
    exact ⟨_, _, rfl, h.1.1, h.1.2, h.2⟩
theorem rng1_inv {a : E} {x : Expr} (h : itB c (.rng1 a) x = true) : ∃ w y pos, x = .Call w [y] [] pos ∧ glName c "range" w = true ∧ plainX y = true ∧ eB c a y = true := by
  cases x with
  | Call w args kws pos =>
    match args, kws, h with
    | [y], [], h =>
      simp [itB] at h
      exact ⟨_, _, _, rfl, h.1.1, h.1.2, h.2⟩
    | [], _, h => simp [itB] at h
    | [_], _ :: _, h => simp [itB] at h
    | _ :: _ :: _, _, h => simp [itB] at h
  | _ => simp [itB] at h
theorem enum_inv {a : E} {x : Expr} (h : itB c (.enum a) x = true) : ∃ w y pos, x = .Call w [y] [] pos ∧ glName c "enumerate" w = true ∧ plainX y = true ∧ eB c a y = true := by
  cases x with
  | Call w args kws pos =>
    match args, kws, h with
    | [y], [], h =>
      simp [itB] at h
      exact ⟨_, _, _, rfl, h.1.1, h.1.2, h.2⟩
    | [], _, h => simp [itB] at h
    | [_], _ :: _, h => simp [itB] at h
    | _ :: _ :: _, _, h => simp [itB] at h
  | _ => simp [itB] at h
theorem rng2_inv {a b : E} {x : Expr} (h : itB c (.rng2 a b) x = true) : ∃ w y z pos, x = .Call w [y, z] [] pos ∧ glName c "range" w = true ∧ plainX y = true ∧ plainX z = true ∧ eB c a y = true ∧ eB c b z = true := by
  cases x with
  | Call w args kws pos =>
    match args, kws, h with
    | [y, z], [], h =>
      simp [itB] at h
      exact ⟨_, _, _, _, rfl, h.1.1.1.1, h.1.1.1.2, h.1.1.2, h.1.2, h.2⟩
    | [], _, h => simp [itB] at h
    | [_], _, h => simp [itB] at h
    | [_, _], _ :: _, h => simp [itB] at h
    | _ :: _ :: _ :: _, _, h => simp [itB] at h
  | _ => simp [itB] at h
theorem zip_inv {a b : E} {x : Expr} (h : itB c (.zip a b) x = true) : ∃ w y z pos, x = .Call w [y, z] [] pos ∧ glName c "zip" w = true ∧ plainX y = true ∧ plainX z = true ∧ eB c a y = true ∧ eB c b z = true := by
  cases x with
  | Call w args kws pos =>
    match args, kws, h with
    | [y, z], [], h =>
      simp [itB] at h
      exact ⟨_, _, _, _, rfl, h.1.1.1.1, h.1.1.1.2, h.1.1.2, h.1.2, h.2⟩
    | [], _, h => simp [itB] at h
    | [_], _, h => simp [itB] at h
    | [_, _], _ :: _, h => simp [itB] at h
    | _ :: _ :: _ :: _, _, h => simp [itB] at h
  | _ => simp [itB] at h
theorem rgA_inv {t : Bool} {a : E} {x : Expr} (h : eB c (.rg1 t a) x = true) : ∃ w v y p pos, x = .Call w [.Call v [y] [] p] [] pos ∧ glName c (if t then "tuple" else "list") w = true ∧ glName c "range" v = true ∧ plainX y = true ∧ eB c a y = true := by
  simp only [eB] at h
  split at h
  · simp only [Bool.and_eq_true] at h
    exact ⟨_, _, _, _, _, rfl, h.1.1.1, h.1.1.2, h.1.2, h.2⟩
  · cases h
theorem rgB_inv {t : Bool} {a b : E} {x : Expr} (h : eB c (.rg2 t a b) x = true) : ∃ w v y z p pos, x = .Call w [.Call v [y, z] [] p] [] pos ∧ glName c (if t then "tuple" else "list") w = true ∧ glName c "range" v = true ∧ plainX y = true ∧ plainX z = true ∧ eB c a y = true ∧ eB c b z = true := by
  simp only [eB] at h
  split at h
  · simp only [Bool.and_eq_true] at h
    exact ⟨_, _, _, _, _, _, rfl, h.1.1.1.1.1, h.1.1.1.1.2, h.1.1.1.2, h.1.1.2, h.1.2, h.2⟩
  · cases h
end
end Q

set_option Elab.async false
set_option linter.all false
set_option maxRecDepth 100000
set_option maxHeartbeats 1000000
/-! Sd4: every expression keeps to what it is worth. -/
namespace Q
open PySem PySem.Spec PyProof.Rows L2

section
variable {K : PySem.W.Frag} {A : Addr → Prop} {H : Hp}
theorem Bor.tru {v : V} {o : O} {P : Bool → Prop} {E : String → Prop} (b : Bor K A H v o) (m : Mt (truth o.toD) P E) : ∃ k, TruV K v H k ∧ P k := by
  cases o with
  | ol os =>
    obtain ⟨as, ia, p, vs, r, e1, e2, e3, e4⟩ := b
    subst e1
    refine ⟨_, .inl ⟨vs, SqL.of e3, rfl⟩, ?_⟩
    have e : vs.isEmpty = (O.toDs os).isEmpty := by
      cases os with
      | nil => rw [e4.1]; rfl
      | cons o os => obtain ⟨v, vr, a1, a2, h1, _⟩ := e4; subst h1; rfl
    rw [e]
    exact m
  | fz d =>
    have b := b.rd
    cases b with
    | non => exact ⟨_, rfl, m⟩
    | bl b => exact ⟨_, rfl, m⟩
    | int i =>
      refine ⟨_, rfl, ?_⟩
      have e : (i != 0) = decide (i ≠ 0) := by
        by_cases z : i = 0 <;> simp [z]
      rw [e]
      exact m
    | str x => exact m.elim
    | lst h n r => exact ⟨_, .inl ⟨_, SqL.of h, rfl⟩, by rw [r.isEmpty]; exact m⟩
    | tup h n r => exact ⟨_, .inr (.inl ⟨_, SqT.of h, rfl⟩), by rw [r.isEmpty]; exact m⟩
    | scr h => exact m.elim
theorem RD.none_iff {v : V} {d : D} (r : RD K A H v d) : decide (v = .non) = isNone d := by
  cases r <;> rfl
end
def tyS : Ty → String
  | .int => "int"
  | .bool => "bool"
  | .tuple => "tuple"
  | .str => "str"
theorem kit_bool (t : Ty) : kitB "bool" (tyS t) = some (isTy t (.bool true)) := by cases t <;> decide +kernel
theorem kit_int (t : Ty) : kitB "int" (tyS t) = some (isTy t (.int 0)) := by cases t <;> decide +kernel
theorem kit_non (t : Ty) : kitB "NoneType" (tyS t) = some (isTy t .none) := by cases t <;> decide +kernel
theorem kit_str (t : Ty) : kitB "str" (tyS t) = some (isTy t (.str ⟨#[]⟩)) := by cases t <;> decide +kernel
theorem kit_lst (t : Ty) : kitB "list" (tyS t) = some (isTy t (.list [])) := by cases t <;> decide +kernel
theorem kit_tup (t : Ty) : kitB "tuple" (tyS t) = some (isTy t (.tuple [])) := by cases t <;> decide +kernel
section
variable {K : PySem.W.Frag} {A : Addr → Prop} {H : Hp}
/-- its type's name -/
theorem RD.ty {v : V} {d : D} (t : Ty) (r : RD K A H v d) (hd : ∀ kvs, d ≠ .dict kvs) : ∃ T, TyX K H v (.type T) ∧ kitB T (tyS t) = some (isTy t d) := by
  cases r with
  | non => exact ⟨_, .base .non, kit_non t⟩
  | bl b => exact ⟨_, .base (.bl b), by rw [kit_bool]; cases t <;> rfl⟩
  | int i => exact ⟨_, .base (.int i), by rw [kit_int]; cases t <;> rfl⟩
  | str x => exact ⟨_, .base (.str x), by rw [kit_str]; cases t <;> rfl⟩
  | lst h n r => exact ⟨_, .base (.lst h), by rw [kit_lst]; cases t <;> rfl⟩
  | tup h n r => exact ⟨_, .base (.tup h), by rw [kit_tup]; cases t <;> rfl⟩
  | scr h' => exact absurd rfl (hd _)
end

/-! ### what raises nothing -/
def NoX {α : Type} (r : R α) : Prop := ∀ c, r ≠ .exc c
theorem Mt.noX {α : Type} {r : R α} {P : α → Prop} {E : String → Prop} (h : Mt r P E) (n : NoX r) : Mt r P fun _ => False := by
  cases r with
  | ok a => exact h
  | exc c => exact absurd rfl (n c)
  | bad => exact h
theorem NoX.ok {α : Type} {a : α} : NoX (R.ok a) := fun _ z => by cases z
theorem NoX.bad {α : Type} : NoX (R.bad : R α) := fun _ z => by cases z
theorem NoX.bind {α β : Type} {x : R α} {f : α → R β} (h : NoX x) (g : ∀ a, x = .ok a → NoX (f a)) : NoX (x >>= f) := by
  cases x with
  | ok a => exact g a rfl
  | exc c => exact absurd rfl (h c)
  | bad => exact NoX.bad
theorem NoX.ite {α : Type} {b : Bool} {x y : R α} (h : NoX x) (g : NoX y) : NoX (if b = true then x else y) := by
  split
  · exact h
  · exact g
theorem noX_asD (o : O) : NoX o.asD := by
  cases o
  · exact NoX.ok
  · exact NoX.bad
theorem noX_asInt (d : D) : NoX (asInt d) := by
  cases d <;> first | exact NoX.ok | exact NoX.bad
theorem noX_bop (o : BOp) (x y : D) : NoX (bop o x y) := by
  unfold bop
  split <;> first | exact NoX.ok | exact NoX.bad | exact NoX.ite NoX.ok NoX.bad
theorem noX_cop (o : COp) (x y : D) : NoX (cop o x y) := by
  unfold cop
  split <;> first | exact NoX.ok | exact NoX.bad | exact NoX.ite NoX.ok NoX.bad | (split <;> first | exact NoX.ok | exact NoX.bad)
theorem noX_fz (os : List O) : NoX (fzAll os) := fun _ => fzAll_ne
theorem noX_items (o : O) : NoX o.items := by
  unfold O.items
  split <;> first | exact NoX.ok | exact NoX.bad | exact noX_fz _
theorem noX_sort (ds : List D) : NoX (sortD ds) := by
  unfold sortD
  split
  · exact NoX.ok
  · split
    · exact NoX.ite NoX.ok NoX.bad
    · split
      · exact NoX.ok
      · exact NoX.bad
theorem noX_bi (b : Bi) (os : List O) : NoX (bi b os) := by
  unfold bi
  split <;> first
    | exact NoX.ok
    | exact NoX.bad
    | exact (noX_items _).bind fun _ _ => NoX.ok
    | exact (noX_items _).bind fun _ _ => (noX_sort _).bind fun _ _ => NoX.ok
    | (split <;> first | exact NoX.ok | exact NoX.bad)
    | skip
  refine NoX.bind ?_ fun _ _ => NoX.ok
  split <;> first | exact NoX.ok | exact (noX_items _).bind fun _ _ => NoX.ok
theorem noX_at (o : O) (i : Int) : NoX (o.at i) := by
  unfold O.at
  split <;> first | exact NoX.bad | (split <;> first | exact NoX.ok | exact NoX.bad)
theorem noX_cut (o : O) (l h : Option Int) : NoX (o.cut l h) := by
  unfold O.cut
  split <;> first | exact NoX.ok | exact NoX.bad | exact (noX_fz _).bind fun _ _ => NoX.ok
theorem noX_truth (d : D) : NoX (truth d) := by
  cases d <;> first | exact NoX.ok | exact NoX.bad

theorem star1 {X : Cx} {x : Expr} {xs : List Expr} (h : plainX x = true) : starEach (x :: xs) X.env = (false, eval x X.env) :: starEach xs X.env := by
  cases x <;> first | rfl | (simp [plainX] at h)
theorem plainIx {x : Expr} (h : plainX x = true) : PlainIx x := by
  intro o i
  cases x <;> first | rfl | (simp [plainX] at h)
theorem noFold {x : Expr} {X : Cx} (h : plainX x = true) : ∀ v, foldedSetIterable x X.env v = pure v := by
  intro v
  cases x <;> first | rfl | (simp [plainX] at h)
theorem starAny {X : Cx} {c : Sc} {pos : Pos} : ∀ {es : Es} {xs : List Expr}, esB c es xs = true → (backTo pos (starEach xs X.env)).any (·.1) = false
  | .nil, xs, h => by
    cases xs with
    | nil => rfl
    | cons y ys => simp [esB] at h
  | .cons e es, xs, h => by
    obtain ⟨y, ys, rfl, h1, h2, h3⟩ := es_inv h
    rw [star1 h1]
    have := starAny (X := X) (pos := pos) (es := es) h3
    simpa [backTo] using this

section
variable {C : String → Addr} {cd : String → List D → R D} {k : Nat}
/-- what is to be shown of an expression -/
structure SnE (C : String → Addr) (cd : String → List D → R D) (X : Cx) (W : WX) (e : E) (x : Expr) : Prop where
  pe : PE X x (tE X.K C cd W e)
  pt : testX x = true → PT X x (tT X.K C cd W e)
  pw : ∀ op vs pos, x = .BoolOp op vs pos → PW X x (tT X.K C cd W e)

variable {X : Cx} {c : Sc} {W : WX}
/-- a test by its value's truth -/
theorem pt_of {e : E} {x : Expr} (h : PE X x (tE X.K C cd W e)) (he : ∀ whole, isTrue x X.env whole = (do let v ← whole; standAt x.pos; holding [v] (truthy v))) : PT X x (tT X.K C cd W e) := by
  refine PT.imp (pt_truth h he) fun σ H Q ⟨B, own, g, S, m⟩ => ?_
  refine useE S m.bind (fun _ z => z) fun o v H1 _ p e1 b _ => ?_
  obtain ⟨t, h1, h2⟩ := b.tru p
  exact ⟨t, h1, h2 H1 e1⟩
/-- .. of what gives True or False -/
theorem pt_bool {e : E} {x : Expr} {t : TE} (h : PT X x (tTest t)) (i : ∀ σ H Q, tE X.K C cd W e σ H Q → t σ H Q) (hb : ∀ g o, e.ev cd g = .ok o → ∃ b, o = .fz (.bool b)) : PT X x (tT X.K C cd W e) := by
  refine PT.imp h fun σ H Q ⟨B, own, g, S, m⟩ => ?_
  refine i σ H _ (useE S m.bind (fun _ z => z) fun o v H1 q p e1 b _ => ?_)
  obtain ⟨z, rfl⟩ := hb g o q
  cases b.rd
  exact ⟨z, rfl, p.okP H1 e1⟩

theorem tE_op {F : D → O → R D} {r : R2} {a b e : E} (hr : ∀ x y H Q, rS X.K F x y H Q → r x y H Q) (hF : ∀ x y, NoX (F x y)) (hv : ∀ g, e.ev cd g = (do let x ← (E.ev cd a g) >>= O.asD; let y ← E.ev cd b g; let z ← F x y; .ok (.fz z))) :
    ∀ σ H Q, tE X.K C cd W e σ H Q → tOp r (tE X.K C cd W a) (tE X.K C cd W b) σ H Q := by
  intro σ H Q ⟨B, own, g, S, m⟩
  rw [hv] at m
  refine useD S m.bind (fun _ z => z) fun d v H1 m e1 r1 => ?_
  refine useE (S.same e1) m.bind (fun _ z => z.same e1) fun o u H2 _ m e2 b2 _ => ?_
  have S2 := (S.same e1).same e2
  refine hr v u H2 Q ⟨Av B own, d, o, fun a => S2.inH', r1.evo (.same e2), b2, (m.bind.noX (hF d o)).imp (fun z _ m w H3 e3 r3 f => ?_) fun c z => z⟩
  refine m w H3 ((e1.trans e2).trans e3) (.fz r3) fun _ d' q => ?_
  cases q
  intro ds hd
  obtain ⟨p, vs, h1, h2, h3, h4⟩ := f ds hd
  exact ⟨p, vs, h1, e1.free (e2.free h2), h3, h4⟩
end
end Q

set_option Elab.async false
set_option linter.all false
set_option maxRecDepth 100000
set_option maxHeartbeats 1000000
/-! Sd5: every expression keeps to what it is worth: node by node. -/
namespace Q
open PySem PySem.Spec PyProof.Rows L2
section
variable {C : String → Addr} {cd : String → List D → R D} {k : Nat} {X : Cx} {c : Sc} {W : WX}
theorem SnE.of {e : E} {x : Expr} (h : PE X x (tE X.K C cd W e)) (hb : ∀ op vs pos, x ≠ .BoolOp op vs pos) (he : ∀ whole, isTrue x X.env whole = (do let v ← whole; standAt x.pos; holding [v] (truthy v))) : SnE C cd X W e x :=
  ⟨h, fun _ => pt_of h he, fun op vs pos q => absurd q (hb op vs pos)⟩
theorem sn_var {i : Nat} {x : Expr} (hc : Ctx C cd k X c W) (h : eB c (.var i) x = true) : SnE C cd X W (.var i) x := by
  obtain ⟨y, p, rfl, h1, h2, h3, h4⟩ := nameB_inv (var_inv h)
  refine .of (PE.imp (pe_var (i := i) (by rw [hc.N]; exact h1) (hc.vis h2) h3 h4) fun σ H Q ⟨B, own, g, S, m⟩ => ?_) (by intros; simp) fun _ => rfl
  have m' : Mt (match g[i]? with | some (some o) => R.ok o | _ => .bad) _ _ := m
  cases q : g[i]? with
  | none => rw [q] at m'; exact m'.elim
  | some o =>
    cases o with
    | none => rw [q] at m'; exact m'.elim
    | some o =>
      rw [q] at m'
      obtain ⟨v, h1, h2⟩ := S.slot i o q
      exact ⟨v, h1, Mt.okP m' v H (Same.refl H) ⟨own i, fun a ha => .inr ⟨i, ha⟩, h2⟩ (fun z => nomatch z)⟩
theorem sn_const {e : E} {x : Expr} {v : V} {d : D} (hp : PE X x (tC v)) (he : ∀ g, e.ev cd g = .ok (.fz d)) (hr : ∀ A H, RD X.K A H v d) (hf : e.fresh = false) (hb : ∀ op vs pos, x ≠ .BoolOp op vs pos)
    (ht : ∀ whole, isTrue x X.env whole = (do let v ← whole; standAt x.pos; holding [v] (truthy v))) : SnE C cd X W e x := by
  refine .of (PE.imp hp fun σ H Q ⟨B, own, g, S, m⟩ => ?_) hb ht
  rw [he] at m
  exact Mt.okP m v H (Same.refl H) (.fz (hr _ _)) fun z => by rw [hf] at z; cases z
theorem sn_non {x : Expr} (h : eB c .non x = true) : SnE C cd X W .non x := by
  obtain ⟨k, p, rfl⟩ := non_inv h
  exact sn_const pe_non (fun _ => rfl) (fun _ _ => .non) rfl (by intros; simp) fun _ => rfl
theorem sn_bl {b : Bool} {x : Expr} (h : eB c (.bl b) x = true) : SnE C cd X W (.bl b) x := by
  obtain ⟨k, p, rfl⟩ := bl_inv h
  exact sn_const pe_bl (fun _ => rfl) (fun _ _ => .bl b) rfl (by intros; simp) fun _ => rfl
theorem sn_int {i : Int} {x : Expr} (h : eB c (.int i) x = true) : SnE C cd X W (.int i) x := by
  obtain ⟨k, p, rfl⟩ := int_inv h
  exact sn_const pe_int (fun _ => rfl) (fun _ _ => .int i) rfl (by intros; simp) fun _ => rfl
theorem sn_str {s : String} {x : Expr} (h : eB c (.str s) x = true) : SnE C cd X W (.str s) x := by
  obtain ⟨k, p, rfl⟩ := str_inv h
  exact sn_const pe_str (fun _ => rfl) (fun _ _ => .str _) rfl (by intros; simp) fun _ => rfl
theorem sn_bin {o : BOp} {a b : E} {x y z : Expr} {p : Operator} {pos : Pos} (hx : x = .BinOp y p z pos) (hb : bopB o p = true) (ha : SnE C cd X W a y) (hz : SnE C cd X W b z) : SnE C cd X W (.bin o a b) x := by
  subst hx
  refine .of (PE.imp (pe_op (op_bin hb) ha.pe hz.pe) (tE_op (fun _ _ _ _ q => q) (fun x y => (noX_asD y).bind fun _ _ => noX_bop _ _ _) fun g => ?_)) (by intros; simp) fun _ => rfl
  simp only [E.ev]
  cases (E.ev cd a g >>= O.asD) with
  | ok x =>
    simp only [R.ok_bind]
    cases E.ev cd b g with
    | ok y =>
      simp only [R.ok_bind]
      cases y <;> rfl
    | exc c => rfl
    | bad => rfl
  | exc c => rfl
  | bad => rfl
theorem cmp_ok {o : COp} {a b : E} {g : Env} {r : O} (h : (E.cmp o a b).ev cd g = .ok r) : ∃ b, r = .fz (.bool b) := by
  simp only [E.ev] at h
  cases q1 : (E.ev cd a g >>= O.asD) with
  | ok x =>
    rw [q1] at h
    cases q2 : E.ev cd b g with
    | ok y =>
      rw [q2] at h
      simp only [R.ok_bind] at h
      cases q3 : cop o x y.toD with
      | ok z => rw [q3] at h; cases h; exact ⟨z, rfl⟩
      | exc c => rw [q3] at h; cases h
      | bad => rw [q3] at h; cases h
    | exc c => rw [q2] at h; cases h
    | bad => rw [q2] at h; cases h
  | exc c => rw [q1] at h; cases h
  | bad => rw [q1] at h; cases h
theorem tE_cmp {o : COp} {a b : E} : ∀ σ H Q, tE X.K C cd W (.cmp o a b) σ H Q → tOp (rC X.K fun d o' => cop o d o'.toD) (tE X.K C cd W a) (tE X.K C cd W b) σ H Q := by
  intro σ H Q ⟨B, own, g, S, m⟩
  refine useD S m.bind (fun _ z => z) fun d v H1 m e1 r1 => ?_
  refine useE (S.same e1) m.bind (fun _ z => z.same e1) fun o' u H2 _ m e2 b2 _ => ?_
  refine ⟨Av B own, d, o', fun a => ((S.same e1).same e2).inH', r1.evo (.same e2), b2, (m.bind.noX (noX_cop _ _ _)).imp (fun z _ m => ?_) fun c z => z⟩
  exact Mt.okP m _ H2 (e1.trans e2) (.fz (.bl z)) fun q => nomatch q
theorem sn_cmp {o : COp} {a b : E} {x y z : Expr} {p : CmpOp} {pos : Pos} (hu : X.A.units + 65 < cLine) (hx : x = .Compare y [p] [z] pos) (hb : copB o p = true) (hm : behindInMarks p z = false) (ha : SnE C cd X W a y) (hz : SnE C cd X W b z) :
    SnE C cd X W (.cmp o a b) x := by
  subst hx
  exact ⟨PE.imp (pe_cmpR (op_cmp hb hu) ha.pe hz.pe hm) tE_cmp, fun _ => pt_bool (pt_cmpR (op_cmp hb hu) ha.pe hz.pe hm) tE_cmp fun g o q => cmp_ok q, fun _ _ _ q => nomatch q⟩
theorem tE_cmp2 {o p : COp} {a b d : E} : ∀ σ H Q, tE X.K C cd W (.cmp2 o p a b d) σ H Q →
    tChain (rC X.K fun d o' => cop o d o'.toD) (rC X.K fun d o' => cop p d o'.toD) (tE X.K C cd W a) (tE X.K C cd W b) (tE X.K C cd W d) σ H Q := by
  intro σ H Q ⟨B, own, g, S, m⟩
  refine useD S m.bind (fun _ z => z) fun x v H1 m e1 r1 => ?_
  refine useD (S.same e1) m.bind (fun _ z => z.same e1) fun y u H2 m e2 r2 => ?_
  have S2 := (S.same e1).same e2
  refine ⟨Av B own, x, .fz y, fun a => S2.inH', r1.evo (.same e2), .fz r2, (m.bind.noX (noX_cop _ _ _)).imp (fun z _ m => ⟨z, rfl, ?_⟩) fun c z => z⟩
  cases z with
  | false => exact Mt.okP m _ H2 (e1.trans e2) (.fz (.bl false)) fun q => nomatch q
  | true =>
    refine useD S2 (Mt.bind m) (fun _ z => (z.same e1).same e2) fun w u' H3 m e3 r3 => ?_
    refine ⟨Av B own, y, .fz w, fun a => (S2.same e3).inH', r2.evo (.same e3), .fz r3, (m.bind.noX (noX_cop _ _ _)).imp (fun z _ m => ?_) fun c z => z⟩
    exact Mt.okP m _ H3 ((e1.trans e2).trans e3) (.fz (.bl z)) fun q => nomatch q
theorem cmp2_ok {o p : COp} {a b d : E} {g : Env} {r : O} (h : (E.cmp2 o p a b d).ev cd g = .ok r) : ∃ b, r = .fz (.bool b) := by
  simp only [E.ev] at h
  cases q1 : (E.ev cd a g >>= O.asD) with
  | ok x =>
    rw [q1] at h
    cases q2 : (E.ev cd b g >>= O.asD) with
    | ok y =>
      rw [q2] at h
      simp only [R.ok_bind] at h
      cases q3 : cop o x y with
      | ok z =>
        rw [q3] at h
        cases z with
        | false => cases h; exact ⟨false, rfl⟩
        | true =>
          simp only [R.ok_bind, if_true] at h
          cases q4 : (E.ev cd d g >>= O.asD) with
          | ok w =>
            rw [q4] at h
            simp only [R.ok_bind] at h
            cases q5 : cop p y w with
            | ok z => rw [q5] at h; cases h; exact ⟨z, rfl⟩
            | exc c => rw [q5] at h; cases h
            | bad => rw [q5] at h; cases h
          | exc c => rw [q4] at h; cases h
          | bad => rw [q4] at h; cases h
      | exc c => rw [q3] at h; cases h
      | bad => rw [q3] at h; cases h
    | exc c => rw [q2] at h; cases h
    | bad => rw [q2] at h; cases h
  | exc c => rw [q1] at h; cases h
  | bad => rw [q1] at h; cases h
theorem sn_cmp2 {o o' : COp} {a b d : E} {x y z w : Expr} {p p' : CmpOp} {pos : Pos} (hu : X.A.units + 65 < cLine) (hx : x = .Compare y [p, p'] [z, w] pos) (hb : copB o p = true) (hb' : copB o' p' = true) (hm : lastMarks [p, p'] [z, w] = false)
    (ha : SnE C cd X W a y) (hz : SnE C cd X W b z) (hw : SnE C cd X W d w) : SnE C cd X W (.cmp2 o o' a b d) x := by
  subst hx
  exact ⟨PE.imp (pe_chain (op_cmp hb hu) (op_cmp hb' hu) ha.pe hz.pe hw.pe hm) tE_cmp2, fun _ => pt_bool (pt_chain (op_cmp hb hu) (op_cmp hb' hu) ha.pe hz.pe hw.pe hm) tE_cmp2 fun g o q => cmp2_ok q, fun _ _ _ q => nomatch q⟩
/-- a op b op2 c op3 d -/
def tChain3 (r r' r2 : R2) (ta tb tc td : TE) : TE := fun σ H Q => ta σ H fun x H1 => tb σ H1 fun y H2 => r x y H2 fun z H3 => ∃ k, z = .bl k ∧
  (if k = true then tc σ H3 fun u H4 => r' y u H4 fun z H5 => ∃ k, z = .bl k ∧ (if k = true then td σ H5 fun w H6 => r2 u w H6 Q else Q (.bl false) H5) else Q (.bl false) H3)
theorem pe_chain3 {op op' op2 : CmpOp} {r r' r2 : R2} {a b c d : Expr} {ta tb tc td : TE} {pos : Pos} (ho : OpR X (compareOp op) r) (ho' : OpR X (compareOp op') r') (ho2 : OpR X (compareOp op2) r2) (ha : PE X a ta) (hb : PE X b tb) (hc : PE X c tc) (hd : PE X d td)
    (hm : lastMarks [op, op', op2] [b, c, d] = false) : PE X (.Compare a [op, op', op2] [b, c, d] pos) (tChain3 r r' r2 ta tb tc td) := by
  refine ⟨fun pins s σ H Q I h => ?_⟩
  refine Compare_chain (thn (ha.run pins s σ H _ I h) fun v s1 ⟨x, H1, I1, r1, q1⟩ => chain_link (thn (hb.run pins s1 σ H1 _ I1 q1) fun u s2 ⟨y, H2, I2, r2', q2⟩ =>
    thn (ho pins s2 σ H2 x y v u _ I2 r1 r2' q2) fun e1 s3 ⟨z, H3, I3, r3, k, ez, q3⟩ => ?_)) hm
  subst ez
  cases r3
  refine wpAny_truthy_bool ?_
  cases k with
  | false => exact ite_ff ⟨.bl false, H3, I3, rfl, q3⟩
  | true =>
    refine ite_tt (chain_link (thn (hc.run pins s3 σ H3 _ I3 q3) fun u' s4 ⟨y', H4, I4, r4, q4⟩ => thn (ho' pins s4 σ H4 y y' u u' _ I4 r2' r4 q4) fun e2 s5 ⟨z, H5, I5, r5, k, ez, q5⟩ => ?_))
    subst ez
    cases r5
    refine wpAny_truthy_bool ?_
    cases k with
    | false => exact ite_ff ⟨.bl false, H5, I5, rfl, q5⟩
    | true => exact ite_tt (chain_last (thn (hd.run pins s5 σ H5 _ I5 q5) fun w' s6 ⟨z', H6, I6, r6, q6⟩ => ho2 pins s6 σ H6 y' z' u' w' Q I6 r4 r6 q6))
theorem pt_chain3 {op op' op2 : CmpOp} {r r' r2 : R2} {a b c d : Expr} {ta tb tc td : TE} {pos : Pos} (ho : OpR X (compareOp op) r) (ho' : OpR X (compareOp op') r') (ho2 : OpR X (compareOp op2) r2) (ha : PE X a ta) (hb : PE X b tb) (hc : PE X c tc) (hd : PE X d td)
    (hm : lastMarks [op, op', op2] [b, c, d] = false) : PT X (.Compare a [op, op', op2] [b, c, d] pos) (tTest (tChain3 r r' r2 ta tb tc td)) := by
  refine ⟨fun pins s σ H Q I h => ?_⟩
  refine isTrue_chain (thn (ha.run pins s σ H _ I h) fun v s1 ⟨x, H1, I1, r1, q1⟩ => test_link (thn (hb.run pins s1 σ H1 _ I1 q1) fun u s2 ⟨y, H2, I2, r2', q2⟩ =>
    thn (ho pins s2 σ H2 x y v u _ I2 r1 r2' q2) fun e1 s3 ⟨z, H3, I3, r3, k, ez, q3⟩ => ?_)) hm
  subst ez
  cases r3
  refine wpAny_truthy_bool ?_
  cases k with
  | false =>
    obtain ⟨k', e', q'⟩ := q3
    cases e'
    exact ite_ff ⟨H3, I3, q'⟩
  | true =>
    refine ite_tt (test_link (thn (hc.run pins s3 σ H3 _ I3 q3) fun u' s4 ⟨y', H4, I4, r4, q4⟩ => thn (ho' pins s4 σ H4 y y' u u' _ I4 r2' r4 q4) fun e2 s5 ⟨z, H5, I5, r5, k, ez, q5⟩ => ?_))
    subst ez
    cases r5
    refine wpAny_truthy_bool ?_
    cases k with
    | false =>
      obtain ⟨k', e', q'⟩ := q5
      cases e'
      exact ite_ff ⟨H5, I5, q'⟩
    | true =>
      refine ite_tt (test_last (thn (hd.run pins s5 σ H5 _ I5 q5) fun w' s6 ⟨z', H6, I6, r6, q6⟩ => thn (ho2 pins s6 σ H6 y' z' u' w' _ I6 r4 r6 q6) fun e3 s7 ⟨z2, H7, I7, r7, k2, ez2, q7⟩ => ?_))
      subst ez2
      cases r7
      exact wpAny_truthy_bool ⟨H7, I7, q7⟩
theorem tE_cmp3 {o p q : COp} {a b d e : E} : ∀ σ H Q, tE X.K C cd W (.cmp3 o p q a b d e) σ H Q →
    tChain3 (rC X.K fun d o' => cop o d o'.toD) (rC X.K fun d o' => cop p d o'.toD) (rC X.K fun d o' => cop q d o'.toD) (tE X.K C cd W a) (tE X.K C cd W b) (tE X.K C cd W d) (tE X.K C cd W e) σ H Q := by
  intro σ H Q ⟨B, own, g, S, m⟩
  refine useD S m.bind (fun _ z => z) fun x v H1 m e1 r1 => ?_
  refine useD (S.same e1) m.bind (fun _ z => z.same e1) fun y u H2 m e2 r2 => ?_
  have S2 := (S.same e1).same e2
  refine ⟨Av B own, x, .fz y, fun a => S2.inH', r1.evo (.same e2), .fz r2, (m.bind.noX (noX_cop _ _ _)).imp (fun z _ m => ⟨z, rfl, ?_⟩) fun c z => z⟩
  cases z with
  | false => exact Mt.okP m _ H2 (e1.trans e2) (.fz (.bl false)) fun q => nomatch q
  | true =>
    refine useD S2 (Mt.bind m) (fun _ z => (z.same e1).same e2) fun w u' H3 m e3 r3 => ?_
    have S3 := S2.same e3
    refine ⟨Av B own, y, .fz w, fun a => S3.inH', r2.evo (.same e3), .fz r3, (m.bind.noX (noX_cop _ _ _)).imp (fun z _ m => ⟨z, rfl, ?_⟩) fun c z => z⟩
    cases z with
    | false => exact Mt.okP m _ H3 ((e1.trans e2).trans e3) (.fz (.bl false)) fun q => nomatch q
    | true =>
      refine useD S3 (Mt.bind m) (fun _ z => ((z.same e1).same e2).same e3) fun w2 u2 H4 m e4 r4 => ?_
      refine ⟨Av B own, w, .fz w2, fun a => (S3.same e4).inH', r3.evo (.same e4), .fz r4, (m.bind.noX (noX_cop _ _ _)).imp (fun z _ m => ?_) fun c z => z⟩
      exact Mt.okP m _ H4 (((e1.trans e2).trans e3).trans e4) (.fz (.bl z)) fun q => nomatch q
theorem bind_ok {α β : Type} {x : R α} {f : α → R β} {b : β} (h : (x >>= f) = .ok b) : ∃ a, x = .ok a ∧ f a = .ok b := by
  cases x with
  | ok a => exact ⟨a, rfl, h⟩
  | exc c => cases h
  | bad => cases h
theorem cmp3_ok {o p q : COp} {a b d e : E} {g : Env} {r : O} (h : (E.cmp3 o p q a b d e).ev cd g = .ok r) : ∃ b, r = .fz (.bool b) := by
  simp only [E.ev] at h
  obtain ⟨x, _, h⟩ := bind_ok h
  obtain ⟨y, _, h⟩ := bind_ok h
  obtain ⟨z, _, h⟩ := bind_ok h
  cases z with
  | false => cases h; exact ⟨_, rfl⟩
  | true =>
    obtain ⟨w, _, h⟩ := bind_ok (show (_ >>= _) = R.ok r from h)
    obtain ⟨z, _, h⟩ := bind_ok h
    cases z with
    | false => cases h; exact ⟨_, rfl⟩
    | true =>
      obtain ⟨u, _, h⟩ := bind_ok (show (_ >>= _) = R.ok r from h)
      obtain ⟨z, _, h⟩ := bind_ok h
      cases h
      exact ⟨_, rfl⟩
theorem sn_cmp3 {o o' o2 : COp} {a b d e : E} {x y z w u : Expr} {p p' p2 : CmpOp} {pos : Pos} (hu : X.A.units + 65 < cLine) (hx : x = .Compare y [p, p', p2] [z, w, u] pos) (hb : copB o p = true) (hb' : copB o' p' = true) (hb2 : copB o2 p2 = true) (hm : lastMarks [p, p', p2] [z, w, u] = false)
    (ha : SnE C cd X W a y) (hz : SnE C cd X W b z) (hw : SnE C cd X W d w) (he : SnE C cd X W e u) : SnE C cd X W (.cmp3 o o' o2 a b d e) x := by
  subst hx
  exact ⟨PE.imp (pe_chain3 (op_cmp hb hu) (op_cmp hb' hu) (op_cmp hb2 hu) ha.pe hz.pe hw.pe he.pe hm) tE_cmp3, fun _ => pt_bool (pt_chain3 (op_cmp hb hu) (op_cmp hb' hu) (op_cmp hb2 hu) ha.pe hz.pe hw.pe he.pe hm) tE_cmp3 fun g o q => cmp3_ok q, fun _ _ _ q => nomatch q⟩
theorem isN_ok {n : Bool} {a : E} {g : Env} {r : O} (h : (E.isN n a).ev cd g = .ok r) : ∃ b, r = .fz (.bool b) := by
  simp only [E.ev] at h
  cases q1 : (E.ev cd a g >>= O.asD) with
  | ok x => rw [q1] at h; cases h; exact ⟨_, rfl⟩
  | exc c => rw [q1] at h; cases h
  | bad => rw [q1] at h; cases h
theorem sn_isN {n : Bool} {a : E} {x y : Expr} {kk : Nat} {p pos : Pos} (hx : (n = false ∧ x = .Compare y [.Is] [.Constant .none kk p] pos) ∨ (n = true ∧ x = .Compare y [.IsNot] [.Constant .none kk p] pos)) (ha : SnE C cd X W a y) : SnE C cd X W (.isN n a) x := by
  rcases hx with ⟨rfl, rfl⟩ | ⟨rfl, rfl⟩
  · have i : ∀ σ H Q, tE X.K C cd W (.isN false a) σ H Q → tOp (fun x y H Q => y = .non ∧ Q (.bl (decide (x = .non))) H) (tE X.K C cd W a) (tC .non) σ H Q := by
      intro σ H Q ⟨B, own, g, S, m⟩
      refine useD S m.bind (fun _ z => z) fun x v H1 m e1 r1 => ⟨rfl, ?_⟩
      rw [r1.none_iff]
      have z := Mt.okP m (.bl (isNone x)) H1 e1 (.fz (by simpa using .bl (isNone x))) fun q => nomatch q
      exact z
    exact ⟨PE.imp (pe_cmpR op_isN ha.pe pe_non (nomark _)) i, fun _ => pt_bool (pt_cmpR op_isN ha.pe pe_non (nomark _)) i fun g o q => isN_ok q, fun _ _ _ q => nomatch q⟩
  · have i : ∀ σ H Q, tE X.K C cd W (.isN true a) σ H Q → tOp (fun x y H Q => y = .non ∧ Q (.bl (!decide (x = .non))) H) (tE X.K C cd W a) (tC .non) σ H Q := by
      intro σ H Q ⟨B, own, g, S, m⟩
      refine useD S m.bind (fun _ z => z) fun x v H1 m e1 r1 => ⟨rfl, ?_⟩
      rw [r1.none_iff]
      have z := Mt.okP m (.bl (!isNone x)) H1 e1 (.fz (by simpa using .bl (!isNone x))) fun q => nomatch q
      exact z
    exact ⟨PE.imp (pe_cmpR op_notN ha.pe pe_non (nomark _)) i, fun _ => pt_bool (pt_cmpR op_notN ha.pe pe_non (nomark _)) i fun g o q => isN_ok q, fun _ _ _ q => nomatch q⟩
end
end Q

set_option Elab.async false
set_option linter.all false
set_option maxRecDepth 100000
set_option maxHeartbeats 1000000
/-! Sd6: and, or, not, x if t else y; tuples, lists, items, slices, calls. -/
namespace Q
open PySem PySem.Spec PyProof.Rows L2
section
variable {C : String → Addr} {cd : String → List D → R D} {k : Nat} {X : Cx} {c : Sc} {W : WX}
theorem useTD {K : PySem.W.Frag} {B : Addr → Prop} {own : Nat → List Addr} {H : Hp} {σ : L2.St} {g : Env} {e : E} {P : D → Prop} {Ex : String → Prop} {Q : Bool → Hp → Prop} (S : SR K B own H σ g) (h : Mt (e.ev cd g >>= O.asD) P Ex) (he : ∀ c, Ex c → WP C W σ H c)
    (hd : ∀ d, P d → ∃ b, d = .bool b) (hk : ∀ b H1, P (.bool b) → Same H H1 → Q b H1) : tT K C cd W e σ H Q := by
  refine ⟨B, own, g, S, ?_⟩
  cases q : e.ev cd g with
  | ok o =>
    rw [q] at h
    obtain ⟨d, rfl, p⟩ := Mt.asD h
    obtain ⟨b, rfl⟩ := hd d p
    exact fun H1 e1 => hk b H1 p e1
  | exc c => rw [q] at h; exact he c h
  | bad => rw [q] at h; exact h.elim
/-- what and, or hand on -/
def andK (a : D) (r : R O) : R O := match a with
  | .bool true => r
  | .bool false => .ok (.fz (.bool false))
  | _ => .bad
def orK (a : D) (r : R O) : R O := match a with
  | .bool false => r
  | .bool true => .ok (.fz (.bool true))
  | _ => .bad
theorem ev_and {a b : E} {g : Env} : (E.and a b).ev cd g = ((E.ev cd a g >>= O.asD) >>= fun x => andK x (E.ev cd b g)) := by
  simp only [E.ev]
  cases (E.ev cd a g >>= O.asD) with
  | ok x => simp only [R.ok_bind]; unfold andK; rfl
  | exc c => rfl
  | bad => rfl
theorem ev_or {a b : E} {g : Env} : (E.or a b).ev cd g = ((E.ev cd a g >>= O.asD) >>= fun x => orK x (E.ev cd b g)) := by
  simp only [E.ev]
  cases (E.ev cd a g >>= O.asD) with
  | ok x => simp only [R.ok_bind]; unfold orK; rfl
  | exc c => rfl
  | bad => rfl
theorem R.assoc {α β γ : Type} (x : R α) (f : α → R β) (h : β → R γ) : ((x >>= f) >>= h) = (x >>= fun a => f a >>= h) := by
  cases x <;> rfl
theorem andK_inv {d : D} {r : R O} {β : Type} {f : O → R β} {P : β → Prop} {E : String → Prop} (h : Mt (andK d r >>= f) P E) : ∃ b, d = .bool b := by
  cases d <;> first | exact ⟨_, rfl⟩ | exact h.elim
theorem orK_inv {d : D} {r : R O} {β : Type} {f : O → R β} {P : β → Prop} {E : String → Prop} (h : Mt (orK d r >>= f) P E) : ∃ b, d = .bool b := by
  cases d <;> first | exact ⟨_, rfl⟩ | exact h.elim
theorem sn_and {a b : E} {x y z : Expr} {r : List Expr} {pos : Pos} (hx : x = .BoolOp .And (y :: z :: r) pos) (ty : testX y = true) (ha : SnE C cd X W a y) (hb : (r = [] ∧ testX z = true ∧ SnE C cd X W b z) ∨ (r ≠ [] ∧ SnE C cd X W b (.BoolOp .And (z :: r) pos))) :
    SnE C cd X W (.and a b) x := by
  subst hx
  have pe : PE X (.BoolOp .And (z :: r) pos) (tE X.K C cd W b) := by
    rcases hb with ⟨rfl, _, h⟩ | ⟨_, h⟩
    · exact pe_one h.pe
    · exact h.pe
  have pw : PW X (.BoolOp .And (z :: r) pos) (tT X.K C cd W b) := by
    rcases hb with ⟨rfl, t, h⟩ | ⟨_, h⟩
    · exact pw_and1 (h.pt t)
    · exact h.pw _ _ _ rfl
  have w : PW X (.BoolOp .And (y :: z :: r) pos) (tT X.K C cd W (.and a b)) := by
    refine PW.imp (pw_and (ha.pt ty) pw) fun σ H Q ⟨B, own, g, S, m⟩ => ?_
    rw [ev_and, R.assoc] at m
    refine useTD S m.bind (fun _ z => z) (fun d p => andK_inv p) fun b1 H1 p e1 => ?_
    cases b1 with
    | false => exact Mt.okP p H1 e1
    | true => exact ⟨B, own, g, S.same e1, Mt.imp p (fun q _ f H2 e2 => f H2 (e1.trans e2)) fun _ z => z.same e1⟩
  refine ⟨PE.imp (pe_and ha.pe pe) fun σ H Q ⟨B, own, g, S, m⟩ => ?_, fun _ => w.pt, fun _ _ _ q => by cases q; exact w⟩
  rw [ev_and] at m
  refine useD S m.bind (fun _ z => z) fun d v H1 p e1 r1 => ?_
  obtain ⟨b1, rfl⟩ := andK_inv (f := R.ok) (P := fun _ => True) (E := fun _ => True) (d := d) (r := E.ev cd b g) (by
    cases d <;> first | exact p.elim | skip
    rename_i q
    cases q
    · exact trivial
    · cases hq : E.ev cd b g with
      | ok o => exact trivial
      | exc c => exact trivial
      | bad =>
        have p' : Mt (E.ev cd b g) _ _ := p
        rw [hq] at p'
        exact p'.elim)
  cases r1
  refine ⟨b1, rfl, ?_⟩
  cases b1 with
  | false => exact Mt.okP p _ H1 e1 (.fz (.bl false)) fun q => nomatch q
  | true => exact useE (S.same e1) (show Mt (E.ev cd b g) _ _ from p) (fun _ z => z.same e1) fun o u H2 _ f e2 b2 _ => f u H2 (e1.trans e2) b2 fun q => nomatch q
theorem sn_or {a b : E} {x y z : Expr} {r : List Expr} {pos : Pos} (hx : x = .BoolOp .Or (y :: z :: r) pos) (ty : testX y = true) (ha : SnE C cd X W a y) (hb : (r = [] ∧ testX z = true ∧ SnE C cd X W b z) ∨ (r ≠ [] ∧ SnE C cd X W b (.BoolOp .Or (z :: r) pos))) :
    SnE C cd X W (.or a b) x := by
  subst hx
  have pe : PE X (.BoolOp .Or (z :: r) pos) (tE X.K C cd W b) := by
    rcases hb with ⟨rfl, _, h⟩ | ⟨_, h⟩
    · exact pe_one h.pe
    · exact h.pe
  have pw : PW X (.BoolOp .Or (z :: r) pos) (tT X.K C cd W b) := by
    rcases hb with ⟨rfl, t, h⟩ | ⟨_, h⟩
    · exact pw_or1 (h.pt t)
    · exact h.pw _ _ _ rfl
  have w : PW X (.BoolOp .Or (y :: z :: r) pos) (tT X.K C cd W (.or a b)) := by
    refine PW.imp (pw_or (ha.pt ty) pw) fun σ H Q ⟨B, own, g, S, m⟩ => ?_
    rw [ev_or, R.assoc] at m
    refine useTD S m.bind (fun _ z => z) (fun d p => orK_inv p) fun b1 H1 p e1 => ?_
    cases b1 with
    | true => exact Mt.okP p H1 e1
    | false => exact ⟨B, own, g, S.same e1, Mt.imp p (fun q _ f H2 e2 => f H2 (e1.trans e2)) fun _ z => z.same e1⟩
  refine ⟨PE.imp (pe_or ha.pe pe) fun σ H Q ⟨B, own, g, S, m⟩ => ?_, fun _ => w.pt, fun _ _ _ q => by cases q; exact w⟩
  rw [ev_or] at m
  refine useD S m.bind (fun _ z => z) fun d v H1 p e1 r1 => ?_
  obtain ⟨b1, rfl⟩ := orK_inv (f := R.ok) (P := fun _ => True) (E := fun _ => True) (d := d) (r := E.ev cd b g) (by
    cases d <;> first | exact p.elim | skip
    rename_i q
    cases q
    · cases hq : E.ev cd b g with
      | ok o => exact trivial
      | exc c => exact trivial
      | bad =>
        have p' : Mt (E.ev cd b g) _ _ := p
        rw [hq] at p'
        exact p'.elim
    · exact trivial)
  cases r1
  refine ⟨b1, rfl, ?_⟩
  cases b1 with
  | true => exact Mt.okP p _ H1 e1 (.fz (.bl true)) fun q => nomatch q
  | false => exact useE (S.same e1) (show Mt (E.ev cd b g) _ _ from p) (fun _ z => z.same e1) fun o u H2 _ f e2 b2 _ => f u H2 (e1.trans e2) b2 fun q => nomatch q
theorem ev_not {a : E} {g : Env} : (E.not a).ev cd g = ((E.ev cd a g >>= fun o => truth o.toD) >>= fun b => .ok (.fz (.bool (!b)))) := by
  simp only [E.ev, R.assoc]
theorem sn_not {a : E} {x y : Expr} {pos : Pos} (hx : x = .UnaryOp .Not y pos) (ty : testX y = true) (ha : SnE C cd X W a y) : SnE C cd X W (.not a) x := by
  subst hx
  refine ⟨PE.imp (pe_notT ha.pe) fun σ H Q ⟨B, own, g, S, m⟩ => ?_, fun _ => PT.imp (pt_not (ha.pt ty)) fun σ H Q ⟨B, own, g, S, m⟩ => ?_, fun _ _ _ q => nomatch q⟩
  · rw [ev_not] at m
    refine useE S m.bind.bind (fun _ z => z) fun o v H1 _ p e1 b _ => ?_
    obtain ⟨t, h1, h2⟩ := b.tru p
    exact ⟨t, h1, Mt.okP h2 _ H1 e1 (.fz (.bl _)) fun q => nomatch q⟩
  · rw [ev_not, R.assoc] at m
    exact ⟨B, own, g, S, m.bind.imp (fun b _ f H1 e1 => Mt.okP f H1 e1) fun _ z => z⟩
theorem sn_neg {a : E} {x y : Expr} {pos : Pos} (hx : x = .UnaryOp .USub y pos) (ha : SnE C cd X W a y) : SnE C cd X W (.neg a) x := by
  subst hx
  refine .of (PE.imp (pe_un un_neg ha.pe) fun σ H Q ⟨B, own, g, S, m⟩ => ?_) (by intros; simp) fun _ => rfl
  refine useD S m.bind (fun _ z => z) fun d v H1 p e1 r1 => ?_
  obtain ⟨i, rfl, p⟩ := p.bind.asInt
  cases r1
  exact ⟨i, rfl, Mt.okP p _ H1 e1 (.fz (.int _)) fun q => nomatch q⟩
theorem ev_ite {t a b : E} {g : Env} : (E.ite t a b).ev cd g = ((E.ev cd t g >>= fun o => truth o.toD) >>= fun c => if c then E.ev cd a g else E.ev cd b g) := by
  simp only [E.ev, R.assoc]
theorem sn_ite {t a b : E} {x w y z : Expr} {pos : Pos} (hx : x = .IfExp w y z pos) (tw : testX w = true) (ht : SnE C cd X W t w) (ha : SnE C cd X W a y) (hb : SnE C cd X W b z) : SnE C cd X W (.ite t a b) x := by
  subst hx
  refine ⟨PE.imp (pe_ifExp (ht.pt tw) ha.pe hb.pe) fun σ H Q ⟨B, own, g, S, m⟩ => ?_, fun q => by simp [testX] at q, fun _ _ _ q => nomatch q⟩
  rw [ev_ite] at m
  refine useT S m.bind (fun _ z => z) fun c H1 p e1 => ?_
  cases c with
  | true => exact useE (S.same e1) (show Mt (E.ev cd a g) _ _ from p) (fun _ z => z.same e1) fun o u H2 _ f e2 b2 _ => f u H2 (e1.trans e2) b2 fun q => nomatch q
  | false => exact useE (S.same e1) (show Mt (E.ev cd b g) _ _ from p) (fun _ z => z.same e1) fun o u H2 _ f e2 b2 _ => f u H2 (e1.trans e2) b2 fun q => nomatch q

/-! ### items in a row -/
theorem sn_es_nil {xs : List Expr} (h : esB c .nil xs = true) : PA X xs (tEs X.K C cd W .nil) := by
  cases xs with
  | nil => exact PA.imp pa_nil fun σ H Q ⟨B, own, g, S, m⟩ => Mt.okP m [] H (Same.refl H) .nil
  | cons y ys => simp [esB] at h
theorem sn_es_cons {e : E} {es : Es} {x : Expr} {xs : List Expr} (hx : plainX x = true) (he : SnE C cd X W e x) (hs : PA X xs (tEs X.K C cd W es)) : PA X (x :: xs) (tEs X.K C cd W (.cons e es)) := by
  refine PA.imp (pa_cons he.pe hs (star1 hx)) fun σ H Q ⟨B, own, g, S, m⟩ => ?_
  refine useE S m.bind (fun _ z => z) fun o v H1 _ m e1 b _ => ?_
  refine useEs (S.same e1) m.bind (fun _ z => z.same e1) fun os vs H2 m e2 b2 => ?_
  exact Mt.okP m (v :: vs) H2 (e1.trans e2) (.cons (b.same e2) b2)
theorem small_of {K : PySem.W.Frag} {A : Addr → Prop} {H : Hp} {vs : List V} {ds : List D} (r : RDs K A H vs ds) (h : szOk ds.length = true) : vs.length ≤ sizeLine := by
  rw [r.length]; exact sz_ok h
theorem sn_tup {es : Es} {x : Expr} {xs : List Expr} {kk : Nat} {pos : Pos} (hx : x = .Tuple xs kk pos) (hl : es.len ≤ 1000) (hs : PA X xs (tEs X.K C cd W es)) : SnE C cd X W (.tup es) x := by
  subst hx
  refine .of (PE.imp (pe_tup hs) fun σ H Q ⟨B, own, g, S, m⟩ => ?_) (by intros; simp) fun _ => rfl
  refine ⟨B, own, g, S, m.bind.imp (fun os q m vs H1 e1 b => ?_) fun _ z => z⟩
  obtain ⟨ds, q2, m⟩ := m.bind.fzAll
  have r := b.rds q2
  refine ⟨?_, fun p hp => ?_⟩
  · have : os.length = es.len := Es.evo_len q
    have h2 : vs.length = os.length := b.length
    rw [h2, this, sizeLine_eq]; omega
  · exact Mt.okP m _ _ (e1.trans (same_new hp)) (.fz (new_tup (A := Av B own) (H := H1) (fun _ q => (S.same e1).inH' q) hp r)) fun q => nomatch q
theorem sn_lst {es : Es} {x : Expr} {xs : List Expr} {pos : Pos} (hx : x = .List xs pos) (hl : es.len ≤ 1000) (hs : PA X xs (tEs X.K C cd W es)) : SnE C cd X W (.lst es) x := by
  subst hx
  refine .of (PE.imp (pe_lst hs) fun σ H Q ⟨B, own, g, S, m⟩ => ?_) (by intros; simp) fun _ => rfl
  refine ⟨B, own, g, S, m.bind.imp (fun os q m vs H1 e1 b => ?_) fun _ z => z⟩
  obtain ⟨ds, q2, m⟩ := m.bind.fzAll
  have r := b.rds q2
  refine ⟨?_, fun p hp => ?_⟩
  · have : os.length = es.len := Es.evo_len q
    have h2 : vs.length = os.length := b.length
    rw [h2, this, sizeLine_eq]; omega
  · have nl := new_list (A := Av B own) (H := H1) (fun _ q => (S.same e1).inH' q) hp r
    refine Mt.okP m _ _ (e1.trans (same_new hp)) (.fz nl.1) fun _ d q => ?_
    cases q
    intro ds' hd
    obtain ⟨p', ws, h1, h2, h3, h4⟩ := nl.2 ds' hd
    exact ⟨p', ws, h1, e1.free h2, h3, h4⟩
theorem sn_ix {a b : E} {x y z : Expr} {pos : Pos} (hx : x = .Subscript y z pos) (hp : plainX z = true) (ha : SnE C cd X W a y) (hb : SnE C cd X W b z) : SnE C cd X W (.ix a b) x := by
  subst hx
  refine .of (PE.imp (pe_ix ix_at ha.pe hb.pe (plainIx hp)) fun σ H Q ⟨B, own, g, S, m⟩ => ?_) (by intros; simp) fun _ => rfl
  refine useE S m.bind (fun _ z => z) fun o v H1 _ m e1 b1 _ => ?_
  refine useD (S.same e1) m.bind (fun _ z => z.same e1) fun d u H2 m e2 r2 => ?_
  refine ⟨Av B own, o, d, b1.same e2, r2, (m.noX ((noX_asInt d).bind fun _ _ => noX_at _ _)).imp (fun o' _ f w bw => ?_) fun _ z => z⟩
  exact f w H2 (e1.trans e2) bw fun q => nomatch q
/-- a part of a slice -/
def tO (K : PySem.W.Frag) (C : String → Addr) (cd : String → List D → R D) (W : WX) (o : Oe) : TO := fun σ H Q => ∃ B own g, SR K B own H σ g ∧
  Mt (o.evi cd g) (fun i => ∀ H', Same H H' → Q i H') (WP C W σ H)
theorem PO.imp {X : Cx} {e : Option Expr} {t t' : TO} (h : PO X e t) (i : ∀ σ H Q, t' σ H Q → t σ H Q) : PO X e t' := ⟨fun pins s σ H Q I q => h.run pins s σ H Q I (i σ H Q q)⟩
theorem sn_o_no {x : Option Expr} (h : oB c .no x = true) : PO X x (tO X.K C cd W .no) := by
  cases x with
  | none => exact PO.imp po_none fun σ H Q ⟨B, own, g, S, m⟩ => Mt.okP m H (Same.refl H)
  | some y => simp [oB] at h
theorem sn_o_so {e : E} {x : Expr} (he : SnE C cd X W e x) : PO X (some x) (tO X.K C cd W (.so e)) := by
  refine PO.imp (po_some he.pe) fun σ H Q ⟨B, own, g, S, m⟩ => ?_
  refine useD S m.bind (fun _ z => z) fun d v H1 m e1 r1 => ?_
  obtain ⟨i, rfl, m⟩ := m.bind.asInt
  cases r1
  exact ⟨i, rfl, Mt.okP m H1 e1⟩
theorem sn_sl {a : E} {lo hi : Oe} {x y : Expr} {l u : Option Expr} {p pos : Pos} (hx : x = .Subscript y (.Slice l u none p) pos) (ha : SnE C cd X W a y) (hl : PO X l (tO X.K C cd W lo)) (hu : PO X u (tO X.K C cd W hi)) : SnE C cd X W (.sl a lo hi) x := by
  subst hx
  refine .of (PE.imp (pe_slice sl_cut ha.pe hl hu) fun σ H Q ⟨B, own, g, S, m⟩ => ?_) (by intros; simp) fun _ => rfl
  refine useE S m.bind (fun _ z => z) fun o v H1 _ m e1 b1 _ => ?_
  refine ⟨B, own, g, S.same e1, m.bind.imp (fun i _ m H2 e2 => ?_) fun _ z => z.same e1⟩
  refine ⟨B, own, g, (S.same e1).same e2, m.bind.imp (fun j _ m H3 e3 => ?_) fun _ z => (z.same e1).same e2⟩
  have S3 := ((S.same e1).same e2).same e3
  refine ⟨Av B own, o, fun a => S3.inH', (b1.same e2).same e3, (m.bind.noX (noX_cut _ _ _)).imp (fun d _ m w H4 e4 r4 f => ?_) fun _ z => z⟩
  refine Mt.okP m w H4 (((e1.trans e2).trans e3).trans e4) (.fz r4) fun _ d' q => ?_
  cases q
  intro ds hd
  obtain ⟨p, vs, h1, h2, h3, h4⟩ := f ds hd
  exact ⟨p, vs, h1, e1.free (e2.free (e3.free h2)), h3, h4⟩
theorem boot_bi (b : Bi) : bootBuiltins (biName b) = some (biVal b) := by cases b <;> decide +kernel
theorem bi_free (b : Bi) : biName b ∈ bnames := by cases b <;> decide
theorem bi_nn (b : Bi) : biName b ≠ "__name__" := by cases b <;> decide
theorem sn_bi {b : Bi} {es : Es} {x w y : Expr} {ys : List Expr} {pos : Pos} (hc : Ctx C cd k X c W) (hx : x = .Call w (y :: ys) [] pos) (hw : glName c (biName b) w = true) (he : esB c es (y :: ys) = true) (hs : PA X (y :: ys) (tEs X.K C cd W es)) : SnE C cd X W (.bi b es) x := by
  subst hx
  obtain ⟨p, rfl, h1, h2⟩ := glName_inv hw
  obtain ⟨e0, es0, rfl⟩ : ∃ e0 es0, es = .cons e0 es0 := by
    cases es with
    | nil => simp [esB] at he
    | cons a b => exact ⟨_, _, rfl⟩
  obtain ⟨y', ys', e, hp, _, hr⟩ := es_inv he
  cases e
  have any := starAny (X := X) (pos := pos) hr
  have call := call_bi (X := X) b hc.calm (by have := hc.room.un; omega)
  have fr := hc.glb.free _ (bi_free b)
  have pe : PE X (.Call (.Name (biName b) p) (y :: ys) [] pos) (tCB (rBi X.K (bi b)) (tEs X.K C cd W (.cons e0 es0))) := by
    have hv := boot_bi b
    cases hb : biVal b with
    | builtin id => rw [hb] at call hv; exact pe_callB call (hc.gl h1) fr hv hs (bi_nn b) h2 (star1 hp) any
    | type T => rw [hb] at call hv; exact pe_callTy call (hc.gl h1) fr hv hs (bi_nn b) h2 (star1 hp) any
    | _ => cases b <;> cases hb
  refine .of (PE.imp pe fun σ H Q ⟨B, own, g, S, m⟩ => ?_) (by intros; simp) fun _ => rfl
  refine useEs S m.bind (fun _ z => z) fun os vs H1 m e1 b1 => ?_
  refine ⟨Av B own, os, fun a => (S.same e1).inH', b1, (m.bind.noX (noX_bi _ _)).imp (fun d _ m w H4 e4 r4 f => ?_) fun _ z => z⟩
  refine Mt.okP m w H4 (e1.trans e4) (.fz r4) fun _ d' q => ?_
  cases q
  intro ds hd
  obtain ⟨p, vs, h1, h2, h3, h4⟩ := f ds hd
  exact ⟨p, vs, h1, e1.free h2, h3, h4⟩
theorem sn_call {f : String} {es : Es} {x w y : Expr} {ys : List Expr} {pos : Pos} (hc : Ctx C cd k X c W) (hx : x = .Call w (y :: ys) [] pos) (hk : c.kn f = true) (hw : glName c (Str.ofString f) w = true) (he : esB c es (y :: ys) = true) (hs : PA X (y :: ys) (tEs X.K C cd W es)) : SnE C cd X W (.call f es) x := by
  subst hx
  obtain ⟨p, rfl, h1, h2⟩ := glName_inv hw
  obtain ⟨e0, es0, rfl⟩ : ∃ e0 es0, es = .cons e0 es0 := by
    cases es with
    | nil => simp [esB] at he
    | cons a b => exact ⟨_, _, rfl⟩
  obtain ⟨y', ys', e, hp, _, hr⟩ := es_inv he
  cases e
  obtain ⟨a, fd, ps, m1, m2, m3, F⟩ := hc.glb.defs f hk
  refine .of (PE.imp (pe_callS F hc.room (hc.gl h1) m1 m2 m3 (fun σ => passAt hc.tk σ) hs h2 (star1 hp) (starAny hr)) fun σ H Q ⟨B, own, g, S, m⟩ => ?_) (by intros; simp) fun _ => rfl
  refine useEs S m.bind (fun _ z => z) fun os vs H1 m e1 b1 => ?_
  obtain ⟨ds, q, m⟩ := m.bind.fzAll
  refine ⟨Av B own, ds, fun a => (S.same e1).inH', b1.rds q, m.bind.imp (fun d _ m v H2 e2 r2 => ?_) fun c z H2 e2 => z H2 (e1.trans e2)⟩
  exact Mt.okP m v H2 (e1.trans e2) (.fz r2) fun q => nomatch q
theorem ty_nm (t : Ty) : tyName t = Str.ofString (tyS t) := by cases t <;> rfl
theorem sn_isi {a : E} {t : Ty} {x w y z : Expr} {pos : Pos} (hc : Ctx C cd k X c W) (hx : x = .Call w [y, z] [] pos) (hw : glName c "isinstance" w = true) (hp : plainX y = true) (hz : glName c (tyName t) z = true) (ha : SnE C cd X W a y) : SnE C cd X W (.isi a t) x := by
  subst hx
  obtain ⟨p, rfl, h1, h2⟩ := glName_inv hw
  obtain ⟨q, rfl, h3, h4⟩ := glName_inv hz
  have ft : X.mg (tyName t) = none := hc.glb.free _ (by cases t <;> decide)
  have bt : bootBuiltins (tyName t) = some (.type (tyS t)) := by cases t <;> decide +kernel
  have nt : tyName t ≠ "__name__" := by cases t <;> decide
  have pt : PE X (.Name (tyName t) q) (tC (.ty (tyS t))) := pe_bltn (hc.gl h3) ft bt rfl nt h4
  have bi : bootBuiltins "isinstance" = some (.builtin "isinstance") := by decide +kernel
  refine .of (PE.imp (pe_callB call_isi (hc.gl h1) (hc.glb.free _ (by decide)) bi (pa_cons ha.pe (pa_cons pt pa_nil) (star1 hp)) (by decide) h2 (star1 hp)) fun σ H Q ⟨B, own, g, S, m⟩ => ?_) (by intros; simp) fun _ => rfl
  refine useD S m.bind (fun _ z => z) fun d v H1 m e1 r1 => ?_
  by_cases hd : ∃ kvs, d = .dict kvs
  · obtain ⟨kvs, rfl⟩ := hd
    exact m.elim
  · obtain ⟨T, k1, k2⟩ := r1.ty t fun kvs z => hd ⟨kvs, z⟩
    have m' : Mt (R.ok (O.fz (.bool (isTy t d)))) (fun o => ∀ v H', Same H H' → Bor X.K (Av B own) H' v o → ((E.isi a t).fresh = true → ∀ d, o = .fz d → FrP X.K (Av B own) H v H' d) → Q v H') (WP C W σ H) := by
      cases d with
      | dict kvs => exact absurd ⟨kvs, rfl⟩ hd
      | _ => exact m
    exact ⟨v, .ty (tyS t), .type T, .type (tyS t), _, rfl, .ty _, k1, kit_ty k2, Mt.okP m' _ H1 e1 (.fz (.bl _)) fun q => nomatch q⟩
theorem RDs.rg {K : PySem.W.Frag} {B : Addr → Prop} {H : Hp} {lo : Int} : ∀ l : List Nat, RDs K B H (l.map fun i => V.int (lo + (i : Nat))) (l.map fun (i : Nat) => PyData.int (lo + i))
  | [] => .nil
  | i :: l => .cons (.int _) (RDs.rg l)
theorem rgOk_of {i j : Int} (h : (rngOk i && rngOk j && szOk (j - i).toNat) = true) : RgOk i j := by
  simp only [Bool.and_eq_true] at h
  have h1 := of_decide_eq_true h.1.1
  have h2 := of_decide_eq_true h.1.2
  have h3 : (j - i).toNat ≤ 1000000 := of_decide_eq_true h.2
  exact ⟨h1.1, h1.2, h2.1, h2.2, by omega⟩
theorem rg_end {t : Bool} {i j : Int} {σ : L2.St} {g : Env} {B : Addr → Prop} {own : Nat → List Addr} {H H1 : Hp} {fr : Bool} {Ex : String → Prop} {Q : VK} (S : SR X.K B own H σ g) (e1 : Same H H1)
    (m : Mt (rgD t i j) (fun o => ∀ v H', Same H H' → Bor X.K (Av B own) H' v o → (fr = true → ∀ d, o = .fz d → FrP X.K (Av B own) H v H' d) → Q v H') Ex) :
    RgOk i j ∧ ∀ p, H1 p = none → Q (.ref p) (upd H1 p (if t then .tup (rgV i j) else .lst (rgV i j))) := by
  unfold rgD at m
  obtain ⟨c, m⟩ := m.iteP
  refine ⟨rgOk_of c, fun p hp => ?_⟩
  have r : RDs X.K (Av B own) H1 (rgV i j) (rngD i (j - i).toNat) := RDs.rg _
  cases t with
  | true =>
    refine Mt.okP m _ _ (e1.trans (same_new hp)) (.fz (new_tup (A := Av B own) (H := H1) (fun _ q => (S.same e1).inH' q) hp r)) fun _ d q => ?_
    cases q
    intro ds hd
    cases hd
  | false =>
    have nl := new_list (A := Av B own) (H := H1) (fun _ q => (S.same e1).inH' q) hp r
    refine Mt.okP m _ _ (e1.trans (same_new hp)) (.fz nl.1) fun _ d q => ?_
    cases q
    intro ds' hd
    obtain ⟨p', ws, h1, h2, h3, h4⟩ := nl.2 ds' hd
    exact ⟨p', ws, h1, e1.free h2, h3, h4⟩
theorem pe_rg {t : Bool} {e w : Expr} {te : L2.St → Hp → (Int → Int → Hp → Prop) → Prop} {pos : Pos} (hc : Ctx C cd k X c W) (hw : glName c (if t then "tuple" else "list") w = true) (he : PRg X e te) (na : starEach [e] X.env = (false, eval e X.env) :: starEach [] X.env) :
    PE X (.Call w [e] [] pos) (fun σ H Q => te σ H fun i j H1 => RgOk i j ∧ ∀ p, H1 p = none → Q (.ref p) (upd H1 p (if t then .tup (rgV i j) else .lst (rgV i j)))) := by
  obtain ⟨p, rfl, h1, h2⟩ := glName_inv hw
  cases t with
  | true => exact pe_tupRg hc.calm (hc.gl h1) (hc.glb.free _ (by decide)) he na
  | false => exact pe_listRg hc.calm (hc.gl h1) (hc.glb.free _ (by decide)) he na
theorem sn_rg1 {t : Bool} {a : E} {x w v y : Expr} {p pos : Pos} (hc : Ctx C cd k X c W) (hx : x = .Call w [.Call v [y] [] p] [] pos) (hw : glName c (if t then "tuple" else "list") w = true) (hv : glName c "range" v = true) (hp : plainX y = true) (ha : SnE C cd X W a y) :
    SnE C cd X W (.rg1 t a) x := by
  subst hx
  obtain ⟨p', rfl, h1, h2⟩ := glName_inv hv
  refine .of (PE.imp (pe_rg hc hw (prg_1 (hc.gl h1) (hc.glb.free _ (by decide)) ha.pe (star1 hp)) (by rfl)) fun σ H Q ⟨B, own, g, S, m⟩ => ?_) (by intros; simp) fun _ => rfl
  refine useD S m.bind (fun _ z => z) fun d v H1 m e1 r1 => ?_
  obtain ⟨i, rfl, m⟩ := m.bind.asInt
  cases r1
  exact ⟨i, rfl, rg_end S e1 m⟩
theorem sn_rg2 {t : Bool} {a b : E} {x w v y z : Expr} {p pos : Pos} (hc : Ctx C cd k X c W) (hx : x = .Call w [.Call v [y, z] [] p] [] pos) (hw : glName c (if t then "tuple" else "list") w = true) (hv : glName c "range" v = true) (hp : plainX y = true) (hq : plainX z = true) (ha : SnE C cd X W a y) (hb : SnE C cd X W b z) :
    SnE C cd X W (.rg2 t a b) x := by
  subst hx
  obtain ⟨p', rfl, h1, h2⟩ := glName_inv hv
  have nb := star1 (X := X) (xs := []) hq
  refine .of (PE.imp (pe_rg hc hw (prg_2 (hc.gl h1) (hc.glb.free _ (by decide)) ha.pe hb.pe (star1 hp) nb (by rw [nb]; rfl)) (by rfl)) fun σ H Q ⟨B, own, g, S, m⟩ => ?_) (by intros; simp) fun _ => rfl
  refine useD S m.bind (fun _ z => z) fun d v H1 m e1 r1 => ?_
  obtain ⟨i, rfl, m1⟩ := m.bind.asInt
  cases r1
  refine useD (S.same e1) m1.bind (fun _ z => z.same e1) fun d v H2 m2 e2 r2 => ?_
  obtain ⟨j, rfl, m3⟩ := m2.bind.asInt
  cases r2
  exact ⟨i, j, rfl, rfl, rg_end S (e1.trans e2) m3⟩
end
end Q

set_option Elab.async false
set_option linter.all false
set_option maxRecDepth 100000
set_option maxHeartbeats 1000000
/-! Sd7: targets, what is walked, comprehensions. -/
namespace Q
open PySem PySem.Spec PyProof.Rows L2

/-! ### targets -/
structure PutP (t : Tg) (own own' : Nat → List Addr) (σ σ' : L2.St) : Prop where
  sub : ∀ j a, a ∈ own' j → a ∈ own j
  kept : ∀ a, Ow own a → Ow own' a ∨ ∃ i ∈ t.slots, a ∈ own i
  wipe : ∀ vs, (∀ i ∈ t.slots, i ∈ vs) → L2.wipe σ' vs = L2.wipe σ vs
theorem PutP.refl {t : Tg} {own : Nat → List Addr} {σ : L2.St} : PutP t own own σ σ := ⟨fun _ _ h => h, fun _ h => .inl h, fun _ _ => rfl⟩
theorem PutP.ow {t : Tg} {own own' : Nat → List Addr} {σ σ' : L2.St} (p : PutP t own own' σ σ') : ∀ a, Ow own' a → Ow own a := fun a ⟨j, h⟩ => ⟨j, p.sub j a h⟩
theorem PutP.evo {t : Tg} {own own' : Nat → List Addr} {σ σ' : L2.St} {H : Hp} (p : PutP t own own' σ σ') : Evo (Ow own) H (Ow own') H := .sub p.ow
theorem wipe_get {σ : L2.St} {vs : List Nat} {j : Nat} : (L2.wipe σ vs)[j]? = if j ∈ vs then (σ[j]?).map fun _ => none else σ[j]? := by
  induction vs with
  | nil => simp [L2.wipe]
  | cons v vs ih =>
    unfold L2.wipe
    by_cases e : v = j
    · subst e
      simp only [List.mem_cons, true_or, if_true]
      by_cases h : v < (L2.wipe σ vs).length
      · rw [List.getElem?_set_self h]
        rw [wipe_length] at h
        simp [h]
      · rw [List.getElem?_eq_none (by simpa using h)]
        rw [wipe_length] at h
        rw [List.getElem?_eq_none (by omega)]
        rfl
    · rw [List.getElem?_set_ne e, ih]
      have : j ∈ v :: vs ↔ j ∈ vs := by simp [Ne.symm e]
      simp only [this]
theorem wipe_set {σ : L2.St} {vs : List Nat} {i : Nat} {v : Option V} (h : i ∈ vs) : L2.wipe (σ.set i v) vs = L2.wipe σ vs := by
  apply List.ext_getElem?
  intro j
  rw [wipe_get, wipe_get]
  by_cases e : j ∈ vs
  · rw [if_pos e, if_pos e]
    by_cases q : j = i
    · subst q
      by_cases hl : j < σ.length
      · rw [List.getElem?_set_self hl]; simp [hl]
      · rw [List.getElem?_eq_none (by simpa using hl), List.getElem?_eq_none (by omega)]
    · rw [List.getElem?_set_ne (Ne.symm q)]
  · rw [if_neg e, if_neg e, List.getElem?_set_ne fun z => e (by rw [← z]; exact h)]
theorem PutP.trans {t ts : Tg} {own own1 own2 : Nat → List Addr} {σ σ1 σ2 : L2.St} (a : PutP t own own1 σ σ1) (b : PutP ts own1 own2 σ1 σ2) : PutP (.cons t ts) own own2 σ σ2 where
  sub := fun j x h => a.sub j x (b.sub j x h)
  kept := fun x h => by
    rcases a.kept x h with h | ⟨i, hi, h⟩
    · rcases b.kept x h with h | ⟨i, hi, h⟩
      · exact .inl h
      · exact .inr ⟨i, by simp [Tg.slots, hi], a.sub i x h⟩
    · exact .inr ⟨i, by simp [Tg.slots, hi], h⟩
  wipe := fun vs h => (b.wipe vs fun i hi => h i (by simp [Tg.slots, hi])).trans (a.wipe vs fun i hi => h i (by simp [Tg.slots, hi]))
section
variable (K : PySem.W.Frag)
def tG (t : Tg) : TG := fun v σ H Q => ∃ B own g d, SR K B own H σ g ∧ RD K (Av B own) H v d ∧ Mt (t.put d g) (fun g' => ∀ σ' own', SR K B own' H σ' g' → PutP t own own' σ σ' → Q σ' H) fun _ => False
def tGs (t : Tg) : TGs := fun vs σ H Q => ∃ B own g ds, SR K B own H σ g ∧ RDs K (Av B own) H vs ds ∧ Mt (t.puts ds g) (fun g' => ∀ σ' own', SR K B own' H σ' g' → PutP t own own' σ σ' → Q σ' H) fun _ => False
end
theorem PGs.imp {X : Cx} {tg : List Expr} {t t' : TGs} (h : PGs X tg t) (i : ∀ v σ H Q, t' v σ H Q → t v σ H Q) : PGs X tg t' := ⟨fun pins s σ H v u Q I r q => h.run pins s σ H v u Q I r (i v σ H Q q)⟩
theorem each_plain {X : Cx} : ∀ {xs : List Expr}, (∀ x ∈ xs, plainX x = true) → assignEach xs X.env = xs.map fun x => (false, assign x X.env)
  | [], _ => rfl
  | x :: xs, h => by
    have e := each_plain (X := X) (xs := xs) fun y hy => h y (by simp [hy])
    have hx := h x (by simp)
    have e2 : assignEach (x :: xs) X.env = (false, assign x X.env) :: assignEach xs X.env := by
      cases x <;> first | rfl | (simp [plainX] at hx)
    rw [e2, e]
    rfl
theorem noStar {α : Type} : ∀ (xs : List α) (f : α → Value → Sem Unit), (xs.map fun x => (false, f x)).findIdx? (·.1) = none
  | [], _ => rfl
  | x :: xs, f => by
    rw [List.map_cons, List.findIdx?_cons]
    simp [noStar xs f]
section
variable {C : String → Addr} {cd : String → List D → R D} {k : Nat} {X : Cx} {c : Sc} {W : WX}
theorem tgs_plain : ∀ {t : Tg} {xs : List Expr}, tgsB c t xs = true → ∀ x ∈ xs, plainX x = true
  | .nil, [], _ => by simp
  | .nil, _ :: _, h => by simp [tgsB] at h
  | .n _, _, h => by simp [tgsB] at h
  | .cons t ts, [], h => by simp [tgsB] at h
  | .cons t ts, y :: ys, h => by
    simp [tgsB] at h
    intro x hx
    rcases List.mem_cons.mp hx with e | e
    · rw [e]; exact h.1.1
    · exact tgs_plain h.2 x e
theorem RDs.nil_iff {K : PySem.W.Frag} {A : Addr → Prop} {H : Hp} {vs : List V} (h : RDs K A H vs []) : vs = [] := by cases h; rfl
theorem puts_noX : ∀ {t : Tg} {ds : List D} {g : Env}, NoX (t.puts ds g)
  | .n i, [], g => NoX.bad
  | .n i, [d], g => NoX.ite (b := decide (i < g.length)) NoX.ok NoX.bad
  | .n i, _ :: _ :: _, g => NoX.bad
  | .nil, ds, g => NoX.ite (b := ds.isEmpty) NoX.ok NoX.bad
  | .cons t ts, [], g => NoX.bad
  | .cons t ts, d :: ds, g => by
    rw [Tg.puts_cons]
    refine NoX.bind ?_ fun _ _ => puts_noX (t := ts)
    unfold Tg.put
    split
    · exact puts_noX
    · split
      · exact puts_noX (t := t)
      · exact NoX.bad
theorem put_noX {t : Tg} {d : D} {g : Env} : NoX (t.put d g) := by
  unfold Tg.put
  split
  · exact puts_noX
  · split
    · exact puts_noX
    · exact NoX.bad
theorem puts_len : ∀ {t : Tg} {xs : List Expr} {ds : List D} {g : Env} {P : Env → Prop} {E : String → Prop}, tgsB c t xs = true → Mt (t.puts ds g) P E → ds.length = xs.length
  | .n _, xs, ds, g, P, E, h, m => by simp [tgsB] at h
  | .nil, xs, ds, g, P, E, h, m => by
    cases xs with
    | cons _ _ => simp [tgsB] at h
    | nil =>
      cases ds with
      | nil => rfl
      | cons _ _ => exact m.elim
  | .cons t ts, xs, ds, g, P, E, h, m => by
    cases xs with
    | nil => simp [tgsB] at h
    | cons y ys =>
      simp [tgsB] at h
      cases ds with
      | nil => exact m.elim
      | cons d ds =>
        rw [Tg.puts_cons] at m
        have m1 := m.bind
        cases q : t.put d g with
        | ok g1 => rw [q] at m1; simp [puts_len (t := ts) h.2 m1]
        | exc c => exact absurd q (put_noX c)
        | bad => rw [q] at m1; exact m1.elim
mutual
theorem tg_snd (hc : Ctx C cd k X c W) : ∀ (t : Tg) (x : Expr), tgB c t x = true → PG X x (tG X.K t)
  | .n i, x, h => by
    have h' : storeB c i x = true := by cases x <;> simpa [tgB] using h
    obtain ⟨y, p, rfl, h1, h2, h3⟩ := storeB_inv h'
    refine PG.imp (pg_name hc.nd (by rw [hc.N]; exact h1) (hc.loc h2) (h3.imp (hc.fn y) (by rw [hc.sc]; exact id))) fun v σ H Q ⟨B, own, g, d, S, r, m⟩ => ?_
    have m1 : Mt (if decide (i < g.length) = true then R.ok (g.set i (some (.fz d))) else .bad) (fun g' => ∀ (σ' : L2.St) (own' : Nat → List Addr), SR X.K B own' H σ' g' → PutP (Tg.n i) own own' σ σ' → Q σ' H) (fun _ => False) := m
    obtain ⟨hi, m⟩ := Mt.iteP m1
    have hi : i < g.length := of_decide_eq_true hi
    refine Mt.okP m _ _ (S.put r hi) ⟨fun j a q => ?_, fun a ⟨j, q⟩ => ?_, fun vs q => wipe_set (q i (by simp [Tg.slots]))⟩
    · by_cases e : j = i
      · subst e; rw [upo_same] at q; cases q
      · rw [upo_ne e] at q; exact q
    · by_cases e : j = i
      · subst e; exact .inr ⟨j, by simp [Tg.slots], q⟩
      · exact .inl ⟨j, by rw [upo_ne e]; exact q⟩
  | .nil, x, h => by
    cases x with
    | Tuple xs n pos =>
      cases xs with
      | cons _ _ => simp [tgB] at h
      | nil =>
        refine PG.imp (pg_tup hc.calm pgs_nil) fun v σ H Q ⟨B, own, g, d, S, r, m⟩ => ?_
        cases r with
        | @tup a vs ds h n r =>
          obtain ⟨z, m⟩ := Mt.iteP (show Mt (if ds.isEmpty = true then R.ok g else .bad) _ _ from m)
          cases ds with
          | cons _ _ => simp at z
          | nil =>
            have e := r.nil_iff
            subst e
            exact ⟨a, [], rfl, SqT.of h, rfl, rfl, Mt.okP m σ own S .refl⟩
        | _ => exact m.elim
    | _ => simp [tgB] at h
  | .cons t ts, x, h => by
    cases x with
    | Tuple xs n pos =>
      have h' : tgsB c (.cons t ts) xs = true := by simpa [tgB] using h
      have pl := tgs_plain h'
      have ep := each_plain (X := X) pl
      refine PG.imp (pg_tup (n := xs.length) hc.calm (tgs_snd hc (.cons t ts) xs h') (by rw [ep]; simp) (by rw [ep]; exact noStar xs fun x => assign x X.env)) fun v σ H Q ⟨B, own, g, d, S, r, m⟩ => ?_
      cases r with
      | @tup a vs ds h n r =>
        have m' : Mt (Tg.puts (.cons t ts) ds g) (fun g' => ∀ (σ' : L2.St) (own' : Nat → List Addr), SR X.K B own' H σ' g' → PutP (.cons t ts) own own' σ σ' → Q σ' H) (fun _ => False) := m
        refine ⟨a, vs, rfl, SqT.of h, ?_, B, own, g, ds, S, r, m'⟩
        rw [r.length]
        exact puts_len h' m'
      | _ => exact m.elim
    | _ => simp [tgB] at h
theorem tgs_snd (hc : Ctx C cd k X c W) : ∀ (t : Tg) (xs : List Expr), tgsB c t xs = true → PGs X xs (tGs X.K t)
  | .n _, xs, h => by simp [tgsB] at h
  | .nil, xs, h => by
    cases xs with
    | cons _ _ => simp [tgsB] at h
    | nil =>
      refine PGs.imp pgs_nil fun vs σ H Q ⟨B, own, g, ds, S, r, m⟩ => ?_
      cases r with
      | nil => exact ⟨rfl, Mt.okP (show Mt (R.ok g) _ _ from m) σ own S .refl⟩
      | cons _ _ => exact m.elim
  | .cons t ts, xs, h => by
    cases xs with
    | nil => simp [tgsB] at h
    | cons y ys =>
      simp [tgsB] at h
      obtain ⟨⟨h1, h2⟩, h3⟩ := h
      have hs : (assignEach (y :: ys) X.env).map (·.2) = assign y X.env :: (assignEach ys X.env).map (·.2) := by
        cases y <;> first | rfl | (simp [plainX] at h1)
      refine PGs.imp (pgs_cons (tg_snd hc t y h2) (tgs_snd hc ts ys h3) hs) fun vs σ H Q ⟨B, own, g, ds, S, r, m⟩ => ?_
      cases r with
      | nil => exact m.elim
      | @cons v vs d ds r rr =>
        rw [Tg.puts_cons] at m
        refine ⟨v, vs, rfl, B, own, g, d, S, r, m.bind.imp (fun g1 _ m σ1 own1 S1 p1 => ?_) fun _ z => z⟩
        refine ⟨B, own1, g1, ds, S1, rr.evo p1.evo.av, m.imp (fun g2 _ f σ2 own2 S2 p2 => ?_) fun _ z => z⟩
        exact f σ2 own2 S2 (p1.trans p2)
end
end
end Q

set_option Elab.async false
set_option linter.all false
set_option maxRecDepth 100000
set_option maxHeartbeats 1000000
/-! SdZ: zip of a list or a tuple with a list or a tuple; enumerate of a tuple. -/
namespace Q
open PySem PySem.Spec PyProof.Rows L2
/-- a tuple (t) or a list -/
def SqTL (t : Bool) (K : PySem.W.Frag) (H : Hp) (a : Addr) (xs : List V) : Prop := match t with
  | true => SqT K H a xs
  | false => SqL K H a xs
def IrB (t : Bool) (h : Heap) (it a : Addr) (i : Nat) : Prop := match t with
  | true => h.IsTupleIter it a i
  | false => h.IsListIter it a i
def SeB (t : Bool) (h : Heap) (a : Addr) (items : Array Value) : Prop := match t with
  | true => h.IsTuple a items
  | false => h.IsList a items
def obB (t : Bool) (a : Addr) : Obj := match t with
  | true => { cls := .type "tuple_iterator", data := .fields #[.ref a, .int 0 0] }
  | false => { cls := .type "list_iterator", data := .fields #[.ref a, .int 0 0] }
theorem drawsB {prog : Program} {w : World} {A : Around} (t : Bool) (hh : A.handled = none) (it a : Addr) (ne : a ≠ it) (items : Array Value) :
    Draws prog w A it [it, a] items.size (fun i v => items[i]? = some v) (fun i h => IrB t h it a i ∧ SeB t h a items) := by
  cases t with
  | true => exact Draws.tuple hh it a ne items
  | false => exact Draws.list hh it a ne items
theorem beginsB (t : Bool) (a : Addr) (items : Array Value) : Begins (.ref a) (obB t a) fun h => SeB t h a items := by
  cases t with
  | true => exact begins_tuple a items
  | false => exact begins_list a items
theorem IrB.at {t : Bool} {h h' : Heap} {it a : Addr} {i : Nat} (x : IrB t h it a i) (k : ∀ o, h.get? it = some o → h'.get? it = some o) : IrB t h' it a i := by
  cases t with
  | true => exact Heap.IsTupleIter.at x k
  | false => exact Heap.IsListIter.at x k
theorem IrB.ob {t : Bool} {h : Heap} {it a : Addr} {i : Nat} (x : IrB t h it a i) : ∃ o, h.get? it = some o ∧ ∀ v, o.data ≠ .cell v := by
  cases t with
  | true => obtain ⟨o, e, _, d⟩ := x; exact ⟨o, e, fun v q => by rw [d] at q; cases q⟩
  | false => obtain ⟨o, e, _, d⟩ := x; exact ⟨o, e, fun v q => by rw [d] at q; cases q⟩
theorem IrB.start {t : Bool} {h : Heap} {it a : Addr} (e : h.get? it = some (obB t a)) : IrB t h it a 0 := by
  cases t with
  | true => exact ⟨_, e, rfl, rfl⟩
  | false => exact ⟨_, e, rfl, rfl⟩
section
variable {X : Cx} {pins : List (Addr × Obj)} {σ : L2.St} {H : Hp} {s : Shared}
theorem seqB {t : Bool} {a : Addr} {xs : List V} (I : Inv X pins σ H s) (q : SqTL t X.K H a xs) : ∃ its, Vals xs its ∧ SeB t s.heap a its.toArray ∧ a < s.heap.objs.size := by
  cases t with
  | true =>
    obtain ⟨its, rv, p, _⟩ := I.tuple q
    obtain ⟨o, ho, _⟩ := id p
    exact ⟨its, rv, p, Heap.lt_size ho⟩
  | false =>
    obtain ⟨its, rv, p, _⟩ := I.list q
    exact ⟨its, rv, p.isList, p.lt⟩
theorem injB {t : Bool} {a : Addr} {xs ys : List V} (I : Inv X pins σ H s) (q : SqTL t X.K H a xs) (r : SqTL t X.K H a ys) : xs = ys := by
  cases t with
  | true => exact I.tuple_inj q r
  | false => exact I.list_inj q r
end
/-- what two walks side by side yield -/
def ItB2 (t u : Bool) (K : PySem.W.Frag) (a b : Addr) : L2.It :=
  ⟨fun i H => ∃ (xs ys : List V) (x y : V), SqTL t K H a xs ∧ SqTL u K H b ys ∧ xs[i]? = some x ∧ ys[i]? = some y,
   fun i H v H' => ∃ p x y, v = .ref p ∧ H p = none ∧ H' = upd H p (.tup [x, y]) ∧ (∀ xs, SqTL t K H a xs → xs[i]? = some x) ∧ ∀ ys, SqTL u K H b ys → ys[i]? = some y,
   fun i H => ∃ xs ys : List V, SqTL t K H a xs ∧ SqTL u K H b ys ∧ (i ≤ xs.length ∧ i ≤ ys.length) ∧ (i = xs.length ∨ i = ys.length)⟩
/-- the cells of a zip -/
abbrev zipSt (t u : Bool) (z TI TO i1 i2 a b : Addr) (i : Nat) (h : Heap) : Prop := IsZip h z TI TO .none ∧ IsTupOf2 h TI (.ref i1) (.ref i2) ∧ (∃ x y, IsTupOf2 h TO x y) ∧ IrB t h i1 a i ∧ IrB u h i2 b i
theorem five {z TI TO i1 i2 c : Addr} (h : c ∈ [z, TI, TO, i1, i2]) : c = z ∨ c = TI ∨ c = TO ∨ c = i1 ∨ c = i2 := by simpa using h
theorem zipSt_ob {t u : Bool} {z TI TO i1 i2 a b : Addr} {i : Nat} {h : Heap} (st : zipSt t u z TI TO i1 i2 a b i h) : ∀ c ∈ [z, TI, TO, i1, i2], ∃ o, h.get? c = some o ∧ ∀ v, o.data ≠ .cell v := by
  intro c hc
  obtain ⟨s1, s2, ⟨x, y, s3⟩, s4, s5⟩ := st
  rcases five hc with rfl | rfl | rfl | rfl | rfl
  · exact ⟨_, s1, fun v q => nomatch q⟩
  · exact ⟨_, s2, fun v q => nomatch q⟩
  · exact ⟨_, s3, fun v q => nomatch q⟩
  · exact s4.ob
  · exact s5.ob
theorem turnB2 {P : Program} {w : World} {K : PySem.W.Frag} {elts : List Expr} {kk : Nat} {tpos : Pos} {t u : Bool} {a b z TI TO i1 i2 : Addr} (S : ZipSep2 z TI TO i1 i2 [i1, a] [i2, b]) (n1 : a ≠ i1) (n2 : b ≠ i2) :
    Turn P w K (.Tuple elts kk tpos) (ItB2 t u K a b) [z, TI, TO, i1, i2] z (zipSt t u z TI TO i1 i2 a b) where
  mem := by simp
  obj := fun i h st => zipSt_ob st
  keep := fun i h h' st k => by
    obtain ⟨s1, s2, ⟨x, y, s3⟩, s4, s5⟩ := st
    exact ⟨k z (by simp) _ s1, k TI (by simp) _ s2, ⟨x, y, k TO (by simp) _ s3⟩, s4.at (k i1 (by simp)), s5.at (k i2 (by simp))⟩
  item := by
    intro X hP hw hK hc i pins s σ H E I hf st hg
    subst hP hw hK
    have ob := zipSt_ob st
    obtain ⟨s1, s2, ⟨x0, y0, s3⟩, s4, s5⟩ := st
    obtain ⟨xs, ys, x, y, qx, qy, hx, hy⟩ := hg
    obtain ⟨its, rv, p, _⟩ := seqB I qx
    obtain ⟨its2, rv2, p2, _⟩ := seqB I qy
    have hd := I.ok.hd hc
    have hd1 : X.A.in1.handled = none := by simp [hd]
    have l1 := rv.length
    have l2 := rv2.length
    have lx := (List.getElem?_eq_some_iff.mp hx).1
    have ly := (List.getElem?_eq_some_iff.mp hy).1
    have zl : z < s.heap.objs.size := Heap.lt_size s1
    refine wpAny_pyNext_zipD2_item S (drawsB t hd1 i1 a n1 its.toArray) (drawsB u hd1 i2 b n2 its2.toArray) s1 s2 s3 ⟨s4, p⟩ ⟨s5, p2⟩ (by simp; omega) (by simp; omega) fun v1 v2 h1 tk g1 g2 z1 t1 d1 d2 new sz kp => ?_
    obtain ⟨e1, hu, ru⟩ := rv.get hx
    obtain ⟨e2, hu2, ru2⟩ := rv2.get hy
    have g1 : its[i]? = some v1 := by simpa using g1
    have g2 : its2[i]? = some v2 := by simpa using g2
    rw [hu] at g1
    rw [hu2] at g2
    cases g1
    cases g2
    refine ⟨_, rfl, wpAny_letOwnedTupleGo_zip (s := { s with heap := h1, toks := tk }) z1 fun h2 z2 sb => ?_⟩
    have keep : ∀ c o, c ∉ [z, TI, TO, i1, i2] → s.heap.get? c = some o → h2.get? c = some o := fun c o hc q => by
      simp only [List.mem_cons, List.not_mem_nil, or_false, not_or] at hc
      exact (sb.2 c hc.1).trans (kp c o hc.1 hc.2.2.1 hc.2.2.2.1 hc.2.2.2.2 q)
    have there : h2.get? s.heap.objs.size = some { cls := .type "tuple", data := .seq #[v1, v2] } := (sb.2 _ (Nat.ne_of_gt zl)).trans new
    have okNew : ObjOk X.prog X.w (upd H s.heap.objs.size (.tup [x, y])) h2 s.heap.objs.size (.tup [x, y]) := ⟨by show 2 ≤ sizeLine; decide, [v1, v2], .cons ru (.cons ru2 .nil), ⟨_, there, rfl, _, rfl⟩⟩
    have I1 : Inv X pins σ (upd H s.heap.objs.size (.tup [x, y])) { s with heap := h2, toks := tk } := I.turnedNew keep hf (Nat.le_refl _) okNew
    refine ⟨.ref s.heap.objs.size, _, I1, rfl, ⟨_, x, y, rfl, I.hok.fresh (Nat.le_refl _), rfl, fun l hl => by rw [injB I hl qx]; exact hx, fun l hl => by rw [injB I hl qy]; exact hy⟩, ⟨z2, ?_, ⟨v1, v2, ?_⟩, ?_, ?_⟩, fun c hcm => ?_⟩
    · exact (sb.2 _ S.TIz).trans (kp _ _ S.TIz S.TITO S.TIi1 S.TIi2 s2)
    · exact (sb.2 _ S.TOz).trans t1
    · exact d1.1.at fun o q => (sb.2 _ (Ne.symm S.zi1)).trans q
    · exact d2.1.at fun o q => (sb.2 _ (Ne.symm S.zi2)).trans q
    · obtain ⟨o, ho, _⟩ := ob c hcm
      rw [upd_ne (Nat.ne_of_lt (Heap.lt_size ho))]
      exact (hf c hcm).1
  done := by
    intro X hP hw hK hc i pins s σ H E I hf st hg
    subst hP hw hK
    obtain ⟨s1, s2, ⟨x0, y0, s3⟩, s4, s5⟩ := st
    obtain ⟨xs, ys, qx, qy, ⟨le1, le2⟩, hend⟩ := hg
    obtain ⟨its, rv, p, _⟩ := seqB I qx
    obtain ⟨its2, rv2, p2, _⟩ := seqB I qy
    have hd := I.ok.hd hc
    have hd1 : X.A.in1.handled = none := by simp [hd]
    have l1 := rv.length
    have l2 := rv2.length
    refine wpAny_pyNext_zipD2_end S (drawsB t hd1 i1 a n1 its.toArray) (drawsB u hd1 i2 b n2 its2.toArray) s1 s2 s3 ⟨s4, p⟩ ⟨s5, p2⟩ (by simp; omega) (by simp; omega) (by simp; omega) fun h1 tk kp => ⟨rfl, ?_⟩
    refine I.turnedL (ch := [z, TI, TO, i1, i2]) (fun c o hc q => ?_) hf
    simp only [List.mem_cons, List.not_mem_nil, or_false, not_or] at hc
    exact kp c o hc.1 hc.2.2.1 hc.2.2.2.1 hc.2.2.2.2 q
  self := fun A i s Q E st h => wpAny_pyIter_zip st.1 h

/-- zip of two that are walked -/
def iZipB (K : PySem.W.Frag) (ta : TA) : TI := fun σ H R => ta σ H fun vs H1 => ∃ t u a b xs ys, vs = [.ref a, .ref b] ∧ SqTL t K H1 a xs ∧ SqTL u K H1 b ys ∧ R (ItB2 t u K a b) H1
theorem pi_zipB {X : Cx} {e e2 : Expr} {ta : TA} {p pos tpos : Pos} {elts : List Expr} {kk : Nat} (hg : Gl X "zip") (hm : X.mg "zip" = none) (ha : PA X [e, e2] ta)
    (hs : starEach [e, e2] X.env = (false, eval e X.env) :: starEach [e2] X.env) (hpl : (backTo pos (starEach [e2] X.env)).any (·.1) = false) :
    PI X (.Tuple elts kk tpos) (.Call (.Name "zip" p) [e, e2] [] pos) (iZipB X.K ta) := by
  refine ⟨fun pins s σ H R I h => ?_⟩
  refine Call_ (ld_blt I hg hm PyProof.Rows.boot_zip (PyProof.Rows.callWith_type1 (thn (ha.run pos pins s σ H _ I h) fun us s1 ⟨vs, H1, I1, r1, z⟩ => ?_) hs hpl))
  obtain ⟨t, u, a, b, xs, ys, rfl, qx, qy, q⟩ := z
  obtain ⟨va, vb, rfl, ra, rb⟩ : ∃ va vb, us = [va, vb] ∧ RelV (.ref a) va ∧ RelV (.ref b) vb := by
    cases r1 with
    | cons r rr =>
      cases rr with
      | cons r' rr => cases rr; exact ⟨_, _, rfl, r, r'⟩
  cases ra
  cases rb
  obtain ⟨its, _, p1, la⟩ := seqB I1 qx
  obtain ⟨its2, _, p2, lb⟩ := seqB I1 qy
  refine zip_begins2 (beginsB t a its.toArray) (beginsB u b its2.toArray) p1 p2 fun h1 z1 z2 z3 g1 g2 _ kp => wpAny_pyIter_zip z1 ?_
  have I2 : Inv X pins σ H1 { s1 with heap := h1 } := I1.kept (t' := s1.toks) kp
  have S : ZipSep2 (s1.heap.objs.size + 4) (s1.heap.objs.size + 2) (s1.heap.objs.size + 3) s1.heap.objs.size (s1.heap.objs.size + 1) [s1.heap.objs.size, a] [s1.heap.objs.size + 1, b] :=
    zip_sep2 (fun c hc => by rw [List.mem_singleton.mp hc]; exact la) (fun c hc => by rw [List.mem_singleton.mp hc]; exact lb)
  refine ⟨s1.heap.objs.size + 4, [s1.heap.objs.size + 4, s1.heap.objs.size + 2, s1.heap.objs.size + 3, s1.heap.objs.size, s1.heap.objs.size + 1], _, _, H1, rfl, I2, turnB2 S (Nat.ne_of_lt la) (Nat.ne_of_lt (Nat.lt_succ_of_lt lb)), ⟨z1, z2, ⟨_, _, z3⟩, IrB.start g1, IrB.start g2⟩, fun c hc => ?_, q⟩
  have le : s1.heap.objs.size ≤ c := by
    rcases five hc with e | e | e | e | e
    · rw [e]; exact Nat.le_add_right _ _
    · rw [e]; exact Nat.le_add_right _ _
    · rw [e]; exact Nat.le_add_right _ _
    · rw [e]; exact Nat.le_refl _
    · rw [e]; exact Nat.le_add_right _ _
  exact I1.fpOk le (I1.hok.fresh le)
theorem walkB2 {K : PySem.W.Frag} {t u : Bool} {a b : Addr} {xs ys : List V} {n : Nat} (hn : n = min xs.length ys.length) : Walk (ItB2 t u K a b) n (fun H => SqTL t K H a xs ∧ SqTL u K H b ys) (YPair (fun i => xs[i]?) (fun i => ys[i]?)) := by
  subst hn
  refine ⟨fun i _ hi q => ?_, fun _ q => ⟨xs, ys, q.1, q.2, by omega, by omega⟩, fun i H v H' _ q y => ?_⟩
  · obtain ⟨h1, h2⟩ : i < xs.length ∧ i < ys.length := by omega
    exact ⟨xs, ys, xs[i], ys[i], q.1, q.2, by simp [h1], by simp [h2]⟩
  · obtain ⟨p, x, z, h1, h2, h3, h4, h5⟩ := y
    exact ⟨p, x, z, h1, h2, h3, h4 xs q.1, h5 ys q.2⟩

/-! ### enumerate of a tuple -/
/-- enumerate(v): its two new cells -/
theorem meets_enumB1 {v : Value} {o : Obj} {J : Heap → Prop} (B : Begins v o J) :
    Meets (Builtin.«enumerate.__new__» ⟨[.type "enumerate", v], []⟩) (fun _ R s => J s.heap ∧
      R (.ok (.ret (.ref (s.heap.push o).objs.size))) { s with heap := (s.heap.push o).push { cls := .type "enumerate", data := .fields #[.none, .bool false, .ref s.heap.objs.size, rawInt 0, .none, .none] } }) :=
  .of_wp fun prog w A R s ⟨h1, h2⟩ => by
    obtain ⟨hp, ge, dr, tk, osv⟩ := s
    have sub0 := sub_enumerate
    have it0 : ∀ {A' : Around} {E : Value → Shared → Prop} {Q : Value → Shared → Prop}, Q (.ref hp.objs.size) ⟨hp.push o, ge, dr, tk, osv⟩ → wpAny (model prog w) A' (pyIter v) Q E ⟨hp, ge, dr, tk, osv⟩ :=
      fun q => B.iter prog w _ _ ⟨hp, ge, dr, tk, osv⟩ _ h1 q
    wp_walk using it0
    refine wpAny_stack_any fun st => wpAny_pure ?_
    split
    · rename_i cl _ _ _ _ _
      cases (cl == Value.type "enumerate") <;> (wp_walk using it0; exact ⟨_, rfl, h2⟩)
    · wp_walk using it0
      exact ⟨_, rfl, h2⟩
theorem enum_begins1 {prog : Program} {w : World} {A : Around} {E : Value → Shared → Prop} {s : Shared} {v : Value} {o : Obj} {J : Heap → Prop} {Q : Value → Shared → Prop} (B : Begins v o J) (h1 : J s.heap)
    (h : ∀ h', IsEnum h' (s.heap.objs.size + 1) s.heap.objs.size 0 .none → h'.get? s.heap.objs.size = some o → (∀ b u, s.heap.get? b = some u → h'.get? b = some u) → Q (.ref (s.heap.objs.size + 1)) { s with heap := h' }) :
    wpAny (model prog w) A (call (.type "enumerate") [v]) Q E s := by
  refine callType_new F.called_enumerate (by decide) (F.typeCall_enumerate_1 _) (F.newCall_enumerate_1 _) (fun obj => F.args_object_init_2 obj _) F.entry_enumerate_new (meets_enumB1 B) ⟨h1, ?_⟩
  have sz : (s.heap.push o).objs.size = s.heap.objs.size + 1 := Heap.size_push ..
  show _ ∧ _
  rw [sz]
  have he : IsEnum ((s.heap.push o).push { cls := .type "enumerate", data := .fields #[.none, .bool false, .ref s.heap.objs.size, rawInt 0, .none, .none] }) (s.heap.objs.size + 1) s.heap.objs.size 0 .none := by
    have q := Heap.get?_push_size (s.heap.push o) (o := { cls := .type "enumerate", data := .fields #[.none, .bool false, .ref s.heap.objs.size, rawInt 0, .none, .none] }) rfl
    rwa [sz] at q
  exact ⟨⟨_, he, rfl⟩, h _ he (Heap.get?_push_of_some _ (Heap.get?_push_size _ B.free)) fun b u x => Heap.get?_push_of_some _ (Heap.get?_push_of_some _ x)⟩
def ItE (t : Bool) (K : PySem.W.Frag) (a : Addr) : L2.It :=
  ⟨fun i H => ∃ (xs : List V) (x : V), SqTL t K H a xs ∧ xs[i]? = some x, fun i H v H' => ∃ p x, v = .ref p ∧ H p = none ∧ H' = upd H p (.tup [.int (i : Nat), x]) ∧ ∀ xs, SqTL t K H a xs → xs[i]? = some x, fun i H => ∃ xs : List V, SqTL t K H a xs ∧ i = xs.length⟩
theorem turnZE {P : Program} {w : World} {K : PySem.W.Frag} {elts : List Expr} {kk : Nat} {tpos : Pos} {t : Bool} {a e it : Addr} (n1 : a ≠ it) (n2 : e ≠ it) (n3 : e ≠ a) :
    Turn P w K (.Tuple elts kk tpos) (ItE t K a) [e, it] e (fun i h => (∃ old, IsEnum h e it ((i : Nat) : Int) old) ∧ IrB t h it a i) where
  mem := by simp
  obj := fun i h st b hb => by
    obtain ⟨⟨old, he⟩, hi⟩ := st
    rcases (show b = e ∨ b = it by simpa using hb) with rfl | rfl
    · exact ⟨_, he, fun v q => nomatch q⟩
    · exact hi.ob
  keep := fun i h h' st k => by
    obtain ⟨⟨old, he⟩, hi⟩ := st
    exact ⟨⟨old, k e (by simp) _ he⟩, hi.at (k it (by simp))⟩
  item := by
    intro X hP hw hK hc i pins s σ H E I hf st hg
    subst hP hw hK
    obtain ⟨⟨old, he⟩, hi⟩ := st
    obtain ⟨xs, x, qx, hx⟩ := hg
    obtain ⟨its, rv, p, _⟩ := seqB I qx
    have hd := I.ok.hd hc
    have hd1 : X.A.in1.handled = none := by simp [hd]
    have l1 := rv.length
    have lx := (List.getElem?_eq_some_iff.mp hx).1
    have el : e < s.heap.objs.size := Heap.lt_size he
    have il : it < s.heap.objs.size := by obtain ⟨_, q, _⟩ := hi.ob; exact Heap.lt_size q
    refine wpAny_pyNext_enum_itemD (drawsB t hd1 it a n1 its.toArray) he ⟨hi, p⟩ (by simp; omega) n2 (by simp; exact ⟨n2, n3⟩) fun v1 h1 tk g1 out d1 new _ kp => ?_
    obtain ⟨u, hu, ru⟩ := rv.get hx
    have g1 : its[i]? = some v1 := by simpa using g1
    rw [hu] at g1
    cases g1
    refine ⟨_, rfl, wpAny_letOwnedTupleGo_enum (s := { s with heap := h1, toks := tk + 1 }) out fun h2 he2 sb => ?_⟩
    have there : h2.get? s.heap.objs.size = some { cls := .type "tuple", data := .seq #[.int i tk, v1] } := (sb.2 _ (Nat.ne_of_gt el)).trans new
    have okNew : ObjOk X.prog X.w (upd H s.heap.objs.size (.tup [.int (i : Nat), x])) h2 s.heap.objs.size (.tup [.int (i : Nat), x]) := ⟨by show 2 ≤ sizeLine; decide, [.int i tk, v1], .cons ⟨_, rfl⟩ (.cons ru .nil), ⟨_, there, rfl, _, rfl⟩⟩
    have keep : ∀ c o, c ∉ [e, it] → s.heap.get? c = some o → h2.get? c = some o := fun c o hc q => by
      simp only [List.mem_cons, List.not_mem_nil, or_false, not_or] at hc
      exact (sb.2 c hc.1).trans (kp c o hc.1 hc.2 q)
    have I1 : Inv X pins σ (upd H s.heap.objs.size (.tup [.int (i : Nat), x])) { s with heap := h2, toks := tk + 1 } := I.turnedNew keep hf (Nat.le_refl _) okNew
    refine ⟨.ref s.heap.objs.size, _, I1, rfl, ⟨_, x, rfl, I.hok.fresh (Nat.le_refl _), rfl, fun l hl => by rw [injB I hl qx]; exact hx⟩, ⟨⟨v1, ?_⟩, d1.1.at fun o q => (sb.2 it (Ne.symm n2)).trans q⟩, fun b hb => ?_⟩
    · have e1 : ((i + 1 : Nat) : Int) = (i : Int) + 1 := by omega
      rw [e1]
      exact he2
    · have lt : b < s.heap.objs.size := by
        rcases (show b = e ∨ b = it by simpa using hb) with q | q
        · rw [q]; exact el
        · rw [q]; exact il
      rw [upd_ne (Nat.ne_of_lt lt)]
      exact (hf b hb).1
  done := by
    intro X hP hw hK hc i pins s σ H E I hf st hg
    subst hP hw hK
    obtain ⟨⟨old, he⟩, hi⟩ := st
    obtain ⟨xs, qx, hx⟩ := hg
    obtain ⟨its, rv, p, _⟩ := seqB I qx
    have hd := I.ok.hd hc
    have hd1 : X.A.in1.handled = none := by simp [hd]
    have l1 := rv.length
    have e1 : i = its.toArray.size := by simp; omega
    subst e1
    refine wpAny_pyNext_enum_endD (drawsB t hd1 it a n1 its.toArray) he ⟨hi, p⟩ fun h1 kp => ⟨rfl, ?_⟩
    refine I.turnedL (t' := s.toks) (ch := [e, it]) (fun c o hc q => ?_) hf
    simp only [List.mem_cons, List.not_mem_nil, or_false, not_or] at hc
    exact kp c o hc.2 q
  self := fun A i s Q E st h => let ⟨⟨_, he⟩, _⟩ := st; wpAny_pyIter_enum he h
def iEnumB (K : PySem.W.Frag) (ta : TA) : TI := fun σ H R => ta σ H fun vs H1 => ∃ t a xs, vs = [.ref a] ∧ SqTL t K H1 a xs ∧ R (ItE t K a) H1
theorem pi_enumB {X : Cx} {e : Expr} {ta : TA} {p pos tpos : Pos} {elts : List Expr} {kk : Nat} (hg : Gl X "enumerate") (hm : X.mg "enumerate" = none) (ha : PA X [e] ta) (hs : starEach [e] X.env = [(false, eval e X.env)]) :
    PI X (.Tuple elts kk tpos) (.Call (.Name "enumerate" p) [e] [] pos) (iEnumB X.K ta) := by
  refine ⟨fun pins s σ H R I h => ?_⟩
  refine Call_ (ld_blt I hg hm boot_enumerate (PyProof.Rows.callWith_type1 (thn (ha.run pos pins s σ H _ I h) fun us s1 ⟨vs, H1, I1, r1, z⟩ => ?_) hs rfl))
  obtain ⟨t, a, xs, rfl, qx, q⟩ := z
  obtain ⟨va, rfl, ra⟩ : ∃ va, us = [va] ∧ RelV (.ref a) va := by
    cases r1 with
    | cons r rr => cases rr; exact ⟨_, rfl, r⟩
  cases ra
  obtain ⟨its, _, p1, la⟩ := seqB I1 qx
  refine enum_begins1 (beginsB t a its.toArray) p1 fun h1 he g1 kp => wpAny_pyIter_enum he ?_
  have I2 : Inv X pins σ H1 { s1 with heap := h1 } := I1.kept (t' := s1.toks) kp
  refine ⟨s1.heap.objs.size + 1, [s1.heap.objs.size + 1, s1.heap.objs.size], _, _, H1, rfl, I2, turnZE (Nat.ne_of_lt la) (Nat.succ_ne_self _) (Nat.ne_of_gt (Nat.lt_succ_of_lt la)), ⟨⟨.none, he⟩, IrB.start g1⟩, fun c hc => ?_, q⟩
  have le : s1.heap.objs.size ≤ c := by
    rcases (show c = s1.heap.objs.size + 1 ∨ c = s1.heap.objs.size by simpa using hc) with e | e
    · rw [e]; exact Nat.le_add_right _ _
    · rw [e]; exact Nat.le_refl _
  exact I1.fpOk le (I1.hok.fresh le)
theorem walkE {K : PySem.W.Frag} {t : Bool} {a : Addr} {xs : List V} : Walk (ItE t K a) xs.length (fun H => SqTL t K H a xs) (YPair (fun i => some (.int (i : Nat))) (fun i => xs[i]?)) := by
  refine ⟨fun i _ hi q => ⟨xs, xs[i], q, by simp [hi]⟩, fun _ q => ⟨xs, q, rfl⟩, fun i H v H' _ q y => ?_⟩
  obtain ⟨p, x, h1, h2, h3, h4⟩ := y
  exact ⟨p, .int (i : Nat), x, h1, h2, h3, rfl, h4 xs q⟩
end Q

set_option Elab.async false
set_option linter.all false
set_option maxRecDepth 100000
set_option maxHeartbeats 1000000
/-! Sd8: what is walked; comprehensions. -/
namespace Q
open PySem PySem.Spec PyProof.Rows L2

/-- the items of a walk, as data -/
structure ItOk (K : PySem.W.Frag) (A : Addr → Prop) (H1 : Hp) (G : Hp → Prop) (Y : Nat → Hp → V → Hp → Prop) (ds : List D) : Prop where
  stands : ∀ A' H', Evo A H1 A' H' → G H'
  gives : ∀ (i : Nat) d A' H' x H3, ds[i]? = some d → Evo A H1 A' H' → (∀ a, A' a → ∃ o, H' a = some o) → Y i H' x H3 → Same H' H3 ∧ RD K A' H3 x d
def tI (K : PySem.W.Frag) (C : String → Addr) (cd : String → List D → R D) (W : WX) (it : It) : TI := fun σ H R => ∃ B own g, SR K B own H σ g ∧
  Mt (it.evi cd g) (fun ds => ∀ J H' G Y, Same H H' → Walk J ds.length G Y → ItOk K (Av B own) H' G Y ds → R J H') (WP C W σ H)

theorem iok_seq {K : PySem.W.Frag} {A : Addr → Prop} {H : Hp} {a : Addr} {vs : List V} {ds : List D} {G : Hp → Prop} (hG : ∀ A' H', Evo A H A' H' → G H') (r : RDs K A H vs ds) : ItOk K A H G (YAt vs) ds :=
  ⟨hG, fun i d A' H' x H3 hd e _ y => by
    obtain ⟨rfl, hx⟩ := y
    obtain ⟨v, hv, hr⟩ := r.get hd
    rw [hx] at hv
    cases hv
    exact ⟨Same.refl _, hr.evo e⟩⟩
theorem iok_range {K : PySem.W.Frag} {A : Addr → Prop} {H : Hp} {lo : Int} {n : Nat} : ItOk K A H (fun _ => True) (YFn fun i => .int (lo + i)) (rngD lo n) :=
  ⟨fun _ _ _ => trivial, fun i d A' H' x H3 hd e _ y => by
    obtain ⟨rfl, rfl⟩ := y
    unfold rngD at hd
    rw [List.getElem?_map] at hd
    cases q : (List.range n)[i]? with
    | none => rw [q] at hd; cases hd
    | some j =>
      rw [q] at hd
      cases hd
      obtain ⟨hl, hj⟩ := List.getElem?_eq_some_iff.mp q
      rw [List.getElem_range] at hj
      subst hj
      exact ⟨Same.refl _, .int _⟩⟩
theorem enum_get : ∀ {ds : List D} {k i : Nat} {d : D}, (enumD k ds)[i]? = some d → ∃ x, ds[i]? = some x ∧ d = .tuple [.int ((k + i : Nat) : Int), x]
  | [], k, i, d, h => by simp [enumD] at h
  | x :: xs, k, 0, d, h => ⟨x, rfl, (by simpa [enumD] using h.symm)⟩
  | x :: xs, k, i + 1, d, h => by
    obtain ⟨y, h1, h2⟩ := enum_get (ds := xs) (k := k + 1) (i := i) (d := d) (by simpa [enumD] using h)
    refine ⟨y, by simpa using h1, ?_⟩
    rw [h2]
    have : k + 1 + i = k + (i + 1) := by omega
    rw [this]
theorem enum_len : ∀ (ds : List D) (k : Nat), (enumD k ds).length = ds.length
  | [], _ => rfl
  | x :: xs, k => by simp [enumD, enum_len xs (k + 1)]
theorem zip_get : ∀ {xs ys : List D} {i : Nat} {d : D}, (zipD xs ys)[i]? = some d → ∃ x y, xs[i]? = some x ∧ ys[i]? = some y ∧ d = .tuple [x, y]
  | [], _, i, d, h => by simp [zipD] at h
  | _ :: _, [], i, d, h => by simp [zipD] at h
  | x :: xs, y :: ys, 0, d, h => by simp [zipD] at h; exact ⟨x, y, rfl, rfl, h.symm⟩
  | x :: xs, y :: ys, i + 1, d, h => by
    obtain ⟨a, b, h1, h2, h3⟩ := zip_get (xs := xs) (ys := ys) (i := i) (d := d) (by simpa [zipD] using h)
    exact ⟨a, b, by simpa using h1, by simpa using h2, h3⟩
theorem zip_len : ∀ (xs ys : List D), (zipD xs ys).length = min xs.length ys.length
  | [], _ => by simp [zipD]
  | _ :: _, [] => by simp [zipD]
  | x :: xs, y :: ys => by simp [zipD, zip_len xs ys]
/-- pairs of what stands -/
theorem iok_pair {K : PySem.W.Frag} {A : Addr → Prop} {H : Hp} {f h : Nat → Option V} {ds : List D} {G : Hp → Prop} (hG : ∀ A' H', Evo A H A' H' → G H')
    (r : ∀ (i : Nat) d, ds[i]? = some d → ∃ a b u v, d = .tuple [a, b] ∧ f i = some u ∧ h i = some v ∧ RD K A H u a ∧ RD K A H v b) : ItOk K A H G (YPair f h) ds :=
  ⟨hG, fun i d A' H' x H3 hd e ha y => by
    obtain ⟨T, u, v, rfl, hT, rfl, h1, h2⟩ := y
    obtain ⟨a, b, u', v', rfl, g1, g2, ra, rb⟩ := r i d hd
    rw [h1] at g1
    rw [h2] at g2
    cases g1
    cases g2
    exact ⟨same_new hT, new_tup ha hT (.cons (ra.evo e) (.cons (rb.evo e) .nil))⟩⟩
theorem walk_zipT {K : PySem.W.Frag} {a b : Addr} {xs ys : List V} {n : Nat} (hn : n = min xs.length ys.length) : Walk (RZ.ItzT K a b) n (fun H => SqT K H a xs ∧ SqT K H b ys) (YPair (fun i => xs[i]?) (fun i => ys[i]?)) := by
  subst hn
  refine ⟨fun i _ hi q => ?_, fun _ q => ⟨xs, ys, q.1, q.2, by omega⟩, fun i H v H' _ q y => ?_⟩
  · obtain ⟨h1, h2⟩ : i < xs.length ∧ i < ys.length := by omega
    exact ⟨xs, ys, xs[i], ys[i], q.1, q.2, by simp [h1], by simp [h2]⟩
  · obtain ⟨T, x, z, h1, h2, h3, h4, h5⟩ := y
    exact ⟨T, x, z, h1, h2, h3, h4 xs q.1, h5 ys q.2⟩

section
variable {C : String → Addr} {cd : String → List D → R D} {k : Nat} {X : Cx} {c : Sc} {W : WX}
/-- a list or a tuple is walked -/
theorem pi_seq {tg l : Expr} {tl : TE} (hl : PE X l tl) : PI X tg l (fun σ H R => tl σ H fun x H1 => (∃ a, x = .ref a ∧ (∃ xs, SqL X.K H1 a xs) ∧ R (Itl X.K a) H1) ∨ ∃ a, x = .ref a ∧ (∃ xs, SqT X.K H1 a xs) ∧ R (Itt X.K a) H1) := by
  refine ⟨fun pins s σ H R I h => thn (hl.run pins s σ H _ I h) fun v s1 ⟨x, H1, I1, r1, q1⟩ => ?_⟩
  have K1 : Inv X pins σ H1 { s1 with heap := s1.heap } := I1
  rcases q1 with ⟨a, rfl, ⟨xs, hq⟩, q⟩ | ⟨a, rfl, ⟨xs, hq⟩, q⟩
  · cases r1
    obtain ⟨its, rv, p, hz⟩ := I1.list hq
    refine wpAny_pyIter_list p.isList ⟨s1.heap.objs.size, [s1.heap.objs.size], _, _, H1, rfl, I1.kept (t' := s1.toks) fun b o e => Heap.get?_push_of_some _ e, turn_list a _, ⟨_, Heap.get?_push_size _ rfl, rfl, rfl⟩, fun b hb => ?_, q⟩
    rw [List.mem_singleton.mp hb]
    exact I1.fpOk (Nat.le_refl _) (I1.hok.fresh (Nat.le_refl _))
  · cases r1
    obtain ⟨its, rv, p, hz⟩ := I1.tuple hq
    refine wpAny_pyIter_tuple (show s1.heap.IsTuple a its.toArray from p) ⟨s1.heap.objs.size, [s1.heap.objs.size], _, _, H1, rfl, I1.kept (t' := s1.toks) fun b o e => Heap.get?_push_of_some _ e, turn_tuple a _, ⟨_, Heap.get?_push_size _ rfl, rfl, rfl⟩, fun b hb => ?_, q⟩
    rw [List.mem_singleton.mp hb]
    exact I1.fpOk (Nat.le_refl _) (I1.hok.fresh (Nat.le_refl _))
theorem RD.sqt {K : PySem.W.Frag} {A A' : Addr → Prop} {H H' : Hp} {a : Addr} {vs : List V} (h : H a = some (.tup vs)) (n : ¬ A a) (e : Evo A H A' H') : SqT K H' a vs := SqT.of (e a _ h n).1
theorem it_seq {e : E} {x tg : Expr} (he : SnE C cd X W e x) : PI X tg x (tI X.K C cd W (.seq e)) := by
  refine PI.imp (pi_seq he.pe) fun σ H R ⟨B, own, g, S, m⟩ => ?_
  refine useD S m.bind (fun _ z => z) fun d v H1 m e1 r1 => ?_
  cases r1 with
  | @lst a vs ds h n r =>
    have m' : Mt (Q.R.ok ds) (fun ds => ∀ J H' G Y, Same H H' → Walk J ds.length G Y → ItOk X.K (Av B own) H' G Y ds → R J H') (WP C W σ H) := m
    refine .inl ⟨a, rfl, ⟨vs, SqL.of h⟩, Mt.okP m' _ H1 (fun H => SqL X.K H a vs) (YAt vs) e1 (by rw [← r.length]; exact walk_list) (iok_seq (a := a) (fun A' H' ev => SqL.of (ev a _ h n).1) r)⟩
  | @tup a vs ds h n r =>
    have m' : Mt (Q.R.ok ds) (fun ds => ∀ J H' G Y, Same H H' → Walk J ds.length G Y → ItOk X.K (Av B own) H' G Y ds → R J H') (WP C W σ H) := m
    refine .inr ⟨a, rfl, ⟨vs, SqT.of h⟩, Mt.okP m' _ H1 (fun H => SqT X.K H a vs) (YAt vs) e1 (by rw [← r.length]; exact walk_tup) (iok_seq (a := a) (fun A' H' ev => SqT.of (ev a _ h n).1) r)⟩
  | @scr a ns h =>
    have m' : Mt (Q.R.ok ((ns.map fun n => ((PyData.int n, PyData.none) : D × D)).map (·.1))) (fun ds => ∀ J H' G Y, Same H H' → Walk J ds.length G Y → ItOk X.K (Av B own) H' G Y ds → R J H') (WP C W σ H) := m
    have e : (ns.map fun n => ((PyData.int n, PyData.none) : D × D)).map (·.1) = ns.map PyData.int := by simp
    rw [e] at m'
    refine .inl ⟨a, rfl, ⟨_, h.sq⟩, Mt.okP m' _ H1 (fun H => SqL X.K H a (ns.map V.int)) (YAt (ns.map V.int)) e1 ?_ (iok_seq (a := a) (fun A' H' ev => (h.evo ev).sq) (RDs.ints ns))⟩
    have hl : (ns.map PyData.int).length = (ns.map V.int).length := by simp
    rw [hl]
    exact walk_list
  | _ => exact m.elim
theorem rng_len {lo : Int} {n : Nat} : (rngD lo n).length = n := by simp [rngD]
theorem it_rng1 (hc : Ctx C cd k X c W) {a : E} {x w y tg : Expr} {pos : Pos} (hx : x = .Call w [y] [] pos) (hw : glName c "range" w = true) (hp : plainX y = true) (ha : SnE C cd X W a y) : PI X tg x (tI X.K C cd W (.rng1 a)) := by
  subst hx
  obtain ⟨p, rfl, h1, h2⟩ := glName_inv hw
  refine PI.imp (pi_range1 (hc.gl h1) (hc.glb.free _ (by decide)) (pa_cons ha.pe pa_nil (star1 hp)) (star1 hp)) fun σ H R ⟨B, own, g, S, m⟩ => ?_
  refine useD S m.bind (fun _ z => z) fun d v H1 m e1 r1 => ?_
  obtain ⟨j, rfl, m⟩ := m.bind.asInt
  cases r1
  obtain ⟨z, m⟩ := m.iteP
  have z : -(2 ^ 62) ≤ j ∧ j < 2 ^ 62 := of_decide_eq_true z
  exact ⟨j, rfl, z.1, z.2, Mt.okP m _ H1 _ _ e1 (by rw [rng_len]; exact walk_range) iok_range⟩
theorem it_rng2 (hc : Ctx C cd k X c W) {a b : E} {x w y z tg : Expr} {pos : Pos} (hx : x = .Call w [y, z] [] pos) (hw : glName c "range" w = true) (hp : plainX y = true) (hq : plainX z = true) (ha : SnE C cd X W a y) (hb : SnE C cd X W b z) : PI X tg x (tI X.K C cd W (.rng2 a b)) := by
  subst hx
  obtain ⟨p, rfl, h1, h2⟩ := glName_inv hw
  refine PI.imp (pi_range2 (hc.gl h1) (hc.glb.free _ (by decide)) (pa_cons ha.pe (pa_cons hb.pe pa_nil (star1 hq)) (star1 hp)) (by rw [star1 hp, star1 hq]; rfl) (by rw [star1 hq]; rfl)) fun σ H R ⟨B, own, g, S, m⟩ => ?_
  refine useD S m.bind (fun _ z => z) fun d v H1 m e1 r1 => ?_
  obtain ⟨i, rfl, m1⟩ := m.bind.asInt
  cases r1
  refine useD (S.same e1) m1.bind (fun _ z => z.same e1) fun d v H2 m e2 r2 => ?_
  obtain ⟨j, rfl, m2⟩ := m.bind.asInt
  cases r2
  obtain ⟨z, m⟩ := m2.iteP
  rw [Bool.and_eq_true] at z
  have z1 : -(2 ^ 62) ≤ i ∧ i < 2 ^ 62 := of_decide_eq_true z.1
  have z2 : -(2 ^ 62) ≤ j ∧ j < 2 ^ 62 := of_decide_eq_true z.2
  exact ⟨i, j, rfl, ⟨z1.1, z1.2, z2.1, z2.2⟩, Mt.okP m _ H2 _ _ (e1.trans e2) (by rw [rng_len]; exact walk_range) iok_range⟩
theorem it_enum (hc : Ctx C cd k X c W) {a : E} {x w y tg : Expr} {pos : Pos} (ht : tupX tg = true) (hx : x = .Call w [y] [] pos) (hw : glName c "enumerate" w = true) (hp : plainX y = true) (ha : SnE C cd X W a y) : PI X tg x (tI X.K C cd W (.enum a)) := by
  subst hx
  obtain ⟨p, rfl, h1, h2⟩ := glName_inv hw
  cases tg with
  | Tuple elts kk tpos =>
    refine PI.imp (pi_enumB (hc.gl h1) (hc.glb.free _ (by decide)) (pa_cons ha.pe pa_nil (star1 hp)) (star1 hp)) fun σ H R ⟨B, own, g, S, m⟩ => ?_
    refine useD S m.bind (fun _ z => z) fun d v H1 m e1 r1 => ?_
    cases r1 with
    | @lst a vs ds h n r =>
      refine ⟨false, a, vs, rfl, SqL.of h, Mt.okP (show Mt (Q.R.ok (enumD 0 ds)) _ _ from m) _ H1 (fun H => SqTL false X.K H a vs) _ e1 (by rw [enum_len, ← r.length]; exact walkE) (iok_pair (fun A' H' ev => SqL.of (ev a _ h n).1) fun i d hd => ?_)⟩
      obtain ⟨x, g1, g2⟩ := enum_get hd
      obtain ⟨v, g3, g4⟩ := r.get g1
      exact ⟨.int ((0 + i : Nat) : Int), x, .int ((i : Nat) : Int), v, g2, rfl, g3, by rw [Nat.zero_add]; exact .int _, g4⟩
    | @tup a vs ds h n r =>
      refine ⟨true, a, vs, rfl, SqT.of h, Mt.okP (show Mt (Q.R.ok (enumD 0 ds)) _ _ from m) _ H1 (fun H => SqTL true X.K H a vs) _ e1 (by rw [enum_len, ← r.length]; exact walkE) (iok_pair (fun A' H' ev => SqT.of (ev a _ h n).1) fun i d hd => ?_)⟩
      obtain ⟨x, g1, g2⟩ := enum_get hd
      obtain ⟨v, g3, g4⟩ := r.get g1
      exact ⟨.int ((0 + i : Nat) : Int), x, .int ((i : Nat) : Int), v, g2, rfl, g3, by rw [Nat.zero_add]; exact .int _, g4⟩
    | _ => exact m.elim
  | _ => simp [tupX] at ht
theorem it_zip (hc : Ctx C cd k X c W) {a b : E} {x w y z tg : Expr} {pos : Pos} (ht : tupX tg = true) (hx : x = .Call w [y, z] [] pos) (hw : glName c "zip" w = true) (hp : plainX y = true) (hq : plainX z = true) (ha : SnE C cd X W a y) (hb : SnE C cd X W b z) : PI X tg x (tI X.K C cd W (.zip a b)) := by
  subst hx
  obtain ⟨p, rfl, h1, h2⟩ := glName_inv hw
  cases tg with
  | Tuple elts kk tpos =>
    refine PI.imp (pi_zipB (hc.gl h1) (hc.glb.free _ (by decide)) (pa_cons ha.pe (pa_cons hb.pe pa_nil (star1 hq)) (star1 hp)) (star1 hp) (by rw [star1 hq]; rfl)) fun σ H R ⟨B, own, g, S, m⟩ => ?_
    refine useD S m.bind (fun _ z => z) fun d v H1 m e1 r1 => ?_
    refine useD (S.same e1) m.bind (fun _ z => z.same e1) fun d' v' H2 m e2 r2 => ?_
    have r1 := r1.evo (.same e2)
    have pr : ∀ {vs ws : List V} {ds es : List D}, RDs X.K (Av B own) H2 vs ds → RDs X.K (Av B own) H2 ws es → ∀ (i : Nat) d, (zipD ds es)[i]? = some d → ∃ a b u v, d = .tuple [a, b] ∧ vs[i]? = some u ∧ ws[i]? = some v ∧ RD X.K (Av B own) H2 u a ∧ RD X.K (Av B own) H2 v b := fun r r' i d hd => by
      obtain ⟨a, b, g1, g2, g3⟩ := zip_get hd
      obtain ⟨u, g4, g5⟩ := r.get g1
      obtain ⟨v, g6, g7⟩ := r'.get g2
      exact ⟨a, b, u, v, g3, g4, g6, g5, g7⟩
    cases r1 with
    | @lst a vs ds h n r =>
      cases r2 with
      | @lst a' vs' ds' h' n' r' =>
        exact ⟨false, false, a, a', vs, vs', rfl, SqL.of h, SqL.of h', Mt.okP (show Mt (Q.R.ok (zipD ds ds')) _ _ from m) _ H2 (fun H => SqTL false X.K H a vs ∧ SqTL false X.K H a' vs') _ (e1.trans e2) (walkB2 (by rw [zip_len, r.length, r'.length])) (iok_pair (fun A' H' ev => ⟨SqL.of (ev a _ h n).1, SqL.of (ev a' _ h' n').1⟩) (pr r r'))⟩
      | @tup a' vs' ds' h' n' r' =>
        exact ⟨false, true, a, a', vs, vs', rfl, SqL.of h, SqT.of h', Mt.okP (show Mt (Q.R.ok (zipD ds ds')) _ _ from m) _ H2 (fun H => SqTL false X.K H a vs ∧ SqTL true X.K H a' vs') _ (e1.trans e2) (walkB2 (by rw [zip_len, r.length, r'.length])) (iok_pair (fun A' H' ev => ⟨SqL.of (ev a _ h n).1, SqT.of (ev a' _ h' n').1⟩) (pr r r'))⟩
      | _ => exact m.elim
    | @tup a vs ds h n r =>
      cases r2 with
      | @lst a' vs' ds' h' n' r' =>
        exact ⟨true, false, a, a', vs, vs', rfl, SqT.of h, SqL.of h', Mt.okP (show Mt (Q.R.ok (zipD ds ds')) _ _ from m) _ H2 (fun H => SqTL true X.K H a vs ∧ SqTL false X.K H a' vs') _ (e1.trans e2) (walkB2 (by rw [zip_len, r.length, r'.length])) (iok_pair (fun A' H' ev => ⟨SqT.of (ev a _ h n).1, SqL.of (ev a' _ h' n').1⟩) (pr r r'))⟩
      | @tup a' vs' ds' h' n' r' =>
        exact ⟨true, true, a, a', vs, vs', rfl, SqT.of h, SqT.of h', Mt.okP (show Mt (Q.R.ok (zipD ds ds')) _ _ from m) _ H2 (fun H => SqTL true X.K H a vs ∧ SqTL true X.K H a' vs') _ (e1.trans e2) (walkB2 (by rw [zip_len, r.length, r'.length])) (iok_pair (fun A' H' ev => ⟨SqT.of (ev a _ h n).1, SqT.of (ev a' _ h' n').1⟩) (pr r r'))⟩
      | _ => exact m.elim
    | _ => cases r2 <;> exact m.elim
  | _ => simp [tupX] at ht
end
end Q

set_option Elab.async false
set_option linter.all false
set_option maxRecDepth 100000
set_option maxHeartbeats 4000000
/-! SdTa: set(..) of a list of ints. -/
namespace Q
open PySem PySem.Spec PyProof.Rows L2
/-- an empty set's object -/
abbrev emptyS (w : World) : Obj := { cls := .type "set", dict := none, data := .set #[] 0 (.fresh 0 0 (!w.params.followText "set-order")) }
section
variable {prog : Program} {w : World} {A : Around} {E : Value → Shared → Prop} {s : Shared}
theorem set_of_list {a : Addr} {its : Array Value} (ns : List Int) {Q : Value → Shared → Prop} (hd : A.handled = none) (ha : s.heap.IsList a its) (hi : IntsAre its.toList ns) (small : ns.length + 1 < scanBound)
    (done : ∀ (h2 : Heap) (t2 n2 : Nat), SetR w h2 s.heap.objs.size (fun j => decide (j ∈ ns)) n2 → (∀ b o, s.heap.get? b = some o → h2.get? b = some o) → Q (.ref s.heap.objs.size) { s with heap := h2, toks := t2 }) :
    wpAny (model prog w) A (call (.type "set") [.ref a]) Q E s := by
  have size : its.size = ns.length := by have q := IntsAre.length hi; rwa [Array.length_toList] at q
  obtain ⟨cl0, tl0, mro⟩ := F.called_set.mro
  have made := F.called_set.made
  have sub0 := F.called_set.sub
  apply wpAny_call
  apply codeAny_of_tree
  show wpAny _ _ (callAny (.type "set") _) _ _ _
  apply wpAny_pure
  refine ⟨Code.quiet_builtin _ (by decide +kernel), ?_⟩
  apply codeAny_builtin F.entry_type_call
  rw [Around.under_plain (weight_type_call_type "set" [.ref a] []) rfl]
  have t1 := F.called_set.notType
  have t2 := F.called_set.canCreate
  have t3 := F.typeCall_set_1 (.ref a)
  repeat (any_goals (first | assumption | wp_step))
  refine codeAny_mono (code_set_led1 (P := prog) (.ref a) (E := E) (Q₁ := fun v r => v = .ref s.heap.objs.size ∧ r = { s with heap := s.heap.push (emptyS w) }) ⟨rfl, rfl⟩) ?_
  intro r r1 hr
  match r, hr with
  | .error e, hr => exact hr
  | .ok (.ret v), hr =>
    obtain ⟨rfl, rfl⟩ := hr
    have at0 : (s.heap.push (emptyS w)).get? s.heap.objs.size = some (emptyS w) := Heap.get?_push_size _ rfl
    have ty0 : Shared.TypeIs { s with heap := s.heap.push (emptyS w) } (.ref s.heap.objs.size) "set" := ⟨_, at0, rfl⟩
    have look := F.called_set.init.lookup
    have bind0 := F.called_set.init.bind (.ref s.heap.objs.size)
    repeat (any_goals (first | assumption | wp_step))
    refine codeAny_mono (codeAny_call_builtin (R := wants (fun v r => v = .none ∧ ∃ h2 t2 n2, r = { s with heap := h2, toks := t2 } ∧ SetR w h2 s.heap.objs.size (fun j => decide (j ∈ ns)) n2 ∧ (∀ b o, s.heap.get? b = some o → h2.get? b = some o)) E)
      F.called_set.init.plain F.entry_set_init (check_set_init_1 ty0 ?_)) ?_
    · obtain ⟨ob, ho, hc, n0, hdat⟩ := ha
      obtain ⟨c0, d0, data0, sl0⟩ := ob
      simp only at hc hdat
      subst hc
      subst hdat
      have old : (s.heap.push (emptyS w)).get? a = some { cls := .type "list", dict := d0, data := .seq its n0, slots := sl0 } := Heap.get?_push_of_some _ ho
      have u1 := F.sub_list_set
      have u2 := F.sub_list_frozenset
      have u3 : (Value.type "list" == Value.type "dict") = false := by decide
      have isl : (s.heap.push (emptyS w)).IsList a its := ⟨_, old, rfl, n0, rfl⟩
      unfold Builtin.«set.__init__» noKeywords Builtin.Frozenset.updateFrom
      generalize hgen : pyIter = gen
      wp_walk
      subst hgen
      apply wpAny_pyIter_list isl
      apply wpAny_bind
      apply wpAny_runValue
      have lt0 : a < s.heap.objs.size := Heap.lt_size ho
      have size1 : (s.heap.push (emptyS w)).objs.size = s.heap.objs.size + 1 := Heap.size_push ..
      have ne0 : a ≠ (s.heap.push (emptyS w)).objs.size := by rw [size1]; exact Nat.ne_of_lt (Nat.lt_succ_of_lt lt0)
      have out0 : s.heap.objs.size ∉ [(s.heap.push (emptyS w)).objs.size, a] := by
        rw [size1]
        simp only [List.mem_cons, List.not_mem_nil, or_false, not_or]
        exact ⟨Nat.ne_of_lt (Nat.lt_succ_self _), Nat.ne_of_gt lt0⟩
      have vals : ∀ (i : Nat) (v : Value), its[i]? = some v → ∃ k t, ns[i]? = some k ∧ v = .int k t := by
        intro i v q
        have lt : i < ns.length := by rw [← size]; exact (Array.getElem?_eq_some_iff.mp q).1
        obtain ⟨t, e⟩ := PyProof.Rows.IntsAre.int_at hi i v (by rw [Array.getElem?_toList]; exact q)
        exact ⟨ns[i], t, List.getElem?_eq_getElem lt, by rw [e, List.getD_eq_getElem?_getD, List.getElem?_eq_getElem lt]; rfl⟩
      refine set_update_ints (P := prog) (Walks.toS (Walks.list (by simp [hd]) _ a ne0 its)) s.heap.objs.size out0 ns size small vals (its.size - 0) 0 _ (by omega) (Nat.zero_le _) ⟨⟨_, Heap.get?_push_size _ rfl, rfl, rfl⟩, isl.push _⟩ ?_ ?_
      · exact ⟨0, Nat.le_refl 0, setR_new_at (Heap.get?_push_of_some _ at0)⟩
      · intro r2 n2 mv _ hS
        obtain ⟨h2, g2, d2, t2, o2⟩ := r2
        have e1 : g2 = s.gens := mv.gens
        have e2 : d2 = s.drawn := mv.drawn
        have e3 : o2 = s.os := mv.os
        subst e1 e2 e3
        show wpAny _ _ _ _ _ _
        apply wpAny_pure
        show wpAny _ _ (ret Value.none) _ _ _
        refine wpAny_pure ⟨rfl, h2, t2, n2, rfl, hS, fun b o e => ?_⟩
        have lt := Heap.lt_size e
        refine mv.heap b o ?_ (Heap.get?_push_of_some _ (Heap.get?_push_of_some _ e))
        rw [size1]
        simp only [List.mem_cons, List.not_mem_nil, or_false, not_or]
        exact ⟨Nat.ne_of_lt lt, Nat.ne_of_lt (Nat.lt_succ_of_lt lt)⟩
    · intro r3 s3 hr3
      match r3, hr3 with
      | .error e, hr3 => exact hr3
      | .ok (.ret v), hr3 =>
        obtain ⟨rfl, h2, t2, n2, rfl, hS, keep⟩ := hr3
        repeat (any_goals (first | assumption | wp_step))
        exact done _ _ _ hS keep
end

end Q

set_option Elab.async false
set_option linter.all false
set_option maxRecDepth 100000
set_option maxHeartbeats 1000000
/-! SdT: sorted(set(..)) of ints. -/
namespace Q
open PySem PySem.Spec PyProof.Rows L2
/-! ### the ints of a list, each once, rising -/
theorem mem_insU {x y : Int} : ∀ {l : List Int}, y ∈ insU x l ↔ y = x ∨ y ∈ l
  | [] => by simp [insU]
  | z :: l => by
    unfold insU
    by_cases h : x < z
    · rw [if_pos h]; simp
    · rw [if_neg h]
      by_cases h2 : x = z
      · rw [if_pos h2]; subst h2; simp
      · rw [if_neg h2, List.mem_cons, mem_insU (l := l), List.mem_cons]
        constructor
        · rintro (h | h | h)
          · exact .inr (.inl h)
          · exact .inl h
          · exact .inr (.inr h)
        · rintro (h | h | h)
          · exact .inr (.inl h)
          · exact .inl h
          · exact .inr (.inr h)
theorem mem_usort {y : Int} : ∀ {l : List Int}, y ∈ usortI l ↔ y ∈ l
  | [] => by simp [usortI]
  | x :: l => by unfold usortI; rw [mem_insU, mem_usort (l := l), List.mem_cons]
theorem insU_up {x : Int} : ∀ {l : List Int}, l.Pairwise (· < ·) → (insU x l).Pairwise (· < ·)
  | [], _ => by simp [insU]
  | z :: l, h => by
    obtain ⟨h1, h2⟩ := List.pairwise_cons.mp h
    unfold insU
    by_cases c : x < z
    · rw [if_pos c]
      refine List.pairwise_cons.mpr ⟨fun y hy => ?_, h⟩
      rcases List.mem_cons.mp hy with e | e
      · rw [e]; exact c
      · exact Int.lt_trans c (h1 y e)
    · rw [if_neg c]
      by_cases c2 : x = z
      · rw [if_pos c2]; exact h
      · rw [if_neg c2]
        refine List.pairwise_cons.mpr ⟨fun y hy => ?_, insU_up h2⟩
        rcases mem_insU.mp hy with e | e
        · rw [e]; omega
        · exact h1 y e
theorem usort_up : ∀ l : List Int, (usortI l).Pairwise (· < ·)
  | [] => .nil
  | x :: l => insU_up (usort_up l)
theorem upS_ext : ∀ {l m : List Int}, l.Pairwise (· < ·) → m.Pairwise (· < ·) → (∀ x, x ∈ l ↔ x ∈ m) → l = m
  | [], [], _, _, _ => rfl
  | [], y :: m, _, _, h => absurd ((h y).mpr (by simp)) (by simp)
  | x :: l, [], _, _, h => absurd ((h x).mp (by simp)) (by simp)
  | x :: l, y :: m, hl, hm, h => by
    obtain ⟨l1, l2⟩ := List.pairwise_cons.mp hl
    obtain ⟨m1, m2⟩ := List.pairwise_cons.mp hm
    have e : x = y := by
      rcases List.mem_cons.mp ((h x).mp (by simp)) with a | a
      · exact a
      · rcases List.mem_cons.mp ((h y).mpr (by simp)) with b | b
        · exact b.symm
        · have := m1 x a
          have := l1 y b
          omega
    subst e
    rw [upS_ext l2 m2 fun z => ⟨fun hz => ?_, fun hz => ?_⟩]
    · rcases List.mem_cons.mp ((h z).mp (by simp [hz])) with a | a
      · have := l1 z hz
        omega
      · exact a
    · rcases List.mem_cons.mp ((h z).mpr (by simp [hz])) with a | a
      · have := m1 z hz
        omega
      · exact a
theorem upS_nodup {l : List Int} (h : l.Pairwise (· < ·)) : l.Nodup := h.imp fun z e => by omega
/-- how many a set has -/
theorem setR_len {w : World} {h : Heap} {a : Addr} {ns : List Int} {n : Nat} (R : SetR w h a (fun j => decide (j ∈ ns)) n) : n = (usortI ns).length := by
  obtain ⟨o, es, ep, t, _, _, _, _, nd, hm, _, _, hn, _⟩ := R
  have p : (es.toList.map keyOf).Perm (usortI ns) := (List.perm_ext_iff_of_nodup nd (upS_nodup (usort_up ns))).mpr fun k => by
    rw [← hm k, decide_eq_true_eq, mem_usort]
  have := p.length_eq
  rw [List.length_map, Array.length_toList] at this
  omega
/-- set(..) of a list or a tuple of ints -/
def rSetB (K : PySem.W.Frag) (w : World) : List V → Hp → VK → Prop := fun vs H Q => ∃ (a : Addr) (ns : List Int), vs = [V.ref a] ∧ (SqL K H a (ns.map V.int) ∨ SqT K H a (ns.map V.int)) ∧ ns.length ≤ 1000 ∧
  ∀ p, H p = none → Q (.ref p) (upd H p (SetO w p (fun j => decide (j ∈ ns)) (usortI ns).length))
section
variable {X : Cx}
theorem cr_setB (hc : X.calm = true) : CallR X (.type "set") (rSetB X.K X.w) := by
  intro pins s σ H vs us Q I r h
  obtain ⟨a, ns, rfl, hs, hl, q⟩ := h
  rw [Vals.ref1 r]
  have hd := I.ok.hd hc
  have fin : ∀ (h2 : Heap) (t2 n2 : Nat), SetR X.w h2 s.heap.objs.size (fun j => decide (j ∈ ns)) n2 → (∀ b o, s.heap.get? b = some o → h2.get? b = some o) → EP X pins σ Q (.ref s.heap.objs.size) { s with heap := h2, toks := t2 } := fun h2 t2 n2 R k => by
    have e := setR_len R
    subst e
    exact ⟨.ref _, _, I.laid (t' := t2) (fun b o e => k b o e) (Nat.le_refl _) (setO_new R), rfl, q _ (I.hok.fresh (Nat.le_refl _))⟩
  rcases hs with hs | hs
  · obtain ⟨its, rv, p, hz⟩ := I.list hs
    have hi : IntsAre its.toArray.toList ns := ints_of_vals rv
    exact set_of_list ns hd p.isList hi (by unfold scanBound; omega) fin
  · obtain ⟨its, rv, p, hz⟩ := I.tuple hs
    have hi : IntsAre its.toArray.toList ns := ints_of_vals rv
    exact call_set_tupI ns hd (show s.heap.IsTuple a its.toArray from p) hi (by unfold scanBound; omega) fun h' tk c R _ k => fin h' tk c R k
end
section
variable {C : String → Addr} {cd : String → List D → R D} {k : Nat} {X : Cx} {c : Sc} {W : WX}
theorem sn_sset {a : E} {x w v y : Expr} {p pos : Pos} (hc : Ctx C cd k X c W) (hx : x = .Call w [.Call v [y] [] p] [] pos) (hw : glName c "sorted" w = true) (hv : glName c "set" v = true) (hp : plainX y = true) (ha : SnE C cd X W a y) : SnE C cd X W (.sset a) x := by
  subst hx
  obtain ⟨p1, rfl, h1, h2⟩ := glName_inv hw
  obtain ⟨p2, rfl, h3, h4⟩ := glName_inv hv
  have b1 : bootBuiltins "sorted" = some (.builtin "sorted") := by decide +kernel
  have b2 : bootBuiltins "set" = some (.type "set") := by decide +kernel
  have inner : PE X (.Call (.Name "set" p2) [y] [] p) (tCB (rSetB X.K X.w) _) := pe_callTy (cr_setB (X := X) hc.calm) (hc.gl h3) (hc.glb.free _ (by decide)) b2 (pa_cons ha.pe pa_nil (star1 hp)) (by decide) h4 (star1 hp) rfl
  refine .of (PE.imp (pe_callB (cr_sortedSet (X := X) hc.calm) (hc.gl h1) (hc.glb.free _ (by decide)) b1 (pa_cons inner pa_nil (star1 (by rfl))) (by decide) h2 (star1 (by rfl)) rfl) fun σ H Q ⟨B, own, g, S, m⟩ => ?_) (by intros; simp) fun _ => rfl
  refine useE S m.bind (fun _ z => z) fun o v H1 _ m e1 b _ => ?_
  have S1 := S.same e1
  obtain ⟨a0, ws, ds, rfl, rr, m, hs⟩ := items_of b (Mt.bind (x := o.items) (f := fun ds => ssetD ds) m)
  unfold ssetD at m
  cases q1 : ints? ds with
  | none => rw [q1] at m; exact m.elim
  | some ns =>
    rw [q1] at m
    obtain ⟨e2, _⟩ := rr.ints_of q1
    subst e2
    obtain ⟨z, m⟩ := Mt.iteP m
    have z : ns.length ≤ 1000 ∧ (usortI ns).length < 64 := of_decide_eq_true z
    refine ⟨a0, ns, rfl, hs.imp id fun q => q.1, z.1, fun p hp => ?_⟩
    refine ⟨p, _, _, rfl, upd_same, z.2, fun ns' p' up mem _ hp' => ?_⟩
    have e3 : ns' = usortI ns := upS_ext up (usort_up ns) fun k => by rw [mem k, decide_eq_true_eq, mem_usort]
    subst e3
    have e4 : Same H1 (upd H1 p (SetO X.w p (fun j => decide (j ∈ ns)) (usortI ns).length)) := same_new hp
    have nl := new_list (A := Av B own) (fun _ q => (S1.same e4).inH' q) hp' (RDs.ints (K := X.K) (B := Av B own) (usortI ns))
    refine Mt.okP m _ _ ((e1.trans e4).trans (same_new hp')) (.fz nl.1) fun _ d q => ?_
    cases q
    intro ds' hd
    obtain ⟨p3, ws, g1, g2, g3, g4⟩ := nl.2 ds' hd
    exact ⟨p3, ws, g1, e1.free (e4.free g2), g3, g4⟩
end
end Q

set_option Elab.async false
set_option linter.all false
set_option maxRecDepth 100000
set_option maxHeartbeats 1000000
/-! SdR: t[::-1] and t[1::-1] of a tuple. -/
namespace Q
open PySem PySem.Spec PyProof.Rows L2
def revLo (two : Bool) : Option Int := if two then some 1 else none
theorem adj_rev (two : Bool) (n : Nat) : Builtin.Slice.sliceAdjust (revLo two) none (-1) (n : Int) = (((revC two n : Nat) : Int) - 1, -1) := by
  have h1 : ((-1 : Int) < 0) := by omega
  unfold Builtin.Slice.sliceAdjust revLo revC
  simp only [h1, if_true]
  cases two with
  | true =>
    refine Prod.ext ?_ rfl
    show (if (1 : Int) < 0 then max ((1 : Int) + (n : Int)) (-1) else min 1 ((n : Int) - 1)) = ((min 2 n : Nat) : Int) - 1
    rw [if_neg (by omega)]
    omega
  | false => rfl
theorem plc_rev (c : Nat) : Builtin.Slice.slicePlaces ((c : Int) - 1) (-1) (-1) = c := by
  unfold Builtin.Slice.slicePlaces
  have h1 : ¬ ((-1 : Int) > 0) := by omega
  have h2 : (- -1 : Int) = 1 := by decide
  simp only [h1, if_false, h2, Int.ediv_one]
  split <;> omega
theorem fm_congr {α β : Type} {f g : α → Option β} : ∀ {l : List α}, (∀ x ∈ l, f x = g x) → l.filterMap f = l.filterMap g
  | [], _ => rfl
  | x :: l, h => by
    rw [List.filterMap_cons, List.filterMap_cons, h x (by simp), fm_congr fun y hy => h y (by simp [hy])]
theorem fm_all {α : Type} : ∀ l : List α, (List.range l.length).filterMap (fun m => l[m]?) = l
  | [] => rfl
  | x :: l => by
    rw [List.length_cons, List.range_succ_eq_map, List.filterMap_cons, List.filterMap_map]
    show x :: _ = _
    congr 1
    exact fm_all l
theorem pick_rev (items : List Value) (c : Nat) (hc : c ≤ items.length) : ((List.range c).filterMap fun (m : Nat) => items.toArray[((c : Int) - 1 + (m : Int) * (-1)).toNat]?) = (items.take c).reverse := by
  have hlen : (items.take c).reverse.length = c := by rw [List.length_reverse, List.length_take]; omega
  have e : (List.range c).filterMap (fun (m : Nat) => items.toArray[((c : Int) - 1 + (m : Int) * (-1)).toNat]?) = (List.range c).filterMap fun m => (items.take c).reverse[m]? := by
    refine fm_congr fun m hm => ?_
    have hm := List.mem_range.mp hm
    have z : ((c : Int) - 1 + (m : Int) * (-1)).toNat = c - 1 - m := by omega
    have len2 : (items.take c).length = c := by rw [List.length_take]; omega
    rw [z, List.getElem?_reverse (by omega), len2, List.getElem?_take_of_lt (by omega)]
    simp
  rw [e]
  have q := fm_all (items.take c).reverse
  rwa [hlen] at q
section
variable {prog : Program} {w : World} {A : Around} {E : Value → Shared → Prop} {s : Shared}
theorem applied_rev {sl : Addr} {vl vs : Value} {two : Bool} {n : Nat} {Q : Int × Int × Nat → Shared → Prop} (hs : s.heap.IsSliceOf sl vl .none vs) (pl : IsPart vl (revLo two)) (ps : IsPart vs (some (-1)))
    (h : Q (((revC two n : Nat) : Int) - 1, -1, revC two n) s) : wpAny (model prog w) A (Builtin.Slice.sliceApplied (.ref sl) (pure (n : Int))) Q E s := by
  obtain ⟨ob, ho, hc, hd⟩ := id hs
  unfold Builtin.Slice.sliceApplied Builtin.Slice.sliceFields
  apply wpAny_bind
  refine wpAny_bind (wpAny_field ho hd (x := vl) rfl (wpAny_bind (wpAny_field ho hd (x := .none) rfl (wpAny_bind (wpAny_field ho hd (x := vs) rfl (wpAny_pure ?_))))))
  refine wpAny_bind (HT.slicePart_ ps ?_)
  show wpAny _ _ (if ((-1 : Int) == 0) = true then _ else _) _ _ s
  rw [if_neg (by decide)]
  refine wpAny_bind (HT.slicePart_ pl (wpAny_bind (HT.slicePart_ .none (wpAny_bind (wpAny_pure ?_)))))
  show wpAny _ _ (match Builtin.Slice.sliceAdjust (revLo two) none (-1) (n : Int) with | (lo, hi) => pure (lo, (-1 : Int), Builtin.Slice.slicePlaces lo hi (-1))) _ _ s
  rw [adj_rev]
  show wpAny _ _ (pure (((revC two n : Nat) : Int) - 1, (-1 : Int), Builtin.Slice.slicePlaces (((revC two n : Nat) : Int) - 1) (-1) (-1))) _ _ s
  rw [plc_rev]
  exact wpAny_pure h
theorem revC_le (two : Bool) (n : Nat) : revC two n ≤ n := by
  unfold revC
  split <;> omega
theorem item_rev {t sl : Addr} {its : List Value} {vl vs : Value} {two : Bool} {Q : Value → Shared → Prop} (ht : IsTup s.heap t its.toArray) (hs : s.heap.IsSliceOf sl vl .none vs) (pl : IsPart vl (revLo two)) (ps : IsPart vs (some (-1)))
    (h : Q (.ref s.heap.objs.size) { s with heap := s.heap.push { cls := .type "tuple", data := .seq ((its.take (revC two its.length)).reverse).toArray } }) (hz : its.length ≤ sizeLine) :
    wpAny (model prog w) A (getItem (.ref t) (.ref sl)) Q E s := by
  have fits : sizeOk (.seq ((its.take (revC two its.length)).reverse).toArray) := by
    show ((its.take (revC two its.length)).reverse).toArray.size ≤ sizeLine
    rw [List.size_toArray, List.length_reverse, List.length_take]
    omega
  obtain ⟨ob, ho, hc, hd⟩ := id hs
  have ty : s.TypeIs (.ref sl) "slice" := ⟨ob, ho, hc⟩
  unfold getItem
  try with_reducible apply wpAny_holding
  first | refine wpAny_bind (wpAny_pure ?_) | skip
  apply wpAny_bind
  refine wpAny_sequenceKey ht.typeIs (by decide) ?_
  apply wpAny_bind
  refine wpAny_callSpecial?_slot (name := Str.ofString "__getitem__") ht.typeIs PyProof.Rows.slot_tuple_getitem (wpAny_call_entry PyProof.Rows.slot_tuple_getitem ht.typeIs PyProof.Rows.entry_tuple_getitem ?_ (PyProof.Rows.args_tuple_getitem _ _))
  show wpAny _ _ (Builtin.Tuple.tupleItemsOf (.ref t) >>= _) _ _ s
  apply wpAny_bind
  refine PyProof.Rows.tupleItemsOf_ ht ?_
  apply wpAny_bind
  apply wpAny_typeOf ty
  rw [if_pos (by decide)]
  apply wpAny_bind
  refine applied_rev (two := two) (n := its.toArray.size) hs pl ps ?_
  show wpAny _ _ (if (((((revC two its.toArray.size : Nat) : Int) - 1) == 0 && (-1 : Int) == 1 && revC two its.toArray.size == its.toArray.size) = true) then _ else _) _ _ s
  rw [if_neg (by simp)]
  have pk := pick_rev its (revC two its.length) (revC_le _ _)
  rw [List.size_toArray, pk]
  first
    | exact wpAny_bind (m := Builtin.Tuple.tupleExact _) (wpAny_newObj_type (wpAny_pure ⟨_, rfl, wpAny_pure h⟩) fits)
    | exact wpAny_bind (m := Builtin.Tuple.tupleExact _) (wpAny_newObj_type (wpAny_bind (wpAny_pure (wpAny_pure ⟨_, rfl, wpAny_pure h⟩))) fits)
    | exact wpAny_bind (wpAny_bind (m := Builtin.Tuple.tupleExact _) (wpAny_newObj_type (wpAny_pure (wpAny_pure ⟨_, rfl, wpAny_pure h⟩)) fits))
    | exact wpAny_bind (wpAny_bind (m := Builtin.Tuple.tupleExact _) (wpAny_newObj_type (wpAny_pure ⟨_, rfl, wpAny_pure h⟩) fits))
end
/-- t[::-1], t[1::-1] -/
def tRev (K : PySem.W.Frag) (two : Bool) (te : TE) : TE := fun σ H Q => te σ H fun x H1 => ∃ a xs, x = .ref a ∧ SqT K H1 a xs ∧ ∀ p, H1 p = none → Q (.ref p) (upd H1 p (.tup ((xs.take (revC two xs.length)).reverse)))
theorem pe_rev {X : Cx} {e : Expr} {te : TE} {k : Nat} {two : Bool} {lo : Option Expr} {p1 p2 p3 pos : Pos} (he : PE X e te) (hl : loX two lo = true) : PE X (.Subscript e (.Slice lo none (some (.UnaryOp .USub (.Constant (.int 1) k p1) p2)) p3) pos) (tRev X.K two te) := by
  refine ⟨fun pins s σ H Q I h => ?_⟩
  refine Subscript_ (thn (he.run pins s σ H _ I h) fun v s1 ⟨x, H1, I1, r1, z⟩ => ?_)
  obtain ⟨a, xs, rfl, hx, q⟩ := z
  cases r1
  have st : PO X (some (.UnaryOp .USub (.Constant (.int 1) k p1) p2)) (tPart (tUn (rU fun i => .int (-i)) (tC (.int 1)))) := po_some (pe_un un_neg pe_int)
  have lo2 : (lo = none ∧ two = false) ∨ (∃ kk pp, lo = some (.Constant (.int 1) kk pp)) ∧ two = true := by
    unfold loX at hl
    split at hl
    · exact .inl ⟨rfl, by simpa using hl⟩
    · exact .inr ⟨⟨_, _, rfl⟩, hl⟩
    · cases hl
  have first : wpAny (model X.prog X.w) X.A (evalPart lo X.env) (fun u s' => ∃ o H', Inv X pins σ H' s' ∧ IsPart u o ∧ (o = revLo two ∧ H' = H1)) X.xe s1 := by
    rcases lo2 with ⟨rfl, rfl⟩ | ⟨⟨kk, pp, rfl⟩, rfl⟩
    · exact po_none.run pins s1 σ H1 (fun o H2 => o = revLo false ∧ H2 = H1) I1 ⟨rfl, rfl⟩
    · exact (po_some pe_int).run pins s1 σ H1 (fun o H2 => o = revLo true ∧ H2 = H1) I1 ⟨1, rfl, rfl, rfl⟩
  refine wpAny_Slice (thn first fun vl s2 ⟨l, H2, I2, pl, el, e2⟩ => ?_)
  subst el e2
  refine thn (po_none.run pins s2 σ H2 (fun o H3 => o = none ∧ H3 = H2) I2 ⟨rfl, rfl⟩) fun vu s3 ⟨u, H3, I3, pu, eu, e3⟩ => ?_
  subst eu e3
  refine thn (st.run pins s3 σ H3 (fun o H4 => o = some (-1) ∧ H4 = H3) I3 ⟨1, rfl, -1, rfl, rfl, rfl⟩) fun vs s4 ⟨o, H4, I4, ps, eo, e4⟩ => ?_
  subst eo e4
  cases pu
  have I5 : Inv X pins σ H4 { s4 with heap := s4.heap.push { cls := .type "slice", data := .fields #[vl, .none, vs] } } := I4.kept (t' := s4.toks) fun b ob q => Heap.get?_push_of_some _ q
  obtain ⟨its, r, ht, hz⟩ := I5.tuple hx
  have len := r.length
  show wpAny (model X.prog X.w) X.A (subscriptTail e (.Slice lo none (some (.UnaryOp .USub (.Constant (.int 1) k p1) p2)) p3) (.ref a) (.ref s4.heap.objs.size)) (EP X pins σ Q) X.xe { s4 with heap := s4.heap.push { cls := .type "slice", data := .fields #[vl, .none, vs] } }
  refine tail_any (ops := [.ref a, .ref s4.heap.objs.size]) ht.typeIs PyProof.Rows.slot_tuple_getitem.lookup ?_ (by rcases lo2 with ⟨rfl, rfl⟩ | ⟨⟨kk, pp, rfl⟩, rfl⟩ <;> with_unfolding_all rfl)
  refine item_rev (two := two) ht (Heap.IsSliceOf.new _ vl .none vs) pl ps ?_ (by rw [← len]; exact hz)
  rw [← len]
  refine ⟨.ref _, _, I5.laid (t' := s4.toks) (o := .tup ((xs.take (revC two xs.length)).reverse)) (fun b ob q => Heap.get?_push_of_some _ q) (Nat.le_refl _) ?_, rfl, q _ (I5.hok.fresh (Nat.le_refl _))⟩
  refine ⟨by rw [List.length_reverse, List.length_take]; omega, _, (r.take _).reverse, IsTup.new _ _⟩
section
variable {C : String → Addr} {cd : String → List D → R D} {k : Nat} {X : Cx} {c : Sc} {W : WX}
theorem RDs.reverse {K : PySem.W.Frag} {A : Addr → Prop} {H : Hp} : ∀ {vs : List V} {ds : List D}, RDs K A H vs ds → RDs K A H vs.reverse ds.reverse
  | _, _, .nil => .nil
  | _, _, .cons h r => by
    rw [List.reverse_cons, List.reverse_cons]
    exact (RDs.reverse r).append (.cons h .nil)
theorem sn_rev {two : Bool} {a : E} {x y : Expr} {l : Option Expr} {kk : Nat} {p1 p2 p3 pos : Pos} (hx : x = .Subscript y (.Slice l none (some (.UnaryOp .USub (.Constant (.int 1) kk p1) p2)) p3) pos) (hl : loX two l = true) (ha : SnE C cd X W a y) : SnE C cd X W (.rev two a) x := by
  subst hx
  refine .of (PE.imp (pe_rev ha.pe hl) fun σ H Q ⟨B, own, g, S, m⟩ => ?_) (by intros; simp) fun _ => rfl
  refine useD S m.bind (fun _ z => z) fun d v H1 m e1 r1 => ?_
  cases r1 with
  | @tup a0 vs ds h1 n1 r =>
    refine ⟨a0, vs, rfl, SqT.of h1, fun p hp => ?_⟩
    have m : Mt (R.ok (O.fz (.tuple ((ds.take (revC two ds.length)).reverse)))) _ _ := m
    rw [r.length]
    refine Mt.okP m _ _ (e1.trans (same_new hp)) (.fz (new_tup (A := Av B own) (H := H1) (fun _ q => (S.same e1).inH' q) hp ((r.take _).reverse))) fun q => nomatch q
  | _ => exact m.elim
end
end Q

set_option Elab.async false
set_option linter.all false
set_option maxRecDepth 100000
set_option maxHeartbeats 1000000
/-! Sd8b: where an item stands first; what a comprehension walks. -/
namespace Q
open PySem PySem.Spec PyProof.Rows L2
section
variable {C : String → Addr} {cd : String → List D → R D} {k : Nat} {X : Cx} {c : Sc} {W : WX}
theorem pe_slotC (hc : Ctx C cd k X c W) {i : Nat} {x : Expr} (h : nameB c i x = true) : PE X x (tVar i) := by
  obtain ⟨y, p, rfl, h1, h2, h3, h4⟩ := nameB_inv h
  exact pe_var (by rw [hc.N]; exact h1) (hc.vis h2) h3 h4
theorem attr_name {i : Nat} {x : Expr} {m : Str} {w : Sem Value} {env : PySem.Env} (h : nameB c i x = true) : attributeBase x m env w = w := by
  obtain ⟨y, p, rfl, _⟩ := nameB_inv h
  rfl
theorem few_one {v : Expr} {q : Pos} (hp : plainX v = true) : ((backTo q (starEach [v] X.env)).all (fun x => !x.1) && (backToKw q (keywordEach [] X.env)).all (fun x => x.1.isSome)
      && decide ([v].length + ([] : List Keyword).length + (if ([] : List Keyword).isEmpty then 0 else 1) < 30)) = true := by
  rw [star1 hp]
  rfl
theorem ev_idx {i : Nat} {b : E} {g : Env} : (E.idx i b).ev cd g = (((slotV g i >>= O.asD) >>= lstD) >>= fun ds => (E.ev cd b g >>= O.asD) >>= fun y => idxD ds y) := by simp only [E.ev]
theorem sn_idx (hc : Ctx C cd k X c W) {i : Nat} {b : E} {x y z : Expr} {p q : Pos} (hx : x = .Call (.Attribute y "index" p) [z] [] q) (hl : p.endLine = q.line) (hn : nameB c i y = true) (hp : plainX z = true) (hb : SnE C cd X W b z) : SnE C cd X W (.idx i b) x := by
  subst hx
  have hu : X.A.units + 65 < cLine := by have := hc.room.un; omega
  refine .of (PE.imp (pe_bm PySem.F.plainAttrs_list PySem.F.slot_list_index PySem.F.type_list_index (mt_indexD hu) (pe_slotC hc hn) (pa_cons hb.pe pa_nil (star1 hp)) (attr_name hn) (few_one hp) (by simpa using hl) (star1 hp) rfl) fun σ H Q ⟨B, own, g, S, m⟩ => ?_) (by intros; simp) fun _ => rfl
  rw [ev_idx] at m
  have m := m.bind
  have m0 : ∃ ds, g[i]? = some (some (.fz (.list ds))) ∧ Mt ((E.ev cd b g >>= O.asD) >>= fun y => idxD ds y) (fun o => ∀ v H', Same H H' → Bor X.K (Av B own) H' v o → ((E.idx i b).fresh = true → ∀ d, o = .fz d → FrP X.K (Av B own) H v H' d) → Q v H') (WP C W σ H) := by
    unfold slotV at m
    cases hg : g[i]? with
    | none => rw [hg] at m; exact m.elim
    | some o =>
      cases o with
      | none => rw [hg] at m; exact m.elim
      | some o =>
        rw [hg] at m
        cases o with
        | ol os => exact m.elim
        | fz d =>
          cases d with
          | list ds => exact ⟨ds, rfl, m⟩
          | _ => exact m.elim
  obtain ⟨ds, hg, m⟩ := m0
  obtain ⟨v, hv, rd, _⟩ := S.slot i _ hg
  cases rd with
  | @lst a vs _ h n r =>
    refine ⟨_, hv, .inl ⟨rfl, vs, SqL.of h⟩, ?_⟩
    refine useD S m.bind (fun _ z => z) fun y w H1 m e1 r1 => ?_
    obtain ⟨h1, h2, m⟩ := and_shaped m
    have rl : RD X.K (Av B own) H1 (.ref a) (.list ds) := .lst (e1 _ _ h) n (r.evo (.same e1))
    cases hf : ds.findIdx? (fun z => PyData.eqv z y) with
    | none => rw [hf] at m; exact m.elim
    | some j =>
      rw [hf] at m
      obtain ⟨hj, p1, p2⟩ := List.findIdx?_eq_some_iff_getElem.mp hf
      refine ⟨a, w, y, ds, j, ds[j], rfl, rfl, rl.dp (lay_of h1), r1.dp (lay_of h2), h1, h2, List.getElem?_eq_getElem hj, p1, fun m' z hm hz => ?_, Mt.okP m _ H1 e1 (.fz (.int _)) fun q => nomatch q⟩
      have hm2 : m' < ds.length := by omega
      rw [List.getElem?_eq_getElem hm2] at hz
      cases hz
      have := p2 m' hm
      simpa using this
/-! ### what a comprehension walks: nothing that stands changes meanwhile -/
structure ItOkS (K : PySem.W.Frag) (A : Addr → Prop) (H1 : Hp) (G : Hp → Prop) (Y : Nat → Hp → V → Hp → Prop) (ds : List D) : Prop where
  stands : ∀ A' H', Evo A H1 A' H' → Same H1 H' → G H'
  gives : ∀ (i : Nat) d A' H' x H3, ds[i]? = some d → Evo A H1 A' H' → Same H1 H' → (∀ a, A' a → ∃ o, H' a = some o) → Y i H' x H3 → Same H' H3 ∧ RD K A' H3 x d
theorem ItOk.s {K : PySem.W.Frag} {A : Addr → Prop} {H1 : Hp} {G : Hp → Prop} {Y : Nat → Hp → V → Hp → Prop} {ds : List D} (h : ItOk K A H1 G Y ds) : ItOkS K A H1 G Y ds :=
  ⟨fun A' H' e _ => h.stands A' H' e, fun i d A' H' x H3 a e _ => h.gives i d A' H' x H3 a e⟩
def tIs (K : PySem.W.Frag) (C : String → Addr) (cd : String → List D → R D) (W : WX) (it : It) : TI := fun σ H R => ∃ B own g, SR K B own H σ g ∧
  Mt (it.evi cd g) (fun ds => ∀ J H' G Y, Same H H' → Walk J ds.length G Y → ItOkS K (Av B own) H' G Y ds → R J H') (WP C W σ H)
theorem it_s {it : It} {tg x : Expr} (h : PI X tg x (tI X.K C cd W it)) : PI X tg x (tIs X.K C cd W it) :=
  PI.imp h fun σ H R ⟨B, own, g, S, m⟩ => ⟨B, own, g, S, m.imp (fun ds _ f J H' G Y e w k => f J H' G Y e w k.s) fun _ z => z⟩
theorem it_seqo {e : E} {x tg : Expr} (he : SnE C cd X W e x) : PI X tg x (tIs X.K C cd W (.seqo e)) := by
  refine PI.imp (pi_seq he.pe) fun σ H R ⟨B, own, g, S, m⟩ => ?_
  have ev : (It.seqo e).evi cd g = (E.ev cd e g >>= fun x => x.items) := by simp only [It.evi]
  rw [ev] at m
  refine useE S m.bind (fun _ z => z) fun o v H1 _ m e1 b _ => ?_
  obtain ⟨a, vs, ds, rfl, r, m, hs⟩ := items_of b m
  rcases hs with hs | ⟨hs, _, _⟩
  · refine .inl ⟨a, rfl, ⟨vs, hs⟩, m _ H1 (fun H => SqL X.K H a vs) (YAt vs) e1 (by rw [← r.length]; exact walk_list) ⟨fun A' H' _ s => ?_, fun i d A' H' x H3 hd ev _ _ y => ?_⟩⟩
    · rcases hs with (h | ⟨o, h⟩) | h
      · exact .inl (.inl (s _ _ h))
      · exact .inl (.inr ⟨o, s _ _ h⟩)
      · exact .inr h
    · obtain ⟨rfl, hx⟩ := y
      obtain ⟨v, hv, hr⟩ := r.get hd
      rw [hx] at hv
      cases hv
      exact ⟨Same.refl _, hr.evo ev⟩
  · refine .inr ⟨a, rfl, ⟨vs, hs⟩, m _ H1 (fun H => SqT X.K H a vs) (YAt vs) e1 (by rw [← r.length]; exact walk_tup) ⟨fun A' H' _ s => ?_, fun i d A' H' x H3 hd ev _ _ y => ?_⟩⟩
    · rcases hs with (h | ⟨o, h⟩) | h
      · exact .inl (.inl (s _ _ h))
      · exact .inl (.inr ⟨o, s _ _ h⟩)
      · exact .inr h
    · obtain ⟨rfl, hx⟩ := y
      obtain ⟨v, hv, hr⟩ := r.get hd
      rw [hx] at hv
      cases hv
      exact ⟨Same.refl _, hr.evo ev⟩
end
end Q

set_option Elab.async false
set_option linter.all false
set_option maxRecDepth 100000
set_option maxHeartbeats 1000000
/-! Sd9: comprehensions; all expressions. -/
namespace Q
open PySem PySem.Spec PyProof.Rows L2

/-! ### within a comprehension -/
def owi (own : Nat → List Addr) (vs : List Nat) : Nat → List Addr := fun i => if i ∈ vs then [] else own i
/-- what is not to be met there: all but what its def's other slots hold -/
def Bin (B : Addr → Prop) (own : Nat → List Addr) (vs : List Nat) (p : Addr) : Addr → Prop := fun a => B a ∨ (∃ i, i ∈ vs ∧ a ∈ own i) ∨ a = p
theorem av_in {B : Addr → Prop} {own : Nat → List Addr} {vs : List Nat} {p : Addr} : Av (Bin B own vs p) (owi own vs) = fun a => Av B own a ∨ a = p := by
  funext a
  apply propext
  constructor
  · rintro ((h | ⟨i, hi, h⟩ | h) | ⟨i, h⟩)
    · exact .inl (.inl h)
    · exact .inl (.inr ⟨i, h⟩)
    · exact .inr h
    · unfold owi at h
      by_cases e : i ∈ vs
      · rw [if_pos e] at h; cases h
      · rw [if_neg e] at h; exact .inl (.inr ⟨i, h⟩)
  · rintro ((h | ⟨i, h⟩) | h)
    · exact .inl (.inl h)
    · by_cases e : i ∈ vs
      · exact .inl (.inr (.inl ⟨i, e, h⟩))
      · exact .inr ⟨i, by unfold owi; rw [if_neg e]; exact h⟩
    · exact .inl (.inr (.inr h))
theorem wipeE_get {g : Env} {vs : List Nat} {j : Nat} {o : O} (h : (wipe g vs)[j]? = some (some o)) : j ∉ vs ∧ g[j]? = some (some o) := by
  induction vs with
  | nil => exact ⟨by simp, h⟩
  | cons v vs ih =>
    unfold wipe at h
    by_cases e : v = j
    · subst e
      by_cases hl : v < (wipe g vs).length
      · rw [List.getElem?_set_self hl] at h; cases h
      · rw [List.getElem?_eq_none (by simpa using hl)] at h; cases h
    · rw [List.getElem?_set_ne e] at h
      obtain ⟨h1, h2⟩ := ih h
      exact ⟨by simp [Ne.symm e, h1], h2⟩
theorem wipeE_of {g : Env} {vs : List Nat} {j : Nat} {o : O} (h1 : j ∉ vs) (h : g[j]? = some (some o)) : (wipe g vs)[j]? = some (some o) := by
  induction vs with
  | nil => exact h
  | cons v vs ih =>
    simp only [List.mem_cons, not_or] at h1
    unfold wipe
    rw [List.getElem?_set_ne (Ne.symm h1.1)]
    exact ih h1.2
theorem wipeE_len {g : Env} {vs : List Nat} : (wipe g vs).length = g.length := by
  induction vs with
  | nil => rfl
  | cons v vs ih => unfold wipe; simp [ih]
theorem SR.inner {K : PySem.W.Frag} {B : Addr → Prop} {own : Nat → List Addr} {H H' : Hp} {σ : L2.St} {g : Env} (S : SR K B own H σ g) (vs : List Nat) {p : Addr} (e : Same H H') (hp : H p = none) (hp' : ∃ o, H' p = some o) :
    SR K (Bin B own vs p) (owi own vs) H' (L2.wipe σ vs) (wipe g vs) := by
  have S1 := S.same e
  refine ⟨by rw [wipe_length, wipeE_len]; exact S.len, fun i o q => ?_, fun i q => ?_, fun i => ?_, fun i j a h1 h2 => ?_, fun i a h => ?_, fun a h => ?_⟩
  · obtain ⟨h1, h2⟩ := wipeE_get q
    obtain ⟨v, h3, h4⟩ := S.slot i o h2
    refine ⟨v, by rw [wipe_get, if_neg h1]; exact h3, ?_⟩
    have eo : owi own vs i = own i := by unfold owi; rw [if_neg h1]
    rw [eo, av_in]
    exact h4.keep ((Evo.fresh hp).trans (.same e)) fun a _ u q => e a u q
  · unfold owi
    by_cases h : i ∈ vs
    · rw [if_pos h]
    · rw [if_neg h]
      exact S.emp i fun o z => q o (wipeE_of h z)
  · unfold owi
    split
    · exact List.nodup_nil
    · exact S.nd i
  · unfold owi at h1 h2
    by_cases z1 : i ∈ vs
    · rw [if_pos z1] at h1; cases h1
    · by_cases z2 : j ∈ vs
      · rw [if_pos z2] at h2; cases h2
      · rw [if_neg z1] at h1
        rw [if_neg z2] at h2
        exact S.dj i j a h1 h2
  · unfold owi at h
    by_cases z : i ∈ vs
    · rw [if_pos z] at h; cases h
    · rw [if_neg z] at h
      rintro (q | ⟨j, hj, q⟩ | q)
      · exact S.db i a h q
      · have := S.dj i j a h q
        subst this
        exact z hj
      · subst q
        obtain ⟨ws, u⟩ := S.inH ⟨i, h⟩
        rw [hp] at u; cases u
  · rcases h with q | ⟨j, hj, q⟩ | q
    · exact S1.b0 a q
    · obtain ⟨ws, u⟩ := S1.inH ⟨j, q⟩
      exact ⟨_, u⟩
    · subst q; exact hp'
theorem wipe_wipe {σ : L2.St} {vs : List Nat} : L2.wipe (L2.wipe σ vs) vs = L2.wipe σ vs := by
  apply List.ext_getElem?
  intro j
  rw [wipe_get, wipe_get]
  by_cases e : j ∈ vs
  · rw [if_pos e, if_pos e]
    cases σ[j]? <;> rfl
  · rw [if_neg e, if_neg e]

section
variable {C : String → Addr} {cd : String → List D → R D} {k : Nat} {X : Cx} {c : Sc} {W : WX}
abbrev W0 : WX := fun _ _ _ _ => False
/-- a clause's test -/
def tK (K : PySem.W.Frag) (C : String → Addr) (cd : String → List D → R D) (o : Oe) : TT := fun σ H Q => ∃ B own g, SR K B own H σ g ∧ Mt (o.evt cd g) (fun b => ∀ H', Same H H' → Q b H') (fun _ => False)
theorem sn_os_no {xs : List Expr} (h : osB c .no xs = true) : PTs X xs (tK X.K C cd .no) := by
  cases xs with
  | nil => exact ⟨fun pins s σ H Q I ⟨B, own, g, S, m⟩ => pts_nil.run pins s σ H Q I (Mt.okP m H (Same.refl H))⟩
  | cons y ys => simp [osB] at h
theorem sn_os_so {e : E} {x : Expr} (tx : testX x = true) (he : SnE C cd X W0 e x) : PTs X [x] (tK X.K C cd (.so e)) :=
  ⟨fun pins s σ H Q I ⟨B, own, g, S, m⟩ => (pts_one (he.pt tx)).run pins s σ H Q I ⟨B, own, g, S, m.imp (fun b _ q => q) fun _ z => z.elim⟩⟩
/-- one turn, as it is worth -/
def turnC (cd : String → List D → R D) (tg : Tg) (vs : List Nat) (o : Oe) (e : E) (g : Env) (d : D) : R (Option D) := do
  let g1 ← tg.put d (wipe g vs)
  let k ← Oe.evt cd o g1
  if k then do
    let x ← (E.ev cd e g1) >>= O.asD
    .ok (some x)
  else .ok none
theorem ev_comp {tg : Tg} {own : List (String × Nat)} {it : It} {o : Oe} {e : E} {g : Env} : (E.comp tg own it o e).ev cd g = (It.evi cd it g >>= fun ds => if szOk ds.length then (compL (turnC cd tg (own.map (·.2)) o e g) ds >>= fun r => .ok (.fz (.list r))) else .bad) := by
  simp only [E.ev]
  rfl
theorem compL_noX {f : D → R (Option D)} : ∀ ds, NoX (compL f ds)
  | [] => NoX.ok
  | d :: ds => by
    unfold compL
    cases f d with
    | ok o =>
      cases o with
      | none => exact compL_noX ds
      | some x => exact (compL_noX ds).bind fun _ _ => NoX.ok
    | exc c => exact NoX.bad
    | bad => exact NoX.bad
theorem comp_tr {tg : Tg} {ow : List (String × Nat)} {it : It} {o : Oe} {e : E} (hsl : ∀ i ∈ tg.slots, i ∈ ow.map (·.2)) :
    ∀ σ H Q, tE X.K C cd W (.comp tg ow it o e) σ H Q → tLc (tIs X.K C cd W it) (tG X.K tg) (tK X.K C cd o) (tE X.K C cd W0 e) (ow.map (·.2)) σ H Q := by
  intro σ H Q ⟨B, own, g, S, m⟩
  rw [ev_comp] at m
  refine ⟨B, own, g, S, m.bind.imp (fun ds _ m J H1 G Y e1 wk iok D hD => ?_) fun _ z => z⟩
  obtain ⟨hz, m⟩ := m.iteP
  have S1 := S.same e1
  have nD : ¬ Av B own D := S1.fresh hD
  have dn : H D = none := e1.free hD
  have hz' : ds.length ≤ 1000000 := of_decide_eq_true hz
  cases hr : compL (turnC cd tg (ow.map (·.2)) o e g) ds with
  | exc c => exact absurd hr (compL_noX ds c)
  | bad => rw [hr] at m; exact m.elim
  | ok r =>
    rw [hr] at m
    refine lc_it wk (fun i H' => ∃ rs acc rest, Same H1 H' ∧ H' D = some (.lst acc) ∧ RDs X.K (fun a => Av B own a ∨ a = D) H' acc rs ∧ rs.length ≤ i ∧ compL (turnC cd tg (ow.map (·.2)) o e g) (ds.drop i) = .ok rest ∧ r = rs ++ rest)
      ⟨[], [], r, same_new hD, upd_same, .nil, Nat.le_refl _, by simpa using hr, rfl⟩ (fun i H' hi ⟨rs, acc, rest, s1, h2, h3, h4, h5, h6⟩ => iok.stands _ H' ((Evo.fresh hD).trans (.same s1)) s1) (fun i x H2 H3 hi ⟨rs, acc, rest, s1, h2, h3, h4, h5, h6⟩ hy => ?_) (fun H' ⟨rs, acc, rest, s1, h2, h3, h4, h5, h6⟩ => ?_)
    · have hd : ds[i]? = some ds[i] := List.getElem?_eq_getElem hi
      have ev2 : Evo (Av B own) H1 (fun a => Av B own a ∨ a = D) H2 := (Evo.fresh hD).trans (.same s1)
      have inA : ∀ a, (Av B own a ∨ a = D) → ∃ o, H2 a = some o := fun a z => by
        rcases z with z | z
        · obtain ⟨o, q⟩ := S1.inH' z
          exact ⟨o, s1 a o q⟩
        · subst z; exact ⟨_, h2⟩
      obtain ⟨s3, rx⟩ := iok.gives i ds[i] _ H2 x H3 hd ev2 s1 inA hy
      have SI := S1.inner (ow.map (·.2)) (s1.trans s3) hD ⟨_, s3 _ _ h2⟩
      rw [← av_in (vs := ow.map (·.2))] at rx
      rw [List.drop_eq_getElem_cons hi] at h5
      -- the turn
      have mt : Mt (turnC cd tg (ow.map (·.2)) o e g ds[i]) (fun ox => (match ox with
          | some x => ∃ rest', compL (turnC cd tg (ow.map (·.2)) o e g) (ds.drop (i + 1)) = .ok rest' ∧ rest = x :: rest'
          | none => compL (turnC cd tg (ow.map (·.2)) o e g) (ds.drop (i + 1)) = .ok rest)) (fun _ => False) := by
        unfold compL at h5
        cases q : turnC cd tg (ow.map (·.2)) o e g ds[i] with
        | exc c => rw [q] at h5; cases h5
        | bad => rw [q] at h5; cases h5
        | ok ox =>
          rw [q] at h5
          cases ox with
          | none => exact h5
          | some x =>
            have h5 : (compL (turnC cd tg (ow.map (·.2)) o e g) (ds.drop (i + 1)) >>= fun xs => R.ok (x :: xs)) = .ok rest := h5
            cases q2 : compL (turnC cd tg (ow.map (·.2)) o e g) (ds.drop (i + 1)) with
            | exc c => rw [q2] at h5; cases h5
            | bad => rw [q2] at h5; cases h5
            | ok rest' =>
              rw [q2] at h5
              cases h5
              exact ⟨rest', rfl, rfl⟩
      unfold turnC at mt
      refine ⟨_, _, _, ds[i], SI, rx, mt.bind.imp (fun g1 _ mt σ2 own2 S2 p2 => ⟨?_, ?_⟩) fun _ z => z⟩
      · rw [p2.wipe _ hsl, wipe_wipe]
      · have av2 : Av (Bin B own (ow.map (·.2)) D) own2 = fun a => Av B own a ∨ a = D := by
          rw [← av_in (vs := ow.map (·.2))]
          funext a
          apply propext
          constructor
          · rintro (z | z)
            · exact .inl z
            · exact .inr (p2.ow a z)
          · rintro (z | z)
            · exact .inl z
            · rcases p2.kept a z with z | ⟨j, hj, z⟩
              · exact .inr z
              · unfold owi at z
                rw [if_pos (hsl j hj)] at z
                cases z
        refine ⟨_, own2, g1, S2, mt.bind.imp (fun b _ mt H4 s4 => ?_) fun _ z => z⟩
        have go : Same H1 H4 := (s1.trans s3).trans s4
        have acc4 := (h3.evo (.same s3)).evo (.same s4)
        cases b with
        | false =>
          refine iteF ?_
          exact ⟨rs, acc, rest, go, s4 _ _ (s3 _ _ h2), acc4, by omega, mt, h6⟩
        | true =>
          refine iteT ?_
          have mt := show Mt ((E.ev cd e g1 >>= O.asD) >>= fun x => R.ok (some x)) _ _ from mt
          refine useD (S2.same s4) mt.bind (fun _ z => z.elim) fun d y H5 mt s5 ry => ?_
          obtain ⟨rest', q1, q2⟩ := mt
          rw [av2] at ry
          have h25 := s5 _ _ (s4 _ _ (s3 _ _ h2))
          have acc5 := acc4.evo (.same s5)
          refine ⟨acc, h25, ?_, rs ++ [d], acc ++ [y], rest', fun a u q => ?_, upd_same, ?_, by simp; omega, q1, by rw [h6, q2]; simp⟩
          · rw [h3.length, sizeLine_eq]; omega
          · rw [upd_ne (fun z => by subst z; rw [hD] at q; cases q)]
            exact (go.trans s5) a u q
          · have up : Evo (fun a => Av B own a ∨ a = D) H5 (fun a => Av B own a ∨ a = D) (upd H5 D (.lst (acc ++ [y]))) := Evo.upd (.inr rfl)
            exact (acc5.evo up).append (.cons (ry.evo up) .nil)
    · rw [List.drop_length] at h5
      cases h5
      rw [List.append_nil] at h6
      subst h6
      have ev3 : Evo (fun a => Av B own a ∨ a = D) H' (Av B own) H' := .sub fun a z => .inl z
      refine Mt.okP m (.ref D) H' (e1.trans s1) (.fz (.lst h2 nD (h3.evo ev3))) fun _ d q => ?_
      cases q
      intro ds' q
      cases q
      exact ⟨D, acc, rfl, dn, h2, h3⟩

theorem sn_comp (hc : Ctx C cd k X c W) {tg : Tg} {ow : List (String × Nat)} {it : It} {o : Oe} {e : E} {x elt t iter : Expr} {ifs : List Expr} {scope : Scope} {pos : Pos} (hx : x = .ListComp elt [⟨t, iter, ifs, 0⟩] scope pos)
    (hsl : ∀ i ∈ tg.slots, i ∈ ow.map (·.2)) (hb : blkC c.N c.sc scope (ow.map fun p => (Str.ofString p.1, p.2)) = true) (hi : PI X t iter (tIs X.K C cd W it)) (hf : ∀ v, foldedSetIterable iter X.env v = pure v)
    (ht : ∀ (s : Shared) (H : Hp) (C' : Addr) (cl : List (Str × Addr)) (fp : List Addr), PG (X.blk s H scope (compEnvC scope cl C' X.env) fp) t (tG X.K tg))
    (ho : ∀ (s : Shared) (H : Hp) (C' : Addr) (cl : List (Str × Addr)) (fp : List Addr), PTs (X.blk s H scope (compEnvC scope cl C' X.env) fp) ifs (tK X.K C cd o))
    (he : ∀ (s : Shared) (H : Hp) (C' : Addr) (cl : List (Str × Addr)) (fp : List Addr), PE (X.blk s H scope (compEnvC scope cl C' X.env) fp) elt (tE X.K C cd W0 e)) : SnE C cd X W (.comp tg ow it o e) x := by
  subst hx
  have ok := blkOk_by hb
  have eN : X.N = c.N := hc.N
  have eS : X.env.scope = c.sc := hc.sc
  rw [← eN, ← eS] at ok
  have em : (ow.map fun p => (Str.ofString p.1, p.2)).map (·.2) = ow.map (·.2) := by simp
  refine .of (PE.imp (pe_lc (g := tG X.K tg) (tt := tK X.K C cd o) (te := tE X.K C cd W0 e) hc.calm hc.nd hi ok ht ho he hf) fun σ H Q q => ?_) (by intros; simp) fun _ => rfl
  rw [em]
  exact comp_tr hsl σ H Q q

/-! ### all expressions -/
theorem noFoldI {it : It} {x : Expr} {X : Cx} (h : itB c it x = true) : ∀ v, foldedSetIterable x X.env v = pure v := by
  cases it with
  | seq e =>
    simp [itB] at h
    exact noFold h.1
  | seqo e =>
    simp [itB] at h
    exact noFold h.1
  | rng1 a => obtain ⟨w, y, pos, rfl, _⟩ := rng1_inv h; intro v; rfl
  | rng2 a b => obtain ⟨w, y, z, pos, rfl, _⟩ := rng2_inv h; intro v; rfl
  | enum a => obtain ⟨w, y, pos, rfl, _⟩ := enum_inv h; intro v; rfl
  | zip a b => obtain ⟨w, y, z, pos, rfl, _⟩ := zip_inv h; intro v; rfl
theorem Ctx.hu (hc : Ctx C cd k X c W) : X.A.units + 65 < cLine := by have := hc.room.un; omega
end
section
variable {C : String → Addr} {cd : String → List D → R D} {k : Nat}
mutual
theorem e_snd : ∀ (e : E) (X : Cx) (c : Sc) (W : WX) (x : Expr), Ctx C cd k X c W → eB c e x = true → SnE C cd X W e x
  | .var i, X, c, W, x, hc, h => sn_var hc h
  | .non, X, c, W, x, hc, h => sn_non h
  | .bl b, X, c, W, x, hc, h => sn_bl h
  | .int i, X, c, W, x, hc, h => sn_int h
  | .str s, X, c, W, x, hc, h => sn_str h
  | .bin o a b, X, c, W, x, hc, h => by
    obtain ⟨y, p, z, pos, hx, h1, h2, h3⟩ := bin_inv h
    exact sn_bin hx h1 (e_snd a X c W y hc h2) (e_snd b X c W z hc h3)
  | .cmp o a b, X, c, W, x, hc, h => by
    obtain ⟨y, p, z, pos, hx, h1, h2, h3, h4⟩ := cmp_inv h
    exact sn_cmp hc.hu hx h1 h4 (e_snd a X c W y hc h2) (e_snd b X c W z hc h3)
  | .cmp2 o o' a b d, X, c, W, x, hc, h => by
    obtain ⟨y, p, p', z, w, pos, hx, h1, h2, h3, h4, h5, h6⟩ := cmp2_inv h
    exact sn_cmp2 hc.hu hx h1 h2 h6 (e_snd a X c W y hc h3) (e_snd b X c W z hc h4) (e_snd d X c W w hc h5)
  | .isN n a, X, c, W, x, hc, h => by
    obtain ⟨y, kk, p, pos, h1, h2⟩ := isN_inv h
    exact sn_isN h2 (e_snd a X c W y hc h1)
  | .and a b, X, c, W, x, hc, h => by
    obtain ⟨y, z, r, pos, hx, h1, h2, h3⟩ := and_inv h
    exact sn_and hx h1 (e_snd a X c W y hc h2) (h3.imp (fun q => ⟨q.1, q.2.1, e_snd b X c W z hc q.2.2⟩) fun q => ⟨q.1, e_snd b X c W _ hc q.2⟩)
  | .or a b, X, c, W, x, hc, h => by
    obtain ⟨y, z, r, pos, hx, h1, h2, h3⟩ := or_inv h
    exact sn_or hx h1 (e_snd a X c W y hc h2) (h3.imp (fun q => ⟨q.1, q.2.1, e_snd b X c W z hc q.2.2⟩) fun q => ⟨q.1, e_snd b X c W _ hc q.2⟩)
  | .not a, X, c, W, x, hc, h => by
    obtain ⟨y, pos, hx, h1, h2⟩ := not_inv h
    exact sn_not hx h1 (e_snd a X c W y hc h2)
  | .neg a, X, c, W, x, hc, h => by
    obtain ⟨y, pos, hx, h2⟩ := neg_inv h
    exact sn_neg hx (e_snd a X c W y hc h2)
  | .ite t a b, X, c, W, x, hc, h => by
    obtain ⟨w, y, z, pos, hx, h1, h2, h3, h4⟩ := ite_inv h
    exact sn_ite hx h1 (e_snd t X c W w hc h2) (e_snd a X c W y hc h3) (e_snd b X c W z hc h4)
  | .tup es, X, c, W, x, hc, h => by
    obtain ⟨xs, kk, pos, hx, h1, h2⟩ := tup_inv h
    exact sn_tup hx h1 (es_snd es X c W xs hc h2)
  | .lst es, X, c, W, x, hc, h => by
    obtain ⟨xs, pos, hx, h1, h2⟩ := lst_inv h
    exact sn_lst hx h1 (es_snd es X c W xs hc h2)
  | .ix a b, X, c, W, x, hc, h => by
    obtain ⟨y, z, pos, hx, h1, h2, h3⟩ := ix_inv h
    exact sn_ix hx h3 (e_snd a X c W y hc h1) (e_snd b X c W z hc h2)
  | .sl a lo hi, X, c, W, x, hc, h => by
    obtain ⟨y, l, u, p, pos, hx, h1, h2, h3⟩ := sl_inv h
    exact sn_sl hx (e_snd a X c W y hc h1) (o_snd lo X c W l hc h2) (o_snd hi X c W u hc h3)
  | .call f es, X, c, W, x, hc, h => by
    obtain ⟨w, y, ys, pos, hx, h0, h1, h2⟩ := call_inv h
    exact sn_call hc hx h0 h1 h2 (es_snd es X c W (y :: ys) hc h2)
  | .bi b es, X, c, W, x, hc, h => by
    obtain ⟨w, y, ys, pos, hx, h1, h2⟩ := bi_inv h
    exact sn_bi hc hx h1 h2 (es_snd es X c W (y :: ys) hc h2)
  | .isi a t, X, c, W, x, hc, h => by
    obtain ⟨w, y, z, pos, hx, h1, h2, h3, h4⟩ := isi_inv h
    exact sn_isi hc hx h1 h3 h4 (e_snd a X c W y hc h2)
  | .comp tg own it o e, X, c, W, x, hc, h => by
    obtain ⟨elt, t, iter, ifs, scope, pos, hx, h1, h2, h3, h4, h5, h6, h7⟩ := comp_inv h
    refine sn_comp hc hx h1 h4 (it_sndS it X c W iter t hc h3 h2) (noFoldI h3) (fun s H C' cl fp => tg_snd (hc.blk s H scope C' cl fp) tg t h5) (fun s H C' cl fp => ?_) (fun s H C' cl fp => (e_snd e _ _ _ elt (hc.blk s H scope C' cl fp) h7).pe)
    exact os_snd o _ _ ifs (hc.blk s H scope C' cl fp) h6
  | .idx i b, X, c, W, x, hc, h => by
    obtain ⟨y, m, p, z, q, hx, h1, h2, h3, h4, h5⟩ := idx_inv h
    subst h1
    exact sn_idx hc hx h2 h3 h4 (e_snd b X c W z hc h5)
  | .sset a, X, c, W, x, hc, h => by
    obtain ⟨w, v, y, p, pos, hx, h1, h2, h3, h4⟩ := sset_inv h
    exact sn_sset hc hx h1 h2 h3 (e_snd a X c W y hc h4)
  | .cmp3 o p q a b d e, X, c, W, x, hc, h => by
    obtain ⟨y, p, p', p2, z, w, u, pos, hx, h1, h2, h3, h4, h5, h6, h7, h8⟩ := cmp3_inv h
    exact sn_cmp3 hc.hu hx h1 h2 h3 h8 (e_snd a X c W y hc h4) (e_snd b X c W z hc h5) (e_snd d X c W w hc h6) (e_snd e X c W u hc h7)
  | .rev t a, X, c, W, x, hc, h => by
    obtain ⟨y, l, k, p1, p2, p3, pos, hx, h1, h2⟩ := rev_inv h
    exact sn_rev hx h2 (e_snd a X c W y hc h1)
  | .rg1 t a, X, c, W, x, hc, h => by
    obtain ⟨w, v, y, p, pos, hx, h1, h2, h3, h4⟩ := rgA_inv h
    exact sn_rg1 hc hx h1 h2 h3 (e_snd a X c W y hc h4)
  | .rg2 t a b, X, c, W, x, hc, h => by
    obtain ⟨w, v, y, z, p, pos, hx, h1, h2, h3, h4, h5, h6⟩ := rgB_inv h
    exact sn_rg2 hc hx h1 h2 h3 h4 (e_snd a X c W y hc h5) (e_snd b X c W z hc h6)
theorem es_snd : ∀ (es : Es) (X : Cx) (c : Sc) (W : WX) (xs : List Expr), Ctx C cd k X c W → esB c es xs = true → PA X xs (tEs X.K C cd W es)
  | .nil, X, c, W, xs, hc, h => sn_es_nil h
  | .cons e es, X, c, W, xs, hc, h => by
    obtain ⟨y, ys, hx, h1, h2, h3⟩ := es_inv h
    rw [hx]
    exact sn_es_cons h1 (e_snd e X c W y hc h2) (es_snd es X c W ys hc h3)
theorem o_snd : ∀ (o : Oe) (X : Cx) (c : Sc) (W : WX) (x : Option Expr), Ctx C cd k X c W → oB c o x = true → PO X x (tO X.K C cd W o)
  | .no, X, c, W, x, hc, h => sn_o_no h
  | .so e, X, c, W, x, hc, h => by
    cases x with
    | none => simp [oB] at h
    | some y =>
      have h' : eB c e y = true := by simpa [oB] using h
      exact sn_o_so (e_snd e X c W y hc h')
theorem os_snd : ∀ (o : Oe) (X : Cx) (c : Sc) (xs : List Expr), Ctx C cd k X c W0 → osB c o xs = true → PTs X xs (tK X.K C cd o)
  | .no, X, c, xs, hc, h => sn_os_no h
  | .so e, X, c, xs, hc, h => by
    match xs, h with
    | [y], h =>
      have h' : testX y = true ∧ eB c e y = true := by simpa [osB] using h
      exact sn_os_so h'.1 (e_snd e X c W0 y hc h'.2)
    | [], h => simp [osB] at h
    | _ :: _ :: _, h => simp [osB] at h
theorem it_sndS : ∀ (it : It) (X : Cx) (c : Sc) (W : WX) (x tg : Expr), Ctx C cd k X c W → itB c it x = true → (needT it = true → tupX tg = true) → PI X tg x (tIs X.K C cd W it)
  | .seq e, X, c, W, x, tg, hc, h, ht => it_s (by
    have h' : plainX x = true ∧ eB c e x = true := by simpa [itB] using h
    exact it_seq (e_snd e X c W x hc h'.2))
  | .rng1 a, X, c, W, x, tg, hc, h, ht => it_s (by
    obtain ⟨w, y, pos, hx, h1, h2, h3⟩ := rng1_inv h
    exact it_rng1 hc hx h1 h2 (e_snd a X c W y hc h3))
  | .rng2 a b, X, c, W, x, tg, hc, h, ht => it_s (by
    obtain ⟨w, y, z, pos, hx, h1, h2, h3, h4, h5⟩ := rng2_inv h
    exact it_rng2 hc hx h1 h2 h3 (e_snd a X c W y hc h4) (e_snd b X c W z hc h5))
  | .enum a, X, c, W, x, tg, hc, h, ht => it_s (by
    obtain ⟨w, y, pos, hx, h1, h2, h3⟩ := enum_inv h
    exact it_enum hc (ht rfl) hx h1 h2 (e_snd a X c W y hc h3))
  | .zip a b, X, c, W, x, tg, hc, h, ht => it_s (by
    obtain ⟨w, y, z, pos, hx, h1, h2, h3, h4, h5⟩ := zip_inv h
    exact it_zip hc (ht rfl) hx h1 h2 h3 (e_snd a X c W y hc h4) (e_snd b X c W z hc h5))
  | .seqo e, X, c, W, x, tg, hc, h, ht => by
    have h' : plainX x = true ∧ eB c e x = true := by simpa [itB] using h
    exact it_seqo (e_snd e X c W x hc h'.2)
end
theorem it_snd : ∀ (it : It) (X : Cx) (c : Sc) (W : WX) (x tg : Expr), Ctx C cd k X c W → notO it = true → itB c it x = true → (needT it = true → tupX tg = true) → PI X tg x (tI X.K C cd W it)
  | .seq e, X, c, W, x, tg, hc, _, h, ht => by
    have h' : plainX x = true ∧ eB c e x = true := by simpa [itB] using h
    exact it_seq (e_snd e X c W x hc h'.2)
  | .rng1 a, X, c, W, x, tg, hc, _, h, ht => by
    obtain ⟨w, y, pos, hx, h1, h2, h3⟩ := rng1_inv h
    exact it_rng1 hc hx h1 h2 (e_snd a X c W y hc h3)
  | .rng2 a b, X, c, W, x, tg, hc, _, h, ht => by
    obtain ⟨w, y, z, pos, hx, h1, h2, h3, h4, h5⟩ := rng2_inv h
    exact it_rng2 hc hx h1 h2 h3 (e_snd a X c W y hc h4) (e_snd b X c W z hc h5)
  | .enum a, X, c, W, x, tg, hc, _, h, ht => by
    obtain ⟨w, y, pos, hx, h1, h2, h3⟩ := enum_inv h
    exact it_enum hc (ht rfl) hx h1 h2 (e_snd a X c W y hc h3)
  | .zip a b, X, c, W, x, tg, hc, _, h, ht => by
    obtain ⟨w, y, z, pos, hx, h1, h2, h3, h4, h5⟩ := zip_inv h
    exact it_zip hc (ht rfl) hx h1 h2 h3 (e_snd a X c W y hc h4) (e_snd b X c W z hc h5)
  | .seqo _, X, c, W, x, tg, hc, ho, h, ht => nomatch ho
end
end Q

set_option Elab.async false
set_option linter.all false
set_option maxRecDepth 100000
set_option maxHeartbeats 1000000
/-! Rep2: a slot's own list is written. -/
namespace Q
open PySem PySem.Spec PyProof.Rows L2
section
variable {K : PySem.W.Frag} {A : Addr → Prop} {B : Addr → Prop} {own : Nat → List Addr} {H H0 H1 : Hp} {σ : L2.St} {g : Env}
theorem ROs.append : ∀ {os ps : List O} {vs ws : List V} {as bs : List Addr}, ROs K A H vs os as → ROs K A H ws ps bs → ROs K A H (vs ++ ws) (os ++ ps) (as ++ bs)
  | [], ps, vs, ws, as, bs, h, h' => by
    rw [h.1, h.2]; exact h'
  | o :: os, ps, vs, ws, as, bs, h, h' => by
    obtain ⟨v, vr, a1, a2, h1, h2, h3, h4⟩ := h
    subst h1 h2
    exact ⟨v, vr ++ ws, a1, a2 ++ bs, rfl, by simp, h3, ROs.append h4 h'⟩
/-- the parts around an item -/
theorem ROs.split : ∀ {os : List O} {vs : List V} {as : List Addr} {j : Nat} {o : O}, ROs K A H vs os as → os[j]? = some o →
    ∃ v r1 a r2, vs[j]? = some v ∧ as = r1 ++ a ++ r2 ∧ RO K A H v o a ∧
      ∀ (A' : Addr → Prop) (H' : Hp) (v' : V) (o' : O) (a' : List Addr), Evo A H A' H' → (∀ b ∈ r1 ++ r2, ∀ u, H b = some u → H' b = some u) → RO K A' H' v' o' a' → ROs K A' H' (vs.set j v') (os.set j o') (r1 ++ a' ++ r2)
  | [], vs, as, j, o, h, e => by simp at e
  | x :: os, vs, as, 0, o, h, e => by
    obtain ⟨v, vr, a1, a2, h1, h2, h3, h4⟩ := h
    subst h1 h2
    simp at e; subst e
    refine ⟨v, [], a1, a2, rfl, by simp, h3, fun A' H' v' o' a' ev k r => ?_⟩
    exact ⟨v', vr, a', a2, rfl, by simp, r, h4.keep ev fun b hb u q => k b (by simpa using hb) u q⟩
  | x :: os, vs, as, j + 1, o, h, e => by
    obtain ⟨v, vr, a1, a2, h1, h2, h3, h4⟩ := h
    subst h1 h2
    obtain ⟨w, r1, a, r2, g1, g2, g3, g4⟩ := ROs.split (os := os) (j := j) (o := o) h4 (by simpa using e)
    subst g2
    refine ⟨w, a1 ++ r1, a, r2, by simpa using g1, by simp, g3, fun A' H' v' o' a' ev k r => ?_⟩
    refine ⟨v, vr.set j v', a1, r1 ++ a' ++ r2, by simp, by simp, h3.keep ev fun b hb u q => k b (by simp [hb]) u q, ?_⟩
    exact g4 A' H' v' o' a' ev (fun b hb u q => k b (by rcases List.mem_append.mp hb with z | z <;> simp [z]) u q) r
theorem SR.write (S : SR K B own H0 σ g) (e : Same H0 H1) {i : Nat} {os : List O} (hi : g[i]? = some (some (.ol os))) :
    ∃ p vs r, own i = p :: r ∧ σ[i]? = some (some (.ref p)) ∧ H0 p = some (.lst vs) ∧ H1 p = some (.lst vs) ∧ ROs K (Av B own) H0 vs os r ∧ p ∉ r ∧
      ∀ (H2 : Hp) (r' : List Addr), (∀ a ∈ r', a ∈ r ∨ H0 a = none) → (∀ a u, H1 a = some u → a ∉ own i → H2 a = some u) →
        Evo (Ow own) H0 (Ow (upo own i (p :: r'))) H2 ∧
        ∀ (vs' : List V) (os' : List O), H2 p = some (.lst vs') → (p :: r').Nodup → ROs K (Av B (upo own i (p :: r'))) H2 vs' os' r' → SR K B (upo own i (p :: r')) H2 σ (g.set i (some (.ol os'))) := by
  obtain ⟨v, h1, p, vs, r, rfl, h3, h4, h5⟩ := S.slot i _ hi
  have il : i < g.length := (List.getElem?_eq_some_iff.mp hi).1
  have nd := S.nd i
  rw [h3] at nd
  refine ⟨p, vs, r, h3, h1, h4, e _ _ h4, h5, (List.nodup_cons.mp nd).1, fun H2 r' hr hk => ?_⟩
  have key : Evo (Ow own) H0 (Ow (upo own i (p :: r'))) H2 := fun a o q n => by
    refine ⟨hk a o (e a o q) fun z => n ⟨i, z⟩, fun ⟨j, hj⟩ => ?_⟩
    by_cases z : j = i
    · subst z
      rw [upo_same] at hj
      rcases List.mem_cons.mp hj with y | y
      · subst y; exact n ⟨j, by rw [h3]; simp⟩
      · rcases hr a y with y | y
        · exact n ⟨j, by rw [h3]; simp [y]⟩
        · rw [q] at y; cases y
    · rw [upo_ne z] at hj
      exact n ⟨j, hj⟩
  refine ⟨key, fun vs' os' hp nd' ro => ?_⟩
  refine S.hold (as := p :: r') (v := .ref p) il σ (set_self h1) key (fun a u hb q => hk a u (e a u q) fun z => S.db i a z hb) (fun j a hj ha u q => hk a u (e a u q) fun z => hj (S.dj j i a ha z)) ⟨p, vs', r', rfl, rfl, hp, ro⟩ nd' (fun j a hj ha hm => ?_) (fun a hm hb => ?_)
  · rcases List.mem_cons.mp hm with y | y
    · subst y; exact hj (S.dj j i a ha (by rw [h3]; simp))
    · rcases hr a y with y | y
      · exact hj (S.dj j i a ha (by rw [h3]; simp [y]))
      · obtain ⟨ws, q⟩ := S.inH ⟨j, ha⟩
        rw [y] at q; cases q
  · rcases List.mem_cons.mp hm with y | y
    · subst y; exact S.db i a (by rw [h3]; simp) hb
    · rcases hr a y with y | y
      · exact S.db i a (by rw [h3]; simp [y]) hb
      · obtain ⟨o, q⟩ := S.b0 a hb
        rw [y] at q; cases q
/-- one item more -/
theorem SR.app (S : SR K B own H0 σ g) (e : Same H0 H1) {i : Nat} {os : List O} (hi : g[i]? = some (some (.ol os))) {y : V} {x : O} {bs : List Addr} (nb : bs.Nodup) (fb : ∀ a ∈ bs, H0 a = none) (ro : RO K (fun a => Av B own a ∨ a ∈ bs) H1 y x bs) :
    ∃ p vs, σ[i]? = some (some (.ref p)) ∧ H1 p = some (.lst vs) ∧ vs.length = os.length ∧ H0 p = some (.lst vs) ∧
      ∃ own', SR K B own' (upd H1 p (.lst (vs ++ [y]))) σ (g.set i (some (.ol (os ++ [x])))) ∧ Evo (Ow own) H0 (Ow own') (upd H1 p (.lst (vs ++ [y]))) := by
  obtain ⟨p, vs, r, h1, h2, h3, h4, h5, h6, h7⟩ := S.write e hi
  refine ⟨p, vs, h2, h4, h5.length, h3, ?_⟩
  have pi : p ∈ own i := by rw [h1]; simp
  obtain ⟨k1, k2⟩ := h7 (upd H1 p (.lst (vs ++ [y]))) (r ++ bs) (fun a ha => (List.mem_append.mp ha).imp id (fb a)) fun a u q n => by
    rw [upd_ne fun z => n (by rw [z]; exact pi)]; exact q
  have ndi := S.nd i
  rw [h1] at ndi
  have av : ∀ a, Av B (upo own i (p :: (r ++ bs))) a → Av B own a ∨ a ∈ bs := fun a z => by
    rcases z with z | ⟨j, hj⟩
    · exact .inl (.inl z)
    · by_cases q : j = i
      · subst q
        rw [upo_same] at hj
        rcases List.mem_cons.mp hj with y | y
        · subst y; exact .inl (.inr ⟨j, pi⟩)
        · rcases List.mem_append.mp y with y | y
          · exact .inl (.inr ⟨j, by rw [h1]; simp [y]⟩)
          · exact .inr y
      · rw [upo_ne q] at hj
        exact .inl (.inr ⟨j, hj⟩)
  have evn : Evo (fun a => Av B own a ∨ a ∈ bs) H1 (Av B (upo own i (p :: (r ++ bs)))) (upd H1 p (.lst (vs ++ [y]))) := fun a o q n =>
    ⟨by rw [upd_ne fun z => n (by rw [z]; exact .inl (.inr ⟨i, pi⟩))]; exact q, fun z => n (av a z)⟩
  have pb : p ∉ bs := fun z => by have := fb p z; rw [h3] at this; cases this
  refine ⟨upo own i (p :: (r ++ bs)), k2 _ _ upd_same ?_ ?_, k1⟩
  · refine List.nodup_cons.mpr ⟨fun z => (List.mem_append.mp z).elim h6 pb, List.nodup_append.mpr ⟨(List.nodup_cons.mp ndi).2, nb, fun a ha b hb q => ?_⟩⟩
    subst q
    obtain ⟨ws, q⟩ := S.inH (a := a) ⟨i, by rw [h1]; simp [ha]⟩
    rw [fb a hb] at q; cases q
  · refine (h5.keep k1.av fun a ha u q => ?_).append ?_
    · rw [upd_ne fun z => h6 (by rw [← z]; exact ha)]; exact e a u q
    · refine ⟨y, [], bs, [], rfl, by simp, ro.keep evn fun a ha u q => ?_, rfl, rfl⟩
      rw [upd_ne fun z => pb (by rw [← z]; exact ha)]; exact q
/-- an item is exchanged: data for data -/
theorem SR.setD (S : SR K B own H0 σ g) (e : Same H0 H1) {i j : Nat} {os : List O} (hi : g[i]? = some (some (.ol os))) (hj : j < os.length) {y : V} {d : D} (rd : RD K (Av B own) H1 y d) :
    ∃ p vs, σ[i]? = some (some (.ref p)) ∧ H1 p = some (.lst vs) ∧ vs.length = os.length ∧
      ∃ own', SR K B own' (upd H1 p (.lst (vs.set j y))) σ (g.set i (some (.ol (os.set j (.fz d))))) ∧ Evo (Ow own) H0 (Ow own') (upd H1 p (.lst (vs.set j y))) := by
  obtain ⟨p, vs, r, h1, h2, h3, h4, h5, h6, h7⟩ := S.write e hi
  refine ⟨p, vs, h2, h4, h5.length, ?_⟩
  have pi : p ∈ own i := by rw [h1]; simp
  obtain ⟨w, r1, a0, r2, g1, g2, g3, g4⟩ := h5.split (List.getElem?_eq_getElem hj)
  have sub : ∀ a ∈ r1 ++ [] ++ r2, a ∈ r := fun a ha => by
    rw [g2]
    simp only [List.append_nil, List.mem_append] at ha ⊢
    exact ha.elim (fun z => .inl (.inl z)) .inr
  obtain ⟨k1, k2⟩ := h7 (upd H1 p (.lst (vs.set j y))) (r1 ++ [] ++ r2) (fun a ha => .inl (sub a ha)) fun a u q n => by
    rw [upd_ne fun z => n (by rw [z]; exact pi)]; exact q
  have ndi := S.nd i
  rw [h1] at ndi
  have av : ∀ a, Av B (upo own i (p :: (r1 ++ [] ++ r2))) a → Av B own a := fun a z => by
    rcases z with z | ⟨l, hl⟩
    · exact .inl z
    · by_cases q : l = i
      · subst q
        rw [upo_same] at hl
        rcases List.mem_cons.mp hl with y | y
        · subst y; exact .inr ⟨l, pi⟩
        · exact .inr ⟨l, by rw [h1]; simp [sub a y]⟩
      · rw [upo_ne q] at hl
        exact .inr ⟨l, hl⟩
  have evn : Evo (Av B own) H1 (Av B (upo own i (p :: (r1 ++ [] ++ r2)))) (upd H1 p (.lst (vs.set j y))) := fun a o q n =>
    ⟨by rw [upd_ne fun z => n (by rw [z]; exact .inr ⟨i, pi⟩)]; exact q, fun z => n (av a z)⟩
  have sl : (r1 ++ [] ++ r2).Sublist r := by
    rw [g2]
    exact List.Sublist.append (List.Sublist.append (List.Sublist.refl r1) (List.nil_sublist a0)) (List.Sublist.refl r2)
  refine ⟨upo own i (p :: (r1 ++ [] ++ r2)), k2 _ _ upd_same ?_ ?_, k1⟩
  · exact List.nodup_cons.mpr ⟨fun z => h6 (sub p z), (List.nodup_cons.mp ndi).2.sublist sl⟩
  · refine g4 _ _ y (.fz d) [] k1.av (fun b hb u q => ?_) ⟨rd.evo evn, rfl⟩
    have : b ≠ p := fun z => h6 (by rw [← z]; exact sub b (by simpa using hb))
    rw [upd_ne this]; exact e b u q
/-- an item of an item is exchanged -/
theorem SR.setDD (S : SR K B own H0 σ g) (e : Same H0 H1) {i j l : Nat} {os ps : List O} (hi : g[i]? = some (some (.ol os))) (hj : os[j]? = some (.ol ps)) (hl : l < ps.length) {y : V} {d : D} (rd : RD K (Av B own) H1 y d) :
    ∃ p vs q ws, σ[i]? = some (some (.ref p)) ∧ H1 p = some (.lst vs) ∧ vs.length = os.length ∧ vs[j]? = some (.ref q) ∧ H1 q = some (.lst ws) ∧ ws.length = ps.length ∧
      ∃ own', SR K B own' (upd H1 q (.lst (ws.set l y))) σ (g.set i (some (.ol (os.set j (.ol (ps.set l (.fz d))))))) ∧ Evo (Ow own) H0 (Ow own') (upd H1 q (.lst (ws.set l y))) := by
  obtain ⟨p, vs, r, h1, h2, h3, h4, h5, h6, h7⟩ := S.write e hi
  have pi : p ∈ own i := by rw [h1]; simp
  obtain ⟨w, r1, a0, r2, g1, g2, g3, g4⟩ := h5.split hj
  obtain ⟨q, ws, rq, rfl, f2, f3, f4⟩ := g3
  subst f2
  have jl := (List.getElem?_eq_some_iff.mp hj).1
  refine ⟨p, vs, q, ws, h2, h4, h5.length, g1, e _ _ f3, f4.length, ?_⟩
  obtain ⟨w', s1, b0, s2, t1, t2, t3, t4⟩ := f4.split (List.getElem?_eq_getElem hl)
  have qi : q ∈ own i := by rw [h1, g2]; simp
  have qr : q ∈ r := by rw [g2]; simp
  have sub : ∀ a ∈ r1 ++ (q :: (s1 ++ [] ++ s2)) ++ r2, a ∈ r := fun a ha => by
    rw [g2, t2]
    simp only [List.append_nil, List.mem_append, List.mem_cons] at ha ⊢
    rcases ha with (ha | ha | ha | ha) | ha
    · exact .inl (.inl ha)
    · exact .inl (.inr (.inl ha))
    · exact .inl (.inr (.inr (.inl (.inl ha))))
    · exact .inl (.inr (.inr (.inr ha)))
    · exact .inr ha
  have ndi := S.nd i
  rw [h1] at ndi
  have ndr := (List.nodup_cons.mp ndi).2
  obtain ⟨k1, k2⟩ := h7 (upd H1 q (.lst (ws.set l y))) (r1 ++ (q :: (s1 ++ [] ++ s2)) ++ r2) (fun a ha => .inl (sub a ha)) fun a u z n => by
    rw [upd_ne fun z => n (by rw [z]; exact qi)]; exact z
  have av : ∀ a, Av B (upo own i (p :: (r1 ++ (q :: (s1 ++ [] ++ s2)) ++ r2))) a → Av B own a := fun a z => by
    rcases z with z | ⟨m, hm⟩
    · exact .inl z
    · by_cases c : m = i
      · subst c
        rw [upo_same] at hm
        rcases List.mem_cons.mp hm with y | y
        · subst y; exact .inr ⟨m, pi⟩
        · exact .inr ⟨m, by rw [h1]; simp [sub a y]⟩
      · rw [upo_ne c] at hm
        exact .inr ⟨m, hm⟩
  have evn : Evo (Av B own) H1 (Av B (upo own i (p :: (r1 ++ (q :: (s1 ++ [] ++ s2)) ++ r2)))) (upd H1 q (.lst (ws.set l y))) := fun a o z n =>
    ⟨by rw [upd_ne fun z => n (by rw [z]; exact .inr ⟨i, qi⟩)]; exact z, fun z => n (av a z)⟩
  have sl : (r1 ++ (q :: (s1 ++ [] ++ s2)) ++ r2).Sublist r := by
    rw [g2, t2]
    exact List.Sublist.append (List.Sublist.append (List.Sublist.refl r1) (List.Sublist.cons_cons q (List.Sublist.append (List.Sublist.append (List.Sublist.refl s1) (List.nil_sublist b0)) (List.Sublist.refl s2)))) (List.Sublist.refl r2)
  have pq : p ≠ q := fun z => h6 (by rw [z]; exact qr)
  have ndq : ∀ b ∈ r1 ++ r2, b ≠ q := fun b hb z => by
    subst z
    rw [g2] at ndr
    have n1 := List.nodup_append.mp ndr
    have n2 := List.nodup_append.mp n1.1
    rcases List.mem_append.mp hb with z | z
    · exact n2.2.2 b z b (by simp) rfl
    · exact n1.2.2 b (by simp) b z rfl
  have nds : ∀ b ∈ s1 ++ s2, b ≠ q := fun b hb z => by
    subst z
    rw [g2] at ndr
    have n1 := List.nodup_append.mp ndr
    have n2 := List.nodup_append.mp n1.1
    have n3 := (List.nodup_cons.mp n2.2.1).1
    rw [t2] at n3
    exact n3 (by rcases List.mem_append.mp hb with z | z <;> simp [z])
  refine ⟨upo own i (p :: (r1 ++ (q :: (s1 ++ [] ++ s2)) ++ r2)), k2 (vs.set j (.ref q)) _ ?_ ?_ ?_, k1⟩
  · rw [upd_ne pq, ← set_self g1]; exact h4
  · exact List.nodup_cons.mpr ⟨fun z => h6 (sub p z), ndr.sublist sl⟩
  · refine g4 _ _ (.ref q) (.ol (ps.set l (.fz d))) (q :: (s1 ++ [] ++ s2)) k1.av (fun b hb u z => ?_) ⟨q, ws.set l y, _, rfl, rfl, upd_same, ?_⟩
    · rw [upd_ne (ndq b hb)]; exact e b u z
    · refine t4 _ _ y (.fz d) [] k1.av (fun b hb u z => ?_) ⟨rd.evo evn, rfl⟩
      rw [upd_ne (nds b hb)]; exact e b u z
/-- slots forgotten -/
theorem SR.wipeC (S : SR K B own H σ g) : ∀ (clr : List Nat), ∃ own', SR K B own' H σ (wipe g clr) ∧ Evo (Ow own) H (Ow own') H
  | [] => ⟨own, S, .refl⟩
  | i :: clr => by
    obtain ⟨own', S', e⟩ := S.wipeC clr
    exact ⟨_, S'.drop i, e.trans (drop_evo i)⟩
end
end Q

set_option Elab.async false
set_option linter.all false
set_option maxRecDepth 100000
/-! IrS: statements of the small language, defs, what a call of a def is worth. -/
namespace Q
open PySem

mutual
inductive S where
  | set (i : Nat) (fresh : Bool) (e : E)
  | setT (t : Tg) (e : E)
  | setI (i : Nat) (b e : E)
  | setJ (i : Nat) (a b e : E)
  | app (i : Nat) (fresh : Bool) (e : E)
  | ext (i : Nat) (e : E)
  | ret (e : E)
  | ite (c : E) (a b : Ss)
  | for_ (t : Tg) (it : It) (b : Ss) (clr : List Nat)
  | while_ (c : E) (b : Ss) (clr : List Nat)
  | exp (e : E)
  | pass
  | brk
  | cnt
  | rais (c : String)
  | popc (tup : Bool) (i : Nat) (x : E) (tg : Tg) (own : List (String × Nat)) (it : It)
inductive Ss where
  | nil
  | cons (s : S) (ss : Ss)
  | frz (i : Nat) (ss : Ss)
end

/-- how a statement ends -/
inductive SO where
  | nx (g : Env)
  | rt (d : D)
  | bk (g : Env)
  | ct (g : Env)
  | exc (c : String) (g : Env)
  | bad
/-- what follows an evaluation -/
def R.thn {α : Type} (r : R α) (g : Env) (f : α → SO) : SO := match r with
  | .ok a => f a
  | .exc c => .exc c g
  | .bad => .bad
@[simp] theorem R.thn_ok {α : Type} {a : α} {g : Env} {f : α → SO} : (R.ok a).thn g f = f a := rfl
@[simp] theorem R.thn_exc {α : Type} {c : String} {g : Env} {f : α → SO} : (R.exc c : R α).thn g f = .exc c g := rfl
@[simp] theorem R.thn_bad {α : Type} {g : Env} {f : α → SO} : (R.bad : R α).thn g f = .bad := rfl
/-- what follows a statement -/
def SO.thn (r : SO) (f : Env → SO) : SO := match r with
  | .nx g => f g
  | r => r
@[simp] theorem SO.thn_nx {g : Env} {f : Env → SO} : (SO.nx g).thn f = f g := rfl
@[simp] theorem SO.thn_rt {d : D} {f : Env → SO} : (SO.rt d).thn f = .rt d := rfl
@[simp] theorem SO.thn_bk {g : Env} {f : Env → SO} : (SO.bk g).thn f = .bk g := rfl
@[simp] theorem SO.thn_ct {g : Env} {f : Env → SO} : (SO.ct g).thn f = .ct g := rfl
@[simp] theorem SO.thn_exc {c : String} {g : Env} {f : Env → SO} : (SO.exc c g).thn f = .exc c g := rfl
@[simp] theorem SO.thn_bad {f : Env → SO} : SO.bad.thn f = .bad := rfl

/-- a loop over items -/
def forL (body : D → Env → SO) (clr : List Nat) : List D → Env → SO
  | [], g => .nx g
  | d :: ds, g => match body d g with
    | .nx g => forL body clr ds (wipe g clr)
    | .ct g => forL body clr ds (wipe g clr)
    | .bk g => .nx (wipe g clr)
    | r => r
def whileL (test : Env → R Bool) (body : Env → SO) (clr : List Nat) : Nat → Env → SO
  | 0, _ => .bad
  | n + 1, g => (test g).thn g fun b => if b then (match body g with
      | .nx g => whileL test body clr n (wipe g clr)
      | .ct g => whileL test body clr n (wipe g clr)
      | .bk g => .nx (wipe g clr)
      | r => r) else .nx g
def slotO (g : Env) (i : Nat) : R O := match g[i]? with
  | some (some o) => .ok o
  | _ => .bad
/-- a slot's own list -/
def slotL (g : Env) (i : Nat) : R (List O) := match g[i]? with
  | some (some (.ol os)) => .ok os
  | _ => .bad
/-- an item of a list is exchanged -/
def setL (os : List O) (i : Int) (x : O) : R (List O) := match L2.ixN os.length i with
  | some j => .ok (os.set j x)
  | none => .bad
def atL (os : List O) (i : Int) : R (List O) := match L2.atI os i with
  | some (.ol ps) => .ok ps
  | _ => .bad
/-- a new list's items are one's own -/
def newO (fresh : Bool) (d : D) : R O := if fresh then (match d with
  | .list ds => .ok (.ol (ds.map .fz))
  | _ => .bad) else .ok (.fz d)
def putS (g : Env) (i : Nat) (o : O) : SO := if decide (i < g.length) then .nx (g.set i (some o)) else .bad
/-- [x.pop(e) for .. in items], x's list handed on -/
def popL (f : D → Env → R Int) : List D → List D → Env → R (List D)
  | _, [], _ => .ok []
  | xs, d :: ds, g => match f d g with
    | .ok i => (match L2.ixN xs.length i with
      | some j => match xs[j]? with
        | some x => do
          let r ← popL f (xs.eraseIdx j) ds g
          .ok (x :: r)
        | none => .bad
      | none => .bad)
    | _ => .bad
/-- a turn's place -/
def popF (cd : String → List D → R D) (tg : Tg) (vs : List Nat) (x : E) (d : D) (g : Env) : R Int := tg.put d (wipe g vs) >>= fun g1 => (E.ev cd x g1 >>= O.asD) >>= asInt

section
variable (cd : String → List D → R D) (N : Nat)
mutual
def S.ex : S → Env → SO
  | .set i fresh e, g => (E.ev cd e g >>= O.asD).thn g fun d => (if fresh && !e.fresh then .bad else newO fresh d).thn g fun o => putS g i o
  | .setT t e, g => (E.ev cd e g >>= O.asD).thn g fun d => (t.put d g).thn g fun g => .nx g
  | .setI i b e, g => (E.ev cd e g >>= O.asD).thn g fun d => (slotL g i).thn g fun os => ((E.ev cd b g >>= O.asD) >>= asInt).thn g fun k => (setL os k (.fz d)).thn g fun os => putS g i (.ol os)
  | .setJ i a b e, g => (E.ev cd e g >>= O.asD).thn g fun d => (slotL g i).thn g fun os => ((E.ev cd a g >>= O.asD) >>= asInt).thn g fun j => (atL os j).thn g fun ps => ((E.ev cd b g >>= O.asD) >>= asInt).thn g fun k =>
      (setL ps k (.fz d)).thn g fun ps => (setL os j (.ol ps)).thn g fun os => putS g i (.ol os)
  | .app i fresh e, g => (slotL g i).thn g fun os => (E.ev cd e g >>= O.asD).thn g fun d => (if fresh && !e.fresh then .bad else newO fresh d).thn g fun x => if szOk os.length then putS g i (.ol (os ++ [x])) else .bad
  | .ext i e, g => (slotL g i).thn g fun os => (E.ev cd e g >>= O.asD).thn g fun d => match d with
      | .list ds => if szOk (os.length + ds.length) then putS g i (.ol (os ++ ds.map .fz)) else .bad
      | .tuple ds => if szOk (os.length + ds.length) then putS g i (.ol (os ++ ds.map .fz)) else .bad
      | _ => .bad
  | .ret e, g => (E.ev cd e g >>= O.asD).thn g fun d => .rt d
  | .ite c a b, g => (E.ev cd c g >>= fun o => truth o.toD).thn g fun t => if t then Ss.exs a g else Ss.exs b g
  | .for_ t it b clr, g => (It.evi cd it g).thn g fun ds => forL (fun d g => (t.put d g).thn g fun g => Ss.exs b g) clr ds g
  | .while_ c b clr, g => whileL (fun g => E.ev cd c g >>= fun o => truth o.toD) (fun g => Ss.exs b g) clr N g
  | .exp e, g => (E.ev cd e g).thn g fun _ => .nx g
  | .pass, g => .nx g
  | .brk, g => .bk g
  | .cnt, g => .ct g
  | .rais c, g => .exc c g
  | .popc tup i x tg own it, g => (It.evi cd it g).thn g fun ds => if szOk ds.length then (slotL g i).thn g fun os => (fzAll os).thn g fun xs => if szOk xs.length then (popL (popF cd tg (own.map (·.2)) x) xs ds (g.set i none)).thn g fun r => .rt (if tup then .tuple r else .list r) else .bad
      else .bad
def Ss.exs : Ss → Env → SO
  | .nil, g => .nx g
  | .cons s ss, g => (S.ex s g).thn fun g => Ss.exs ss g
  | .frz i ss, g => (slotO g i).thn g fun o => Ss.exs ss (g.set i (some (.fz o.toD)))
end
end

/-- a def: its parameters' number, its names, its body -/
structure Fn where
  np : Nat
  names : List String
  body : Ss
def Fn.run (F : Fn) (cd : String → List D → R D) (N : Nat) (ds : List D) : R D :=
  if ds.length = F.np then
    match Ss.exs cd N F.body (ds.map (fun d => some (O.fz d)) ++ List.replicate (F.names.length - ds.length) none) with
    | .nx _ => .ok .none
    | .rt d => .ok d
    | .exc c _ => .exc c
    | _ => .bad
  else .bad
/-- a call of a def, by how deep calls may go -/
def callD (T : String → Option Fn) (N : Nat) : Nat → String → List D → R D
  | 0, _, _ => .bad
  | n + 1, f, ds => match T f with
    | some F => F.run (callD T N n) N ds
    | none => .bad
end Q

set_option Elab.async false
set_option linter.all false
set_option maxRecDepth 100000
set_option maxHeartbeats 1000000
/-! ChkS: whether a statement of the small language is what the syntax says. -/
namespace Q
open PySem L2

/-- no name of a store that goes by the swapped way -/
def noSwap (sc : Scope) (ts vs : List Expr) : Bool :=
  !(ts.length == 2 || ts.length == 3) || (ts.filterMap fun
    | .Name id pos => if nkEq (sc.names.lookup id) .local && pos.line == (ts.head?.map (·.pos.line)).getD 0 then some id else none
    | _ => none).length != ts.length || vs.length != ts.length
/-- two stores that go by the swapped way -/
def swap2 (c : Sc) (i j : Nat) (ts vs : List Expr) : Bool := match ts, vs with
  | [.Name x p, .Name y q], [a, b] => decide (c.N[i]? = some x) && decide (c.N[j]? = some y) && decide (i ≠ j) && nkEq (c.sc.names.lookup x) .local && nkEq (c.sc.names.lookup y) .local && (p.line == q.line) && (x == y) == false &&
      plainX a && plainX b && !(foldedForSure 8 a && foldedForSure 8 b) && !(constantsAlone 8 a && constantsAlone 8 b)
  | _, _ => false
def swap3 (c : Sc) (i j l : Nat) (ts vs : List Expr) : Bool := match ts, vs with
  | [.Name x p, .Name y q, .Name z r], [a, b, d] => decide (c.N[i]? = some x) && decide (c.N[j]? = some y) && decide (c.N[l]? = some z) && decide (i ≠ j) && decide (i ≠ l) && decide (j ≠ l) && nkEq (c.sc.names.lookup x) .local && nkEq (c.sc.names.lookup y) .local && nkEq (c.sc.names.lookup z) .local &&
      (p.line == q.line) && (p.line == r.line) && (x == y) == false && (x == z) == false && (y == z) == false &&
      plainX a && plainX b && plainX d && !(foldedForSure 8 a && (foldedForSure 8 b && foldedForSure 8 d)) && !(constantsAlone 8 a && (constantsAlone 8 b && constantsAlone 8 d))
  | _, _ => false
def tgTwo : Tg → Option (Nat × Nat)
  | .cons (.n i) (.cons (.n j) .nil) => some (i, j)
  | _ => none
def tgThree : Tg → Option (Nat × Nat × Nat)
  | .cons (.n i) (.cons (.n j) (.cons (.n l) .nil)) => some (i, j, l)
  | _ => none
def setTB (c : Sc) (t : Tg) (x v : Expr) : Bool := match x, v with
  | .Tuple ts _ _, .Tuple vs _ _ => noSwap c.sc ts vs || (match tgTwo t with
      | some (i, j) => swap2 c i j ts vs
      | none => match tgThree t with
        | some (i, j, l) => swap3 c i j l ts vs
        | none => false)
  | .Tuple .., _ => true
  | _, _ => false
def notLC : Expr → Bool
  | .ListComp .. => false
  | _ => true
def raisP (a b : Option Expr) : Option (Expr × List Expr) := match a, b with
  | some (.Call w vs [] _), none => some (w, vs)
  | _, _ => none
theorem raisP_inv {a b : Option Expr} {w : Expr} {vs : List Expr} (h : raisP a b = some (w, vs)) : ∃ p, a = some (.Call w vs [] p) ∧ b = none := by
  unfold raisP at h
  split at h
  · cases h; exact ⟨_, rfl, rfl⟩
  · cases h
/-- a written text alone -/
def oneText : List Expr → Bool
  | [.Constant (.str _) _ _] => true
  | _ => false
mutual
def sB (c : Sc) (kx : String → Bool) (s : S) (x : Stmt) : Bool := match s with
  | .set i _ e => match x with
    | .Assign [y] v _ => storeB c i y && plainX v && eB c e v
    | _ => false
  | .setT t e => match x with
    | .Assign [y] v _ => tgB c t y && plainX v && eB c e v && setTB c t y v
    | _ => false
  | .setI i b e => match x with
    | .Assign [.Subscript y z _] v _ => nameB c i y && plainX z && eB c b z && plainX v && eB c e v
    | _ => false
  | .setJ i a b e => match x with
    | .Assign [.Subscript (.Subscript y w _) z _] v _ => nameB c i y && plainX w && eB c a w && plainX z && eB c b z && plainX v && eB c e v
    | _ => false
  | .app i _ e => match x with
    | .Expr (.Call (.Attribute y m p) [v] [] q) _ => decide (m = Str.ofString "append") && (p.endLine == q.line) && nameB c i y && plainX v && eB c e v
    | _ => false
  | .ext i e => match x with
    | .Expr (.Call (.Attribute y m p) [v] [] q) _ => decide (m = Str.ofString "extend") && (p.endLine == q.line) && nameB c i y && plainX v && eB c e v
    | _ => false
  | .ret e => match x with
    | .Return (some v) _ => plainX v && eB c e v
    | _ => false
  | .ite t a b => match x with
    | .If w y z _ => testX w && eB c t w && ssB c kx a y && ssB c kx b z
    | _ => false
  | .for_ t it b _ => match x with
    | .For y z w [] _ => notO it && (!needT it || tupX y) && tgB c t y && itB c it z && ssB c kx b w
    | _ => false
  | .while_ t b _ => match x with
    | .While w y [] _ => testX w && eB c t w && ssB c kx b y
    | _ => false
  | .exp e => match x with
    | .Expr v _ => notLC v && plainX v && eB c e v
    | _ => false
  | .pass => match x with
    | .Pass _ => true
    | _ => false
  | .brk => match x with
    | .Break _ => true
    | _ => false
  | .cnt => match x with
    | .Continue _ => true
    | _ => false
  | .rais n => match x with
    | .Raise a b _ => match raisP a b with
      | some (w, vs) => kx n && glName c (Str.ofString n) w && oneText vs
      | none => false
    | _ => false
  | .popc tup i e tg own it => match x with
    | .Return (some v) _ => match tup, v with
      | false, .ListComp .. => popB c i e tg own it v
      | true, .Call w [y] [] _ => glName c "tuple" w && popB c i e tg own it y
      | _, _ => false
    | _ => false
def ssB (c : Sc) (kx : String → Bool) (ss : Ss) (xs : List Stmt) : Bool := match ss with
  | .nil => xs.isEmpty
  | .cons s ss => match xs with
    | x :: xs => sB c kx s x && ssB c kx ss xs
    | [] => false
  | .frz _ ss => ssB c kx ss xs
def popB (c : Sc) (i : Nat) (e : E) (tg : Tg) (own : List (String × Nat)) (it : It) (x : Expr) : Bool := match x with
  | .ListComp (.Call (.Attribute y m p) [v] [] q) [g] scope _ => decide (m = Str.ofString "pop") && (p.endLine == q.line) && decide (g.is_async = 0) && tg.slots.all (fun i => (own.map (·.2)).contains i) && (!(own.map (·.2)).contains i) && notO it && (!needT it || tupX g.target) && itB c it g.iter &&
      blkC c.N c.sc scope (own.map fun p => (Str.ofString p.1, p.2)) && tgB (c.in_ scope) tg g.target && g.ifs.isEmpty && nameB (c.in_ scope) i y && plainX v && eB (c.in_ scope) e v
  | _ => false
end
end Q

set_option Elab.async false
set_option linter.all false
set_option maxRecDepth 100000
set_option maxHeartbeats 1000000
/-! Sd10: statements keep to what they are worth. -/
namespace Q
open PySem PySem.Spec PyProof.Rows L2

structure ExcOk (K : PySem.W.Frag) (mg : Str → Option Value) (C : String → Addr) (n : String) : Prop where
  g : mg (Str.ofString n) = some (.ref (C n))
  x : PySem.W.excIn K (C n) He.veBase "ValueError.__new__" = true
  k : PySem.W.keepIn K (.ref (C n)) = true
  b : PySem.W.subIn K (.ref (C n)) (.type "BaseException") = some true
  t : PySem.W.typeIn K (.ref (C n)) = some (.type "type")
structure CtxS (C : String → Addr) (cd : String → List D → R D) (k : Nat) (X : Cx) (c : Sc) (kx : String → Bool) (W : WX) : Prop where
  c : Ctx C cd k X c W
  kind : X.env.scope.kind = .function
  po : PassesOwn (model X.prog X.w) X.A X.env X.xe
  ex : ∀ n, kx n = true → ExcOk X.K X.mg C n

section
variable (K : PySem.W.Frag) (C : String → Addr) (W : WX) (B : Addr → Prop) (own : Nat → List Addr) (H : Hp) (Dn : Ends)
/-- what is wanted of a statement's end -/
def SPo : SO → Prop
  | .nx g => ∀ σ' own' H', SR K B own' H' σ' g → Evo (Ow own) H (Ow own') H' → Dn.nx σ' H'
  | .rt d => ∀ v own' H', Evo (Ow own) H (Ow own') H' → RD K B H' v d → Dn.rt v H'
  | .bk g => ∀ σ' own' H', SR K B own' H' σ' g → Evo (Ow own) H (Ow own') H' → Dn.bk σ' H'
  | .ct g => ∀ σ' own' H', SR K B own' H' σ' g → Evo (Ow own) H (Ow own') H' → Dn.ct σ' H'
  | .exc c g => ∀ σ' own' H', SR K B own' H' σ' g → Evo (Ow own) H (Ow own') H' → W (.ref (C c)) none σ' H'
  | .bad => False
end
section
variable {K : PySem.W.Frag} {C : String → Addr} {W : WX} {B : Addr → Prop} {own own1 : Nat → List Addr} {H H1 : Hp} {Dn : Ends} {σ : L2.St} {g : Env}
theorem SPo.wp (S : SR K B own H σ g) {c : String} (h : SPo K C W B own H Dn (.exc c g)) : WP C W σ H c := fun H' e => h σ own H' (S.same e) (.same e)
theorem SPo.on (e : Evo (Ow own) H (Ow own1) H1) {r : SO} (h : SPo K C W B own H Dn r) : SPo K C W B own1 H1 Dn r := by
  cases r with
  | nx g => exact fun σ' own' H' S e' => h σ' own' H' S (e.trans e')
  | rt d => exact fun v own' H' e' rd => h v own' H' (e.trans e') rd
  | bk g => exact fun σ' own' H' S e' => h σ' own' H' S (e.trans e')
  | ct g => exact fun σ' own' H' S e' => h σ' own' H' S (e.trans e')
  | exc c g => exact fun σ' own' H' S e' => h σ' own' H' S (e.trans e')
  | bad => exact h.elim
theorem SPo.thn {α : Type} {r : R α} {f : α → SO} (h : SPo K C W B own H Dn (r.thn g f)) : Mt r (fun a => SPo K C W B own H Dn (f a)) (fun c => SPo K C W B own H Dn (.exc c g)) := by
  cases r with
  | ok a => exact h
  | exc c => exact h
  | bad => exact h.elim
end
def tS (K : PySem.W.Frag) (C : String → Addr) (cd : String → List D → R D) (N : Nat) (W : WX) (s : S) : TS := fun Dn σ H => ∃ B own g, SR K B own H σ g ∧ SPo K C W B own H Dn (S.ex cd N s g)
def tSs (K : PySem.W.Frag) (C : String → Addr) (cd : String → List D → R D) (N : Nat) (W : WX) (s : Ss) : TS := fun Dn σ H => ∃ B own g, SR K B own H σ g ∧ SPo K C W B own H Dn (Ss.exs cd N s g)

theorem swaps_no {v : Expr} {t : Option Expr} {l : Nat} {env : PySem.Env} (h : plainX v = true) (h2 : ∀ a b c d, v ≠ .ListComp a b c d) : swapsWith v t l env = pure false := by
  cases v <;> first | rfl | (simp [plainX] at h; done) | exact absurd rfl (h2 _ _ _ _)
theorem swaps_lc {elt : Expr} {gs : List Comprehension} {scope : Scope} {pos py : Pos} {y : Str} {l : Nat} {env : PySem.Env} :
    swapsWith (.ListComp elt gs scope pos) (some (.Name y py)) l env = pure (env.blockKind == .function && env.kindOf y == some .local && py.line == pos.line && !(scope.names.any fun (n, k) => n == y && (k == .local || k == .cell))) := rfl
theorem swaps_other {v t : Expr} {l : Nat} {env : PySem.Env} (h : plainX v = true) (ht : ∀ y p, t ≠ .Name y p) : swapsWith v (some t) l env = pure false := by
  cases v <;> first | rfl | (simp [plainX] at h; done) | skip
  cases t <;> first | rfl | exact absurd rfl (ht _ _)
section
variable {C : String → Addr} {cd : String → List D → R D} {k N : Nat} {X : Cx} {c : Sc} {kx : String → Bool} {W : WX}
/-- a name takes a value -/
theorem set_tr {i : Nat} {fr : Bool} {e : E} : ∀ Dn σ H, tS X.K C cd N W (.set i fr e) Dn σ H → tAsg (tE X.K C cd W e) (gName i) Dn σ H := by
  intro Dn σ H ⟨B, own, g, S, m⟩
  have m := SPo.thn (r := E.ev cd e g >>= O.asD) m
  refine useE S m.bind (fun c z => z.wp S) fun o v H1 _ m e1 b f => ?_
  obtain ⟨d, rfl, m⟩ := m.asD
  cases fr with
  | false =>
    have m : SPo X.K C W B own H Dn (putS g i (.fz d)) := m
    unfold putS at m
    by_cases hi : i < g.length
    · rw [if_pos (decide_eq_true hi)] at m
      exact m _ _ H1 ((S.same e1).put b.rd hi) ((Evo.same e1).trans (drop_evo i))
    · rw [if_neg (by simpa using hi)] at m
      exact m.elim
  | true =>
    have m : SPo X.K C W B own H Dn ((if !e.fresh then R.bad else newO true d).thn g fun o => putS g i o) := m
    cases hf : e.fresh with
    | false => rw [hf] at m; exact m.elim
    | true =>
      rw [hf] at m
      cases d with
      | list ds =>
        have m : SPo X.K C W B own H Dn (putS g i (.ol (ds.map .fz))) := m
        unfold putS at m
        by_cases hi : i < g.length
        · rw [if_pos (decide_eq_true hi)] at m
          obtain ⟨p, vs, rfl, h2, h3, h4⟩ := f hf _ rfl ds rfl
          have S2 := S.take hi e1 h2 h3 h4
          refine m _ _ H1 S2 fun a o q n => ⟨e1 a o q, fun ⟨j, hj⟩ => ?_⟩
          by_cases z : j = i
          · subst z
            rw [upo_same] at hj
            have : a = p := by simpa using hj
            subst this
            rw [h2] at q; cases q
          · rw [upo_ne z] at hj
            exact n ⟨j, hj⟩
        · rw [if_neg (by simpa using hi)] at m
          exact m.elim
      | _ => exact m.elim
theorem blk_fun (hs : CtxS C cd k X c kx W) : (X.env.blockKind == ScopeKind.function) = true := by
  unfold Env.blockKind
  rw [hs.kind]
  rfl
theorem ss_set (hs : CtxS C cd k X c kx W) {i : Nat} {fr : Bool} {e : E} {x : Stmt} (h : sB c kx (.set i fr e) x = true) : PS X x (tS X.K C cd N W (.set i fr e)) := by
  cases x with
  | Assign ts v pos =>
    match ts, h with
    | [y], h =>
      have h' : storeB c i y = true ∧ plainX v = true ∧ eB c e v = true := by simpa [sB, and_assoc] using h
      obtain ⟨nm, py, rfl, h1, h2, h3⟩ := storeB_inv h'.1
      have hN : X.N[i]? = some nm := by rw [hs.c.N]; exact h1
      have hl := hs.c.loc h2
      have hf : X.fn nm = true ∨ X.env.scope.names.lookup nm = some .local := h3.imp (hs.c.fn nm) (by rw [hs.c.sc]; exact id)
      have he := (e_snd e X c W v hs.c h'.2.2).pe
      by_cases hlc : ∃ a b d f, v = .ListComp a b d f
      · obtain ⟨elt, gs, scope, p, rfl⟩ := hlc
        cases hb : (X.env.blockKind == .function && X.env.kindOf nm == some .local && py.line == p.line && !(scope.names.any fun (n, k) => n == nm && (k == .local || k == .cell))) with
        | false => exact PS.imp (ps_set hs.c.nd hN hl he (by rw [swaps_lc, hb]) hf) set_tr
        | true =>
          have hk : X.env.scope.names.lookup nm = some .local := by
            simp only [Bool.and_eq_true, beq_iff_eq] at hb
            exact hb.1.1.2
          have hec : ∃ tg own it o e', e = .comp tg own it o e' := by
            have hv := h'.2.2
            cases e <;> first | exact ⟨_, _, _, _, _, rfl⟩ | (exact absurd hv Bool.false_ne_true) | (simp [eB, nameB] at hv)
          obtain ⟨tg, ow, it, o, e', rfl⟩ := hec
          obtain ⟨elt', t, iter, ifs, scope', pos', hx, g1, g2, g3, g4, g5, g6, g7⟩ := comp_inv h'.2.2
          cases hx
          have ok := blkOk_by g4
          rw [← hs.c.N, ← hs.c.sc] at ok
          have em : (ow.map fun p => (Str.ofString p.1, p.2)).map (·.2) = ow.map (·.2) := by simp
          refine PS.imp (ps_setLc (g := tG X.K tg) (tt := tK X.K C cd o) (te := tE X.K C cd W0 e') hs.c.calm hs.c.nd hN hk (by rw [swaps_lc, hb]) (it_sndS it X c W iter t hs.c g3 g2) ok (fun s H C' cl fp => tg_snd (hs.c.blk s H scope C' cl fp) tg t g5)
            (fun s H C' cl fp => os_snd o _ _ ifs (hs.c.blk s H scope C' cl fp) g6) (fun s H C' cl fp => (e_snd e' _ _ _ elt (hs.c.blk s H scope C' cl fp) g7).pe) (noFoldI g3)) fun Dn σ H q => ?_
          rw [em]
          exact comp_tr g1 _ _ _ (set_tr _ _ _ q)
      · exact PS.imp (ps_set hs.c.nd hN hl he (swaps_no h'.2.1 fun a b d f z => hlc ⟨a, b, d, f, z⟩) hf) set_tr
    | [], h => simp [sB] at h
    | _ :: _ :: _, h => simp [sB] at h
  | _ => simp [sB] at h
theorem ss_ret (hs : CtxS C cd k X c kx W) {e : E} {x : Stmt} (h : sB c kx (.ret e) x = true) : PS X x (tS X.K C cd N W (.ret e)) := by
  cases x with
  | Return v pos =>
    cases v with
    | none => simp [sB] at h
    | some v =>
      have h' : plainX v = true ∧ eB c e v = true := by simpa [sB] using h
      refine PS.imp (ps_ret (e_snd e X c W v hs.c h'.2).pe) fun Dn σ H ⟨B, own, g, S, m⟩ => ?_
      have m := SPo.thn (r := E.ev cd e g >>= O.asD) m
      refine useD S m (fun c z => z.wp S) fun d v H1 m e1 r1 => ?_
      have m : SPo X.K C W B own H Dn (.rt d) := m
      exact m v own H1 (.same e1) (r1.evo (.sub fun a z => .inl z))
  | _ => simp [sB] at h
theorem ss_exp (hs : CtxS C cd k X c kx W) {e : E} {x : Stmt} (h : sB c kx (.exp e) x = true) : PS X x (tS X.K C cd N W (.exp e)) := by
  cases x with
  | Expr v pos =>
    have h' : notLC v = true ∧ plainX v = true ∧ eB c e v = true := by simpa [sB, and_assoc] using h
    have h0 : ∀ a b d f, v ≠ .ListComp a b d f := fun a b d f z => by subst z; cases h'.1
    refine PS.imp (ps_expr (e_snd e X c W v hs.c h'.2.2).pe (swaps_no h'.2.1 h0)) fun Dn σ H ⟨B, own, g, S, m⟩ => ?_
    have m := SPo.thn (r := E.ev cd e g) m
    refine useE S m (fun c z => z.wp S) fun o v H1 _ m e1 _ _ => ?_
    exact m σ own H1 (S.same e1) (.same e1)
  | _ => simp [sB] at h
theorem ss_pass {x : Stmt} (h : sB c kx .pass x = true) : PS X x (tS X.K C cd N W .pass) := by
  cases x <;> simp [sB] at h
  exact PS.imp ps_pass fun Dn σ H ⟨B, own, g, S, m⟩ => m σ own H S .refl
theorem ss_brk {x : Stmt} (h : sB c kx .brk x = true) : PS X x (tS X.K C cd N W .brk) := by
  cases x <;> simp [sB] at h
  exact PS.imp ps_break fun Dn σ H ⟨B, own, g, S, m⟩ => m σ own H S .refl
theorem ss_cnt {x : Stmt} (h : sB c kx .cnt x = true) : PS X x (tS X.K C cd N W .cnt) := by
  cases x <;> simp [sB] at h
  exact PS.imp ps_continue fun Dn σ H ⟨B, own, g, S, m⟩ => m σ own H S .refl
theorem ss_rais (hs : CtxS C cd k X c kx W) {n : String} {x : Stmt} (h : sB c kx (.rais n) x = true) : PS X x (tS X.K C cd N W (.rais n)) := by
  cases x with
  | Raise a b pos =>
    cases hr : raisP a b with
    | none => simp [sB, hr] at h
    | some wv =>
      obtain ⟨w, vs⟩ := wv
      obtain ⟨p, rfl, rfl⟩ := raisP_inv hr
      have h' : kx n = true ∧ glName c (Str.ofString n) w = true ∧ oneText vs = true := by simpa [sB, hr, and_assoc] using h
      obtain ⟨q, rfl, h1, h2⟩ := glName_inv h'.2.1
      have ht : ∃ z j r, vs = [.Constant (.str z) j r] := by
        have h3 := h'.2.2
        unfold oneText at h3
        split at h3
        · exact ⟨_, _, _, rfl⟩
        · cases h3
      obtain ⟨z, j, r, rfl⟩ := ht
      have xo := hs.ex n h'.1
      refine PS.imp (ps_raise hs.c.calm hs.c.tk (pmk_own PySem.F.excBase_ValueError xo.x xo.g xo.k (raises_own xo.b xo.t) (hs.c.gl h1) h2)) fun Dn σ H ⟨B, own, g, S, m⟩ => ?_
      exact m σ own H S .refl
  | _ => simp [sB] at h
end
end Q

set_option Elab.async false
set_option linter.all false
set_option maxRecDepth 100000
set_option maxHeartbeats 1000000
/-! SdX: list.extend of a list or a tuple. -/
namespace Q
open PySem PySem.Spec PyProof.Rows L2
set_option maxRecDepth 8000 in
theorem ext_tuple (l : Addr) (items : Array Value) (n : Nat) (b : Addr) (items2 : Array Value) (n2 : Nat) (dd : Option Addr) (sl : Array (Option Value)) (h0 : ¬(!items.isEmpty && Builtin.List.listTooLong (items.size + items2.size)) = true) (h1 : items.size ≤ sizeLine) (h2 : items.size + items2.size ≤ sizeLine + 1) :
    Meets (Builtin.«list.extend» ⟨[.ref l, .ref b], []⟩) (fun _ R s => s.heap.get? l = some { cls := .type "list", dict := none, data := .seq items n, slots := #[] } ∧ s.heap.get? b = some { cls := .type "tuple", dict := dd, data := .seq items2 n2, slots := sl } ∧
      R (.ok (.ret Value.none)) { s with heap := s.heap.update l (Obj.mapSeq fun x => x ++ items2), toks := s.toks }) :=
  .of_wp fun prog w A R s ⟨hl, hb, h⟩ => by
    obtain ⟨hp, ge, dr, tk, osv⟩ := s
    have g1 := F.sub_tuple_tuple
    have both : (items ++ items2).size ≤ sizeLine + 1 := by rw [Array.size_append]; exact h2
    wp_walk using (wpAny_updateSeq hl rfl (hz := h1) (_hz' := both)), wpAny_loadPart' hl, wpAny_loadPart' hb
    exact ⟨_, rfl, h⟩
def rExtB (K : PySem.W.Frag) : V → List V → Hp → VK → Prop := fun x vs H Q => ∃ l b xs zs, x = .ref l ∧ vs = [.ref b] ∧ H l = some (.lst xs) ∧ (H b = some (.lst zs) ∨ SqT K H b zs) ∧ xs.length + zs.length ≤ sizeLine ∧ Q .non (upd H l (.lst (xs ++ zs)))
theorem mt_extendB {X : Cx} : MtM X "list.extend" (rExtB X.K) := by
  intro pins s σ H x vs v us Q I rx rv h
  obtain ⟨l, b, xs, zs, rfl, rfl, hH, hB | hB, hz, q⟩ := h
  · exact mt_extend pins s σ H _ _ v us Q I rx rv ⟨l, b, xs, zs, rfl, rfl, hH, hB, hz, q⟩
  cases rx
  obtain ⟨u, rfl, ru⟩ := rv.one
  cases ru
  obtain ⟨z, its, n, r, hl, e⟩ := I.lstM hH
  obtain ⟨its2, r2, ⟨⟨cl2, dd2, dat2, sl2⟩, ho2, hc2, n2, hd2⟩, _⟩ := I.tuple hB
  simp only at hc2 hd2
  subst hc2 hd2
  have hl2 := r2.length
  have hsz : its.toArray.size + its2.toArray.size ≤ sizeLine := by rw [List.size_toArray, List.size_toArray]; omega
  have long : ¬ (!its.toArray.isEmpty && Builtin.List.listTooLong (its.toArray.size + its2.toArray.size)) = true := by
    rw [notLongL hsz, Bool.and_false]
    exact Bool.false_ne_true
  refine call_meets F.slot_list_extend ⟨_, e, rfl⟩ F.entry_list_extend (F.args_list_extend_2 _ _) (ext_tuple l its.toArray n b its2.toArray n2 dd2 sl2 long (by rw [List.size_toArray]; omega) (by omega)) ⟨e, ho2, ?_⟩
  refine ⟨.non, _, I.lset (its' := its ++ its2) hH e (by simp) (r.append r2) ?_, rfl, q⟩
  rw [List.length_append]
  omega
end Q

set_option Elab.async false
set_option linter.all false
set_option maxRecDepth 100000
set_option maxHeartbeats 1000000
/-! Sd11: blocks, tests, loops. -/
namespace Q
open PySem PySem.Spec PyProof.Rows L2
section
variable {C : String → Addr} {cd : String → List D → R D} {k N : Nat} {X : Cx} {c : Sc} {kx : String → Bool} {W : WX}
theorem ss_nil {xs : List Stmt} (h : ssB c kx .nil xs = true) : PSs X xs (tSs X.K C cd N W .nil) := by
  cases xs with
  | nil => exact PSs.imp pss_nil fun Dn σ H ⟨B, own, g, S, m⟩ => m σ own H S .refl
  | cons y ys => simp [ssB] at h
theorem ss_cons {s : S} {ss : Ss} {x : Stmt} {xs : List Stmt} (h1 : PS X x (tS X.K C cd N W s)) (h2 : PSs X xs (tSs X.K C cd N W ss)) : PSs X (x :: xs) (tSs X.K C cd N W (.cons s ss)) := by
  refine PSs.imp (pss_cons h1 h2) fun Dn σ H ⟨B, own, g, S, m⟩ => ⟨B, own, g, S, ?_⟩
  have m : SPo X.K C W B own H Dn ((Q.S.ex cd N s g).thn fun g => Ss.exs cd N ss g) := m
  cases q : Q.S.ex cd N s g with
  | nx g1 =>
    rw [q] at m
    exact fun σ' own' H' S' e => ⟨B, own', g1, S', m.on e⟩
  | rt d => rw [q] at m; exact m
  | bk g1 => rw [q] at m; exact m
  | ct g1 => rw [q] at m; exact m
  | exc c g1 => rw [q] at m; exact m
  | bad => rw [q] at m; exact m.elim
theorem slot_inv {g : Env} {i : Nat} {P : O → Prop} {E : String → Prop} (m : Mt (slotO g i) P E) : ∃ o, g[i]? = some (some o) ∧ P o := by
  unfold slotO at m
  cases q : g[i]? with
  | none => rw [q] at m; exact m.elim
  | some x =>
    cases x with
    | none => rw [q] at m; exact m.elim
    | some o => rw [q] at m; exact ⟨o, rfl, m⟩
theorem ss_frz {i : Nat} {ss : Ss} {xs : List Stmt} (h : PSs X xs (tSs X.K C cd N W ss)) : PSs X xs (tSs X.K C cd N W (.frz i ss)) := by
  refine PSs.imp h fun Dn σ H ⟨B, own, g, S, m⟩ => ?_
  have m := SPo.thn (r := slotO g i) m
  obtain ⟨o, q, m⟩ := slot_inv m
  exact ⟨B, _, _, S.freeze q, m.on (drop_evo i)⟩
theorem ss_ite (hs : CtxS C cd k X c kx W) {t : E} {a b : Ss} {x : Expr} {y z : List Stmt} {pos : Pos} (tx : testX x = true) (ht : eB c t x = true) (ha : PSs X y (tSs X.K C cd N W a)) (hb : PSs X z (tSs X.K C cd N W b)) :
    PS X (.If x y z pos) (tS X.K C cd N W (.ite t a b)) := by
  refine PS.imp (ps_if ((e_snd t X c W x hs.c ht).pt tx) ha hb) fun Dn σ H ⟨B, own, g, S, m⟩ => ?_
  have m := SPo.thn (r := E.ev cd t g >>= fun o => truth o.toD) m
  refine useT S m (fun c z => z.wp S) fun v H1 m e1 => ?_
  have ev : Evo (Ow own) H (Ow own) H1 := .same e1
  cases v with
  | true => exact iteT ⟨B, own, g, S.same e1, m.on ev⟩
  | false => exact iteF ⟨B, own, g, S.same e1, m.on ev⟩
/-- a loop's turn, as it is worth -/
theorem forL_cons {body : D → Env → SO} {clr : List Nat} {d : D} {ds : List D} {g : Env} : forL body clr (d :: ds) g = (match body d g with
    | .nx g => forL body clr ds (wipe g clr)
    | .ct g => forL body clr ds (wipe g clr)
    | .bk g => .nx (wipe g clr)
    | r => r) := rfl
theorem ss_for (hs : CtxS C cd k X c kx W) {t : Tg} {it : It} {b : Ss} {clr : List Nat} {y z : Expr} {w : List Stmt} {pos : Pos} (ho : notO it = true) (hn : needT it = true → tupX y = true) (ht : tgB c t y = true) (hi : itB c it z = true) (hb : PSs X w (tSs X.K C cd N W b)) :
    PS X (.For y z w [] pos) (tS X.K C cd N W (.for_ t it b clr)) := by
  refine PS.imp (ps_for hs.po hs.c.calm (it_snd it X c W z y hs.c ho hi hn) (tg_snd hs.c t y ht) hb (noFoldI hi)) fun Dn σ H ⟨B, own, g, S, m⟩ => ?_
  have m := SPo.thn (r := It.evi cd it g) m
  refine ⟨B, own, g, S, m.imp (fun ds _ m J H1 G Y e1 wk iok => ?_) fun c z => z.wp S⟩
  refine for_it wk (fun i σ' H' => ∃ own' g', SR X.K B own' H' σ' g' ∧ Evo (Ow own) H1 (Ow own') H' ∧ SPo X.K C W B own H Dn (forL (fun d g => (t.put d g).thn g fun g => Ss.exs cd N b g) clr (ds.drop i) g'))
    ⟨own, g, S.same e1, .refl, by simpa using m⟩ (fun i σ' H' hi ⟨own', g', S', ev, _⟩ => iok.stands _ H' ev.av) (fun i x σ' H' H'' hi ⟨own', g', S', ev, m⟩ hy => ?_) (fun σ' H' ⟨own', g', S', ev, m⟩ => ?_)
  · obtain ⟨s3, rx⟩ := iok.gives i ds[i] (Av B own') H' x H'' (List.getElem?_eq_getElem hi) ev.av (fun a => S'.inH') hy
    rw [List.drop_eq_getElem_cons hi, forL_cons] at m
    have base : Evo (Ow own) H (Ow own') H'' := ((Evo.same e1).trans ev).trans (.same s3)
    cases hp : t.put ds[i] g' with
    | exc c => exact absurd hp (put_noX c)
    | bad => rw [hp] at m; exact m.elim
    | ok g1 =>
      rw [hp] at m
      refine ⟨B, own', g', ds[i], S'.same s3, rx, ?_⟩
      rw [hp]
      intro σ2 own2 S2 p2
      refine ⟨B, own2, g1, S2, ?_⟩
      have b2 : Evo (Ow own) H (Ow own2) H'' := base.trans p2.evo
      have b1 : Evo (Ow own) H1 (Ow own2) H'' := (ev.trans (.same s3)).trans p2.evo
      have m : SPo X.K C W B own H Dn (match Ss.exs cd N b g1 with
        | .nx g => forL (fun d g => (t.put d g).thn g fun g => Ss.exs cd N b g) clr (ds.drop (i + 1)) (wipe g clr)
        | .ct g => forL (fun d g => (t.put d g).thn g fun g => Ss.exs cd N b g) clr (ds.drop (i + 1)) (wipe g clr)
        | .bk g => .nx (wipe g clr)
        | r => r) := m
      cases hr : Ss.exs cd N b g1 with
      | nx g2 =>
        rw [hr] at m
        intro σ3 own3 H3 S3 e3
        obtain ⟨own4, S4, e4⟩ := S3.wipeC clr
        exact ⟨own4, _, S4, (b1.trans e3).trans e4, m⟩
      | ct g2 =>
        rw [hr] at m
        intro σ3 own3 H3 S3 e3
        obtain ⟨own4, S4, e4⟩ := S3.wipeC clr
        exact ⟨own4, _, S4, (b1.trans e3).trans e4, m⟩
      | bk g2 =>
        rw [hr] at m
        intro σ3 own3 H3 S3 e3
        obtain ⟨own4, S4, e4⟩ := S3.wipeC clr
        exact m σ3 own4 H3 S4 ((b2.trans e3).trans e4)
      | rt d =>
        rw [hr] at m
        exact fun v own3 H3 e3 rd => m v own3 H3 (b2.trans e3) rd
      | exc c g2 =>
        rw [hr] at m
        exact fun σ3 own3 H3 S3 e3 => m σ3 own3 H3 S3 (b2.trans e3)
      | bad => rw [hr] at m; exact m.elim
  · rw [List.drop_length] at m
    exact m σ' own' H' S' ((Evo.same e1).trans ev)
theorem ss_while (hs : CtxS C cd k X c kx W) {t : E} {b : Ss} {clr : List Nat} {x : Expr} {w : List Stmt} {pos : Pos} (tx : testX x = true) (ht : eB c t x = true) (hb : PSs X w (tSs X.K C cd N W b)) :
    PS X (.While x w [] pos) (tS X.K C cd N W (.while_ t b clr)) := by
  refine PS.imp (ps_while hs.po ((e_snd t X c W x hs.c ht).pt tx) hb) fun Dn σ H ⟨B, own, g, S, m⟩ => ?_
  refine ⟨fun n σ' H' => ∃ own' g', SR X.K B own' H' σ' g' ∧ Evo (Ow own) H (Ow own') H' ∧ SPo X.K C W B own H Dn (whileL (fun g => E.ev cd t g >>= fun o => truth o.toD) (fun g => Ss.exs cd N b g) clr n g'),
    ⟨N, own, g, S, .refl, m⟩, fun n σ' H' ⟨own', g', S', ev, m⟩ => ?_⟩
  cases n with
  | zero => exact m.elim
  | succ n =>
    have m := (SPo.thn (r := E.ev cd t g' >>= fun o => truth o.toD) m)
    refine useT S' m (fun c z => (z.on ev).wp S') fun v H1 m e1 => ?_
    have S1 := S'.same e1
    have b1 : Evo (Ow own) H (Ow own') H1 := ev.trans (.same e1)
    cases v with
    | false => exact iteF (m σ' own' H1 S1 b1)
    | true =>
      refine iteT ⟨fun σ' H' => ∃ own' g', SR X.K B own' H' σ' g' ∧ Evo (Ow own) H (Ow own') H' ∧ SPo X.K C W B own H Dn (whileL (fun g => E.ev cd t g >>= fun o => truth o.toD) (fun g => Ss.exs cd N b g) clr n g'),
        fun σ2 H2 q => ⟨n, Nat.lt_succ_self n, q⟩, B, own', g', S1, ?_⟩
      have m : SPo X.K C W B own H Dn (match Ss.exs cd N b g' with
        | .nx g => whileL (fun g => E.ev cd t g >>= fun o => truth o.toD) (fun g => Ss.exs cd N b g) clr n (wipe g clr)
        | .ct g => whileL (fun g => E.ev cd t g >>= fun o => truth o.toD) (fun g => Ss.exs cd N b g) clr n (wipe g clr)
        | .bk g => .nx (wipe g clr)
        | r => r) := m
      cases hr : Ss.exs cd N b g' with
      | nx g2 =>
        rw [hr] at m
        intro σ3 own3 H3 S3 e3
        obtain ⟨own4, S4, e4⟩ := S3.wipeC clr
        exact ⟨own4, _, S4, (b1.trans e3).trans e4, m⟩
      | ct g2 =>
        rw [hr] at m
        intro σ3 own3 H3 S3 e3
        obtain ⟨own4, S4, e4⟩ := S3.wipeC clr
        exact ⟨own4, _, S4, (b1.trans e3).trans e4, m⟩
      | bk g2 =>
        rw [hr] at m
        intro σ3 own3 H3 S3 e3
        obtain ⟨own4, S4, e4⟩ := S3.wipeC clr
        exact m σ3 own4 H3 S4 ((b1.trans e3).trans e4)
      | rt d =>
        rw [hr] at m
        exact fun v own3 H3 e3 rd => m v own3 H3 (b1.trans e3) rd
      | exc c g2 =>
        rw [hr] at m
        exact fun σ3 own3 H3 S3 e3 => m σ3 own3 H3 S3 (b1.trans e3)
      | bad => rw [hr] at m; exact m.elim

/-! ### what is written -/
theorem put_nx {g : Env} {i : Nat} {o : O} {B : Addr → Prop} {own : Nat → List Addr} {H : Hp} {Dn : Ends} (m : SPo X.K C W B own H Dn (putS g i o)) : i < g.length ∧ SPo X.K C W B own H Dn (.nx (g.set i (some o))) := by
  unfold putS at m
  by_cases hi : i < g.length
  · rw [if_pos (decide_eq_true hi)] at m
    exact ⟨hi, m⟩
  · rw [if_neg (by simpa using hi)] at m
    exact m.elim
theorem pe_slot (hs : CtxS C cd k X c kx W) {i : Nat} {x : Expr} (h : nameB c i x = true) : PE X x (tVar i) := by
  obtain ⟨y, p, rfl, h1, h2, h3, h4⟩ := nameB_inv h
  exact pe_var (by rw [hs.c.N]; exact h1) (hs.c.vis h2) h3 h4
theorem new_inv {fr : Bool} {e : E} {d : D} {P : O → Prop} {E : String → Prop} (m : Mt (if fr && !e.fresh then R.bad else newO fr d) P E) : (fr = false ∧ P (.fz d)) ∨ (fr = true ∧ e.fresh = true ∧ ∃ ds, d = .list ds ∧ P (.ol (ds.map .fz))) := by
  cases fr with
  | false => exact .inl ⟨rfl, m⟩
  | true =>
    cases hf : e.fresh with
    | false => rw [hf] at m; exact m.elim
    | true =>
      rw [hf] at m
      cases d with
      | list ds => exact .inr ⟨rfl, rfl, ds, rfl, m⟩
      | _ => exact m.elim
theorem slotL_inv {g : Env} {i : Nat} {P : List O → Prop} {E : String → Prop} (m : Mt (slotL g i) P E) : ∃ os, g[i]? = some (some (.ol os)) ∧ P os := by
  unfold slotL at m
  split at m
  · rename_i os q
    exact ⟨os, q, m⟩
  · exact m.elim
theorem sz_inv {n : Nat} {f : SO} {B : Addr → Prop} {own : Nat → List Addr} {H : Hp} {Dn : Ends} (m : SPo X.K C W B own H Dn (if szOk n = true then f else .bad)) : n ≤ 1000000 ∧ SPo X.K C W B own H Dn f := by
  by_cases z : szOk n = true
  · rw [if_pos z] at m
    exact ⟨of_decide_eq_true z, m⟩
  · rw [if_neg z] at m
    exact m.elim
theorem ss_app (hs : CtxS C cd k X c kx W) {i : Nat} {fr : Bool} {e : E} {x : Stmt} (h : sB c kx (.app i fr e) x = true) : PS X x (tS X.K C cd N W (.app i fr e)) := by
  cases x with
  | Expr v pos =>
    have hx : ∃ y m p v' q, v = .Call (.Attribute y m p) [v'] [] q := by
      simp only [sB] at h
      split at h
      · rename_i e1
        cases e1
        exact ⟨_, _, _, _, _, rfl⟩
      · cases h
    obtain ⟨y, m, p, v, q, rfl⟩ := hx
    have h' : m = Str.ofString "append" ∧ p.endLine = q.line ∧ nameB c i y = true ∧ plainX v = true ∧ eB c e v = true := by simpa [sB, and_assoc] using h
    obtain ⟨rfl, hl, hn, hp, hv⟩ := h'
    refine PS.imp (ps_expr (pe_bm PySem.F.plainAttrs_list PySem.F.slot_list_append PySem.F.type_list_append mt_append (pe_slot hs hn) (pa_cons (e_snd e X c W v hs.c hv).pe pa_nil (star1 hp)) (attr_name hn) (few_one hp) (by simpa using hl) (star1 hp) rfl) rfl) fun Dn σ H ⟨B, own, g, S, m⟩ => ?_
    have m := SPo.thn (r := slotL g i) m
    obtain ⟨os, hg, m⟩ := slotL_inv m
    have m := SPo.thn (r := E.ev cd e g >>= O.asD) m
    obtain ⟨w, hw, p', vs, r, rfl, f2, f3, f4⟩ := S.slot i _ hg
    refine ⟨_, hw, .inl ⟨rfl, vs, .inl (.inl f3)⟩, ?_⟩
    refine useE S m.bind (fun c z => z.wp S) fun o v H1 _ m e1 b f => ?_
    obtain ⟨d, rfl, m⟩ := m.asD
    have m := SPo.thn (r := if fr && !e.fresh then R.bad else newO fr d) m
    rcases new_inv m with ⟨rfl, m⟩ | ⟨rfl, hf, ds, rfl, m'⟩
    · obtain ⟨hz, m⟩ := sz_inv m
      obtain ⟨hi, m⟩ := put_nx m
      obtain ⟨p2, vs2, g1, g2, g3, g4, own', S', ev⟩ := S.app e1 hg (x := .fz d) (bs := []) List.nodup_nil (by simp) (y := v) ⟨b.rd.evo (.sub fun a z => by simpa using z), rfl⟩
      rw [hw] at g1
      cases g1
      rw [g4] at f3
      cases f3
      exact ⟨p', vs, v, rfl, rfl, g2, by rw [g3, sizeLine_eq]; omega, m σ own' _ S' ev⟩
    · obtain ⟨hz, m⟩ := sz_inv m'
      obtain ⟨hi, m⟩ := put_nx m
      obtain ⟨q0, ws, rfl, k2, k3, k4⟩ := f hf _ rfl ds rfl
      obtain ⟨p2, vs2, g1, g2, g3, g4, own', S', ev⟩ := S.app e1 hg (x := .ol (ds.map .fz)) (bs := [q0]) (by simp) (by intro a ha; rw [List.mem_singleton.mp ha]; exact k2) (y := .ref q0)
        ⟨q0, ws, [], rfl, rfl, k3, ROs.of_rds (k4.evo (.sub fun a z => by simpa using z))⟩
      rw [hw] at g1
      cases g1
      rw [g4] at f3
      cases f3
      exact ⟨p', vs, .ref q0, rfl, rfl, g2, by rw [g3, sizeLine_eq]; omega, m σ own' _ S' ev⟩
  | _ => simp [sB] at h
/-- data is added at a list's end -/
theorem SR.addAll {K : PySem.W.Frag} {B : Addr → Prop} {own : Nat → List Addr} {H0 H1 : Hp} {σ : L2.St} {g : Env} (S : SR K B own H0 σ g) (e : Same H0 H1) {i : Nat} {os : List O} (hi : g[i]? = some (some (.ol os))) {ys : List V} {ds : List D} (ro : RDs K (Av B own) H1 ys ds) :
    ∃ p vs, σ[i]? = some (some (.ref p)) ∧ H1 p = some (.lst vs) ∧ vs.length = os.length ∧ ∃ own', SR K B own' (upd H1 p (.lst (vs ++ ys))) σ (g.set i (some (.ol (os ++ ds.map .fz)))) ∧ Evo (Ow own) H0 (Ow own') (upd H1 p (.lst (vs ++ ys))) := by
  obtain ⟨p, vs, r, h1, h2, h3, h4, h5, h6, h7⟩ := S.write e hi
  refine ⟨p, vs, h2, h4, h5.length, ?_⟩
  have pi : p ∈ own i := by rw [h1]; simp
  obtain ⟨k1, k2⟩ := h7 (upd H1 p (.lst (vs ++ ys))) r (fun a ha => .inl ha) fun a u q n => by
    rw [upd_ne fun z => n (by rw [z]; exact pi)]; exact q
  have same : upo own i (p :: r) = own := by
    funext j
    by_cases z : j = i
    · subst z; rw [upo_same, h1]
    · rw [upo_ne z]
  rw [same] at k1 k2
  have ndi := S.nd i
  rw [h1] at ndi
  refine ⟨own, k2 _ _ upd_same ndi ?_, k1⟩
  have rr := (h5.keep k1.av fun a ha u q => by
    rw [upd_ne fun z => h6 (by rw [← z]; exact ha)]; exact e a u q).append (ROs.of_rds (ro.evo (Evo.upd (o := .lst (vs ++ ys)) (.inr ⟨i, pi⟩))))
  simpa using rr
theorem ss_ext (hs : CtxS C cd k X c kx W) {i : Nat} {e : E} {x : Stmt} (h : sB c kx (.ext i e) x = true) : PS X x (tS X.K C cd N W (.ext i e)) := by
  cases x with
  | Expr v pos =>
    have hx : ∃ y m p v' q, v = .Call (.Attribute y m p) [v'] [] q := by
      simp only [sB] at h
      split at h
      · rename_i e1
        cases e1
        exact ⟨_, _, _, _, _, rfl⟩
      · cases h
    obtain ⟨y, m, p, v, q, rfl⟩ := hx
    have h' : m = Str.ofString "extend" ∧ p.endLine = q.line ∧ nameB c i y = true ∧ plainX v = true ∧ eB c e v = true := by simpa [sB, and_assoc] using h
    obtain ⟨rfl, hl, hn, hp, hv⟩ := h'
    refine PS.imp (ps_expr (pe_bm PySem.F.plainAttrs_list PySem.F.slot_list_extend PySem.F.type_list_extend mt_extendB (pe_slot hs hn) (pa_cons (e_snd e X c W v hs.c hv).pe pa_nil (star1 hp)) (attr_name hn) (few_one hp) (by simpa using hl) (star1 hp) rfl) rfl) fun Dn σ H ⟨B, own, g, S, m⟩ => ?_
    have m := SPo.thn (r := slotL g i) m
    obtain ⟨os, hg, m⟩ := slotL_inv m
    have m := SPo.thn (r := E.ev cd e g >>= O.asD) m
    obtain ⟨w, hw, p', vs, r, rfl, f2, f3, f4⟩ := S.slot i _ hg
    refine ⟨_, hw, .inl ⟨rfl, vs, .inl (.inl f3)⟩, ?_⟩
    refine useD S m (fun c z => z.wp S) fun d v H1 m e1 rd => ?_
    cases rd with
    | @lst a ws ds h1 n1 r1 =>
      have m : SPo X.K C W B own H Dn (if szOk (os.length + ds.length) = true then putS g i (.ol (os ++ ds.map .fz)) else .bad) := m
      obtain ⟨hz, m⟩ := sz_inv m
      obtain ⟨hi, m⟩ := put_nx m
      obtain ⟨p2, vs2, g1, g2, g3, own', S', ev⟩ := S.addAll e1 hg r1
      rw [hw] at g1
      cases g1
      have z := e1 _ _ f3
      rw [g2] at z
      cases z
      exact ⟨p', a, vs, ws, rfl, rfl, g2, .inl h1, by rw [g3, r1.length, sizeLine_eq]; omega, m σ own' _ S' ev⟩
    | @tup a ws ds h1 n1 r1 =>
      have m : SPo X.K C W B own H Dn (if szOk (os.length + ds.length) = true then putS g i (.ol (os ++ ds.map .fz)) else .bad) := m
      obtain ⟨hz, m⟩ := sz_inv m
      obtain ⟨hi, m⟩ := put_nx m
      obtain ⟨p2, vs2, g1, g2, g3, own', S', ev⟩ := S.addAll e1 hg r1
      rw [hw] at g1
      cases g1
      have z := e1 _ _ f3
      rw [g2] at z
      cases z
      exact ⟨p', a, vs, ws, rfl, rfl, g2, .inr (SqT.of h1), by rw [g3, r1.length, sizeLine_eq]; omega, m σ own' _ S' ev⟩
    | _ => exact m.elim
  | _ => simp [sB] at h
theorem setL_inv {os : List O} {i : Int} {x : O} {P : List O → Prop} {E : String → Prop} (m : Mt (setL os i x) P E) : ∃ j, ixN os.length i = some j ∧ j < os.length ∧ P (os.set j x) := by
  unfold setL at m
  cases q : ixN os.length i with
  | none => rw [q] at m; exact m.elim
  | some j => rw [q] at m; exact ⟨j, rfl, (ixN_seq q).2.1, m⟩
theorem sole_other {v t : Expr} {l : Nat} {env : PySem.Env} (h : plainX v = true) (ht : ∀ y p, t ≠ .Name y p) : swapsWithSole [t] v l env = pure false := swaps_other h ht
theorem ss_setI (hs : CtxS C cd k X c kx W) {i : Nat} {b e : E} {x : Stmt} (h : sB c kx (.setI i b e) x = true) : PS X x (tS X.K C cd N W (.setI i b e)) := by
  cases x with
  | Assign ts v pos =>
    have hx : ∃ y z p, ts = [.Subscript y z p] := by
      simp only [sB] at h
      split at h
      · rename_i e1
        cases e1
        exact ⟨_, _, _, rfl⟩
      · cases h
    obtain ⟨y, z, p, rfl⟩ := hx
    have h' : nameB c i y = true ∧ plainX z = true ∧ eB c b z = true ∧ plainX v = true ∧ eB c e v = true := by simpa [sB, and_assoc] using h
    obtain ⟨hn, hz, hb, hp, hv⟩ := h'
    have ha : ∀ w, assign (.Subscript y z p) X.env w = (do
      let ov ← holding [w] (eval y X.env)
      let iv ← holding [w, ov] (eval z X.env)
      standAt p
      holding [w, ov, iv] (setItem ov iv w)
      release [w, ov, iv] []) := by
      intro w
      cases z <;> first | rfl | (simp [plainX] at hz)
    refine PS.imp (ps_asg (e_snd e X c W v hs.c hv).pe (pg_sub (pe_slot hs hn) (e_snd b X c W z hs.c hb).pe set_list ha) (sole_other hp fun y p q => by cases q) (by cases v <;> first | rfl | (simp [plainX] at hp)) rfl) fun Dn σ H ⟨B, own, g, S, m⟩ => ?_
    have m := SPo.thn (r := E.ev cd e g >>= O.asD) m
    refine useD S m (fun c z => z.wp S) fun d v H1 m e1 r1 => ?_
    have m := SPo.thn (r := slotL g i) m
    obtain ⟨os, hg, m⟩ := slotL_inv m
    have m := SPo.thn (r := (E.ev cd b g >>= O.asD) >>= asInt) m
    obtain ⟨w, hw, p', vs, r, rfl, f2, f3, f4⟩ := S.slot i _ hg
    refine ⟨_, hw, ?_⟩
    refine useD (S.same e1) m.bind (fun c z => (z.wp S).same e1) fun dk kv H2 m e2 r2 => ?_
    obtain ⟨kk, rfl, m⟩ := m.asInt
    cases r2
    have m := SPo.thn (r := setL os kk (.fz d)) m
    obtain ⟨j, q1, q2, m⟩ := setL_inv m
    obtain ⟨hi, m⟩ := put_nx m
    obtain ⟨p2, vs2, g1, g2, g3, own', S', ev⟩ := S.setD (e1.trans e2) hg q2 (r1.evo (.same e2))
    rw [hw] at g1
    cases g1
    exact ⟨p', vs2, kk, j, rfl, rfl, g2, by rw [g3]; exact q1, m σ own' _ S' ev⟩
  | _ => simp [sB] at h
theorem ss_setJ (hs : CtxS C cd k X c kx W) {i : Nat} {a b e : E} {x : Stmt} (h : sB c kx (.setJ i a b e) x = true) : PS X x (tS X.K C cd N W (.setJ i a b e)) := by
  cases x with
  | Assign ts v pos =>
    have hx : ∃ y w q z p, ts = [.Subscript (.Subscript y w q) z p] := by
      simp only [sB] at h
      split at h
      · rename_i e1
        cases e1
        exact ⟨_, _, _, _, _, rfl⟩
      · cases h
    obtain ⟨y, w, q, z, p, rfl⟩ := hx
    have h' : nameB c i y = true ∧ plainX w = true ∧ eB c a w = true ∧ plainX z = true ∧ eB c b z = true ∧ plainX v = true ∧ eB c e v = true := by simpa [sB, and_assoc] using h
    obtain ⟨hn, hw0, ha0, hz, hb, hp, hv⟩ := h'
    have ha : ∀ u, assign (.Subscript (.Subscript y w q) z p) X.env u = (do
      let ov ← holding [u] (eval (.Subscript y w q) X.env)
      let iv ← holding [u, ov] (eval z X.env)
      standAt p
      holding [u, ov, iv] (setItem ov iv u)
      release [u, ov, iv] []) := by
      intro u
      cases z <;> first | rfl | (simp [plainX] at hz)
    refine PS.imp (ps_asg (e_snd e X c W v hs.c hv).pe (pg_sub (pe_ix ix_list (pe_slot hs hn) (e_snd a X c W w hs.c ha0).pe (plainIx hw0)) (e_snd b X c W z hs.c hb).pe set_list ha) (sole_other hp fun y p q => by cases q) (by cases v <;> first | rfl | (simp [plainX] at hp)) rfl) fun Dn σ H ⟨B, own, g, S, m⟩ => ?_
    have m := SPo.thn (r := E.ev cd e g >>= O.asD) m
    refine useD S m (fun c z => z.wp S) fun d v H1 m e1 r1 => ?_
    have m := SPo.thn (r := slotL g i) m
    obtain ⟨os, hg, m⟩ := slotL_inv m
    have m := SPo.thn (r := (E.ev cd a g >>= O.asD) >>= asInt) m
    obtain ⟨w, hw, p', vs, r, rfl, f2, f3, f4⟩ := S.slot i _ hg
    refine ⟨_, hw, ?_⟩
    refine useD (S.same e1) m.bind (fun c z => (z.wp S).same e1) fun dk kv H2 m e2 r2 => ?_
    obtain ⟨jj, rfl, m⟩ := m.asInt
    cases r2
    have m := SPo.thn (r := atL os jj) m
    have hat : ∃ ps, atI os jj = some (.ol ps) ∧ SPo X.K C W B own H Dn (((E.ev cd b g >>= O.asD) >>= asInt).thn g fun k => (setL ps k (.fz d)).thn g fun ps => (setL os jj (.ol ps)).thn g fun os => putS g i (.ol os)) := by
      unfold atL at m
      split at m
      · rename_i ps q
        exact ⟨ps, q, m⟩
      · exact m.elim
    obtain ⟨ps, qa, m⟩ := hat
    have hj : ∃ j, ixN os.length jj = some j ∧ os[j]? = some (.ol ps) := by
      unfold atI at qa
      cases q : ixN os.length jj with
      | none => rw [q] at qa; cases qa
      | some j => rw [q] at qa; exact ⟨j, rfl, qa⟩
    obtain ⟨j, q1, q2⟩ := hj
    obtain ⟨qv, a1, z1, z2, z3⟩ := f4.get q2
    obtain ⟨p3, vs3, r3, rfl, z4, z5, z6⟩ := z3
    have s12 := e1.trans e2
    have at2 : atI vs jj = some (.ref p3) := by
      unfold atI
      rw [f4.length, q1]
      exact z1
    refine ⟨p', vs, jj, .ref p3, rfl, rfl, SqL.of (s12 _ _ f3), at2, ?_⟩
    have m := SPo.thn (r := (E.ev cd b g >>= O.asD) >>= asInt) m
    refine useD (S.same s12) m.bind (fun c z => (z.wp S).same s12) fun dk kv H3 m e3 r3 => ?_
    obtain ⟨kk, rfl, m⟩ := m.asInt
    cases r3
    have m := SPo.thn (r := setL ps kk (.fz d)) m
    obtain ⟨l, q3, q4, m⟩ := setL_inv m
    have m := SPo.thn (r := setL os jj (.ol (ps.set l (.fz d)))) m
    obtain ⟨j', q5, q6, m⟩ := setL_inv m
    rw [q1] at q5
    cases q5
    obtain ⟨hi, m⟩ := put_nx m
    obtain ⟨p2, vs2, p4, ws, g1, g2, g3, g4, g5, g6, own', S', ev⟩ := S.setDD (s12.trans e3) hg q2 q4 ((r1.evo (.same e2)).evo (.same e3))
    rw [hw] at g1
    cases g1
    have z := (s12.trans e3) _ _ f3
    rw [g2] at z
    cases z
    rw [z1] at g4
    cases g4
    exact ⟨p3, ws, kk, l, rfl, rfl, g5, by rw [g6]; exact q3, m σ own' _ S' ev⟩
  | _ => simp [sB] at h
end
end Q

set_option Elab.async false
set_option linter.all false
set_option maxRecDepth 100000
set_option maxHeartbeats 1000000
/-! Sd12: several names at once. -/
namespace Q
open PySem PySem.Spec PyProof.Rows L2

theorem kind_beq {env : PySem.Env} {sc : Scope} (h : env.scope = sc) (id : Str) : (env.kindOf id == some NameKind.local) = nkEq (sc.names.lookup id) .local := by
  have e : env.kindOf id = sc.names.lookup id := by rw [← h]; rfl
  rw [e]
  unfold nkEq
  cases sc.names.lookup id with
  | none => rfl
  | some k => cases k <;> decide
theorem swapped_no {ts vs : List Expr} {k k2 : Nat} {p p2 : Pos} {env : PySem.Env} {sc : Scope} (hb : (env.blockKind == ScopeKind.function) = true) (hs : env.scope = sc) (h : noSwap sc ts vs = true) : swappedStores [.Tuple ts k p] (.Tuple vs k2 p2) env = pure none := by
  unfold swappedStores
  simp only [kind_beq hs]
  unfold noSwap at h
  simp only [Bool.or_eq_true] at h
  by_cases h1 : (!(ts.length == 2 || ts.length == 3)) = true
  · simp [h1]
  · by_cases h3 : (vs.length != ts.length) = true
    · simp [h3]
    · have h2 := (h.resolve_right h3).resolve_left h1
      have e1 : (!(ts.length == 2 || ts.length == 3)) = false := by simpa using h1
      have e3 : (vs.length != ts.length) = false := by simpa using h3
      have eb : (env.blockKind != ScopeKind.function) = false := by rw [bne, hb]; rfl
      simp only [e1, e3, eb, Bool.false_or, Bool.false_eq_true, if_false]
      split
      · rfl
      · refine if_pos ?_
        rw [Bool.or_eq_true]
        exact .inl h2
theorem noSt : ∀ (a : Expr), plainX a = true → (match a with | .Starred .. => true | _ => false) = false := by
  intro a h
  cases a <;> first | rfl | (simp [plainX] at h)
theorem swapped_two {x y : Str} {p q : Pos} {a b : Expr} {k k2 : Nat} {pt p2 : Pos} {env : PySem.Env} {sc : Scope} (hb : (env.blockKind == ScopeKind.function) = true) (hs : env.scope = sc)
    (hx : nkEq (sc.names.lookup x) .local = true) (hy : nkEq (sc.names.lookup y) .local = true) (hl : (p.line == q.line) = true) (hxy : (x == y) = false) (ha : plainX a = true) (hb' : plainX b = true)
    (hf : (foldedForSure 8 a && foldedForSure 8 b) = false) (hc : (constantsAlone 8 a && constantsAlone 8 b) = false) :
    swappedStores [.Tuple [.Name x p, .Name y q] k pt] (.Tuple [a, b] k2 p2) env = pure (some [x, y]) := by
  have eb : (env.blockKind != ScopeKind.function) = false := by rw [bne, hb]; rfl
  have hq : (q.line == p.line) = true := by
    rw [beq_iff_eq] at hl ⊢; exact hl.symm
  have hyx : (y == x) = false := by
    rw [beq_eq_false_iff_ne] at hxy ⊢; exact fun z => hxy z.symm
  have ed : [x, y].eraseDups = [x, y] := by
    simp [List.eraseDups_cons, hyx]
  have e3 : ([a, b].all (foldedForSure 8)) = false := by simpa using hf
  have e4 : ([a, b].all (constantsAlone 8)) = false := by simpa using hc
  have s1 := noSt a ha
  have s2 := noSt b hb'
  have pl : (p.line == p.line) = true := by simp
  have t1 : ([a, b].any fun | .Starred .. => true | _ => false) = false := by
    simp only [List.any_cons, List.any_nil, Bool.or_false, Bool.or_eq_false_iff]
    exact ⟨s1, s2⟩
  unfold swappedStores
  simp only [kind_beq hs]
  simp only [List.length_cons, List.length_nil, eb, List.filterMap_cons, List.filterMap_nil, hx, hy, hq, pl, List.head?_cons, Option.map_some, Option.getD_some, Expr.pos, Bool.and_self, if_true, ed, e3, e4]
  have n1 : (!((0 + 1 + 1 : Nat) == 2 || (0 + 1 + 1 : Nat) == 3) || (0 + 1 + 1 : Nat) != 0 + 1 + 1 || false) = false := by decide
  have n2 : ((0 + 1 + 1 : Nat) != 0 + 1 + 1 || (0 + 1 + 1 : Nat) != 0 + 1 + 1) = false := by decide
  simp only [n1, n2, Bool.false_eq_true, if_false]
  rw [if_neg (by rw [Bool.not_eq_true]; exact t1)]
theorem swapped_three {x y z : Str} {p q r : Pos} {a b d : Expr} {k k2 : Nat} {pt p2 : Pos} {env : PySem.Env} {sc : Scope} (hb : (env.blockKind == ScopeKind.function) = true) (hs : env.scope = sc)
    (hx : nkEq (sc.names.lookup x) .local = true) (hy : nkEq (sc.names.lookup y) .local = true) (hz : nkEq (sc.names.lookup z) .local = true) (hl : (p.line == q.line) = true) (hl2 : (p.line == r.line) = true)
    (hxy : (x == y) = false) (hxz : (x == z) = false) (hyz : (y == z) = false) (ha : plainX a = true) (hb' : plainX b = true) (hd : plainX d = true)
    (hf : (foldedForSure 8 a && (foldedForSure 8 b && foldedForSure 8 d)) = false) (hc : (constantsAlone 8 a && (constantsAlone 8 b && constantsAlone 8 d)) = false) :
    swappedStores [.Tuple [.Name x p, .Name y q, .Name z r] k pt] (.Tuple [a, b, d] k2 p2) env = pure (some [x, y, z]) := by
  have eb : (env.blockKind != ScopeKind.function) = false := by rw [bne, hb]; rfl
  have hq : (q.line == p.line) = true := by
    rw [beq_iff_eq] at hl ⊢; exact hl.symm
  have hr : (r.line == p.line) = true := by
    rw [beq_iff_eq] at hl2 ⊢; exact hl2.symm
  have hyx : (y == x) = false := by
    rw [beq_eq_false_iff_ne] at hxy ⊢; exact fun z => hxy z.symm
  have hzx : (z == x) = false := by
    rw [beq_eq_false_iff_ne] at hxz ⊢; exact fun z => hxz z.symm
  have hzy : (z == y) = false := by
    rw [beq_eq_false_iff_ne] at hyz ⊢; exact fun z => hyz z.symm
  have ed : [x, y, z].eraseDups = [x, y, z] := by
    simp [List.eraseDups_cons, hyx, hzx, hzy]
  have e3 : ([a, b, d].all (foldedForSure 8)) = false := by simpa using hf
  have e4 : ([a, b, d].all (constantsAlone 8)) = false := by simpa using hc
  have s1 := noSt a ha
  have s2 := noSt b hb'
  have s3 := noSt d hd
  have pl : (p.line == p.line) = true := by simp
  have t1 : ([a, b, d].any fun | .Starred .. => true | _ => false) = false := by
    simp only [List.any_cons, List.any_nil, Bool.or_false, Bool.or_eq_false_iff]
    exact ⟨s1, s2, s3⟩
  unfold swappedStores
  simp only [kind_beq hs]
  simp only [List.length_cons, List.length_nil, eb, List.filterMap_cons, List.filterMap_nil, hx, hy, hz, hq, hr, pl, List.head?_cons, Option.map_some, Option.getD_some, Expr.pos, Bool.and_self, if_true, ed, e3, e4]
  have n1 : (!((0 + 1 + 1 + 1 : Nat) == 2 || (0 + 1 + 1 + 1 : Nat) == 3) || (0 + 1 + 1 + 1 : Nat) != 0 + 1 + 1 + 1 || false) = false := by decide
  have n2 : ((0 + 1 + 1 + 1 : Nat) != 0 + 1 + 1 + 1 || (0 + 1 + 1 + 1 : Nat) != 0 + 1 + 1 + 1) = false := by decide
  simp only [n1, n2, Bool.false_eq_true, if_false]
  rw [if_neg (by rw [Bool.not_eq_true]; exact t1)]

section
variable {C : String → Addr} {cd : String → List D → R D} {k N : Nat} {X : Cx} {c : Sc} {kx : String → Bool} {W : WX}
theorem evo_two {a b : E} {g : Env} {P : List O → Prop} {Ex : String → Prop} (m : Mt (Es.evo cd (.cons a (.cons b .nil)) g) P Ex) : Mt (E.ev cd a g) (fun x => Mt (E.ev cd b g) (fun y => P [x, y]) Ex) Ex := by
  simp only [Es.evo] at m
  refine m.bind.imp (fun x _ m => ?_) fun _ z => z
  refine m.bind.bind.imp (fun y _ m => m) fun _ z => z
theorem evo_three {a b d : E} {g : Env} {P : List O → Prop} {Ex : String → Prop} (m : Mt (Es.evo cd (.cons a (.cons b (.cons d .nil))) g) P Ex) : Mt (E.ev cd a g) (fun x => Mt (E.ev cd b g) (fun y => Mt (E.ev cd d g) (fun z => P [x, y, z]) Ex) Ex) Ex := by
  simp only [Es.evo] at m
  refine m.bind.imp (fun x _ m => ?_) fun _ z => z
  refine m.bind.bind.imp (fun y _ m => ?_) fun _ z => z
  refine m.bind.bind.imp (fun z _ m => m) fun _ z => z
theorem two_data {x y : O} {P : List D → Prop} {Ex : String → Prop} (m : Mt (fzAll [x, y]) P Ex) : ∃ d e, x = .fz d ∧ y = .fz e ∧ P [d, e] := by
  cases x with
  | ol _ => exact m.elim
  | fz d =>
    cases y with
    | ol _ => exact m.elim
    | fz e => exact ⟨d, e, rfl, rfl, m⟩
theorem three_data {x y z : O} {P : List D → Prop} {Ex : String → Prop} (m : Mt (fzAll [x, y, z]) P Ex) : ∃ d e f, x = .fz d ∧ y = .fz e ∧ z = .fz f ∧ P [d, e, f] := by
  cases x with
  | ol _ => exact m.elim
  | fz d =>
    cases y with
    | ol _ => exact m.elim
    | fz e =>
      cases z with
      | ol _ => exact m.elim
      | fz f => exact ⟨d, e, f, rfl, rfl, rfl, m⟩
theorem tgTwo_inv {t : Tg} {i j : Nat} (h : tgTwo t = some (i, j)) : t = .cons (.n i) (.cons (.n j) .nil) := by
  unfold tgTwo at h
  split at h
  · cases h; rfl
  · cases h
theorem tgThree_inv {t : Tg} {i j l : Nat} (h : tgThree t = some (i, j, l)) : t = .cons (.n i) (.cons (.n j) (.cons (.n l) .nil)) := by
  unfold tgThree at h
  split at h
  · cases h; rfl
  · cases h
theorem put_n {i : Nat} {d : D} {g : Env} {P : Env → Prop} {Ex : String → Prop} (m : Mt ((Tg.n i).put d g) P Ex) : i < g.length ∧ P (g.set i (some (.fz d))) := by
  have m : Mt (if decide (i < g.length) = true then R.ok (g.set i (some (.fz d))) else .bad) P Ex := m
  obtain ⟨z, m⟩ := m.iteP
  exact ⟨of_decide_eq_true z, m⟩
theorem swap2_inv {i j : Nat} {ts vs : List Expr} (h : swap2 c i j ts vs = true) : ∃ x p y q a b, ts = [.Name x p, .Name y q] ∧ vs = [a, b] ∧ c.N[i]? = some x ∧ c.N[j]? = some y ∧ i ≠ j ∧ nkEq (c.sc.names.lookup x) .local = true ∧ nkEq (c.sc.names.lookup y) .local = true ∧ (p.line == q.line) = true ∧ (x == y) = false ∧
    plainX a = true ∧ plainX b = true ∧ (foldedForSure 8 a && foldedForSure 8 b) = false ∧ (constantsAlone 8 a && constantsAlone 8 b) = false := by
  unfold swap2 at h
  split at h
  · simp only [Bool.and_eq_true, decide_eq_true_eq, Bool.not_eq_true', beq_eq_false_iff_ne] at h
    obtain ⟨⟨⟨⟨⟨⟨⟨⟨⟨⟨h1, h2⟩, h3⟩, h4⟩, h5⟩, h6⟩, h7⟩, h8⟩, h9⟩, h10⟩, h11⟩ := h
    exact ⟨_, _, _, _, _, _, rfl, rfl, h1, h2, h3, h4, h5, h6, by simpa using h7, h8, h9, h10, h11⟩
  · cases h
theorem swap3_inv {i j l : Nat} {ts vs : List Expr} (h : swap3 c i j l ts vs = true) : ∃ x p y q z r a b d, ts = [.Name x p, .Name y q, .Name z r] ∧ vs = [a, b, d] ∧ c.N[i]? = some x ∧ c.N[j]? = some y ∧ c.N[l]? = some z ∧ i ≠ j ∧ i ≠ l ∧ j ≠ l ∧
    nkEq (c.sc.names.lookup x) .local = true ∧ nkEq (c.sc.names.lookup y) .local = true ∧ nkEq (c.sc.names.lookup z) .local = true ∧ (p.line == q.line) = true ∧ (p.line == r.line) = true ∧ (x == y) = false ∧ (x == z) = false ∧ (y == z) = false ∧
    plainX a = true ∧ plainX b = true ∧ plainX d = true ∧ (foldedForSure 8 a && (foldedForSure 8 b && foldedForSure 8 d)) = false ∧ (constantsAlone 8 a && (constantsAlone 8 b && constantsAlone 8 d)) = false := by
  unfold swap3 at h
  split at h
  · simp only [Bool.and_eq_true, decide_eq_true_eq, Bool.not_eq_true', beq_eq_false_iff_ne] at h
    obtain ⟨⟨⟨⟨⟨⟨⟨⟨⟨⟨⟨⟨⟨⟨⟨⟨⟨⟨h1, h2⟩, h3⟩, h4⟩, h5⟩, h6⟩, h7⟩, h8⟩, h9⟩, h10⟩, h11⟩, h12⟩, h13⟩, h14⟩, h15⟩, h16⟩, h17⟩, h18⟩, h19⟩ := h
    exact ⟨_, _, _, _, _, _, _, _, _, rfl, rfl, h1, h2, h3, h4, h5, h6, h7, h8, h9, h10, h11, by simpa using h12, by simpa using h13, by simpa using h14, h15, h16, h17, h18, h19⟩
  · cases h
/-- the plain way -/
theorem setT_tr {t : Tg} {e : E} : ∀ Dn σ H, tS X.K C cd N W (.setT t e) Dn σ H → tAsg (tE X.K C cd W e) (tG X.K t) Dn σ H := by
  intro Dn σ H ⟨B, own, g, S, m⟩
  have m := SPo.thn (r := E.ev cd e g >>= O.asD) m
  refine useD S m (fun c z => z.wp S) fun d v H1 m e1 r1 => ?_
  have m := SPo.thn (r := t.put d g) m
  exact ⟨B, own, g, d, S.same e1, r1, (m.noX put_noX).imp (fun g' _ m σ' own' S' p => m σ' own' H1 S' ((Evo.same e1).trans p.evo)) fun _ z => z⟩
theorem ss_setT (hs : CtxS C cd k X c kx W) {t : Tg} {e : E} {x : Stmt} (h : sB c kx (.setT t e) x = true) : PS X x (tS X.K C cd N W (.setT t e)) := by
  cases x with
  | Assign ys v pos =>
    match ys, h with
    | [y], h =>
      have h' : tgB c t y = true ∧ plainX v = true ∧ eB c e v = true ∧ setTB c t y v = true := by simpa [sB, and_assoc] using h
      obtain ⟨h1, h2, h3, h4⟩ := h'
      cases y with
      | Tuple ts k1 p1 =>
        have plain : swappedStores [.Tuple ts k1 p1] v X.env = pure none → PS X (.Assign [.Tuple ts k1 p1] v pos) (tS X.K C cd N W (.setT t e)) := fun hw =>
          PS.imp (ps_asg (e_snd e X c W v hs.c h3).pe (tg_snd hs.c t _ h1) (sole_other h2 fun y p q => by cases q) hw rfl) setT_tr
        cases v with
        | Tuple vs k2 p2 =>
          have hw4 : (noSwap c.sc ts vs || (match tgTwo t with
            | some (i, j) => swap2 c i j ts vs
            | none => match tgThree t with
              | some (i, j, l) => swap3 c i j l ts vs
              | none => false)) = true := h4
          by_cases hn : noSwap c.sc ts vs = true
          · exact plain (swapped_no (blk_fun hs) hs.c.sc hn)
          · rw [Bool.not_eq_true] at hn
            rw [hn, Bool.false_or] at hw4
            cases h2' : tgTwo t with
            | some ij =>
              obtain ⟨i, j⟩ := ij
              rw [h2'] at hw4
              have et := tgTwo_inv h2'
              subst et
              obtain ⟨x, p, y, q, a, b, rfl, rfl, g1, g2, g3, g4, g5, g6, g7, g8, g9, g10, g11⟩ := swap2_inv hw4
              obtain ⟨es, rfl⟩ : ∃ es, e = .tup es := by
                cases e <;> first | exact ⟨_, rfl⟩ | (exact absurd h3 Bool.false_ne_true) | (simp [eB, nameB] at h3)
              obtain ⟨xs, k3, p3, hx, f1, f2⟩ := tup_inv h3
              cases hx
              obtain ⟨ea, eb, rfl, fa, fb⟩ : ∃ ea eb, es = .cons ea (.cons eb .nil) ∧ eB c ea a = true ∧ eB c eb b = true := by
                cases es with
                | nil => simp [esB] at f2
                | cons ea es =>
                  obtain ⟨_, _, q1, _, q3, q4⟩ := es_inv f2
                  cases q1
                  cases es with
                  | nil => simp [esB] at q4
                  | cons eb es =>
                    obtain ⟨_, _, q1, _, q5, q6⟩ := es_inv q4
                    cases q1
                    cases es with
                    | nil => exact ⟨ea, eb, rfl, q3, q5⟩
                    | cons _ _ => simp [esB] at q6
              refine PS.imp (ps_par hs.c.calm hs.c.nd (by rw [hs.c.N]; exact g1) (by rw [hs.c.N]; exact g2) g3 (by rw [hs.c.sc]; exact nk g4) (by rw [hs.c.sc]; exact nk g5) (pa_cons (e_snd ea X c W a hs.c fa).pe (pa_cons (e_snd eb X c W b hs.c fb).pe pa_nil (star1 g9)) (star1 g8))
                (swapped_two (blk_fun hs) hs.c.sc g4 g5 g6 g7 g8 g9 g10 g11) (sole_other (by rfl) fun y p q => by cases q)) fun Dn σ H ⟨B, own, g, S, m⟩ => ?_
              have m := (SPo.thn (r := E.ev cd (.tup (.cons ea (.cons eb .nil))) g >>= O.asD) m).bind
              have m := m.bind
              have m := evo_two m
              refine useE S m (fun c z => z.wp S) fun o1 v1 H1 _ m e1 b1 _ => ?_
              refine useE (S.same e1) m (fun c z => (z.wp S).same e1) fun o2 v2 H2 _ m e2 b2 _ => ?_
              obtain ⟨d1, d2, rfl, rfl, m⟩ := two_data m.bind
              have m : SPo X.K C W B own H Dn (((Tg.cons (.n i) (.cons (.n j) .nil)).puts [d1, d2] g).thn g fun g => .nx g) := m
              have m := SPo.thn m
              rw [Tg.puts_cons] at m
              obtain ⟨q1, m⟩ := put_n m.bind
              rw [Tg.puts_cons] at m
              obtain ⟨q2, m⟩ := put_n m.bind
              refine ⟨v1, v2, rfl, ?_⟩
              have S2 := (S.same e1).same e2
              have r1 := b1.rd.evo (.same e2)
              have T1 := S2.put r1 q1
              have T2 := T1.put (b2.rd.evo (drop_evo i).av) q2
              exact m _ _ H2 T2 (((Evo.same (e1.trans e2)).trans (drop_evo i)).trans (drop_evo j))
            | none =>
              rw [h2'] at hw4
              cases h3' : tgThree t with
              | none => rw [h3'] at hw4; cases hw4
              | some ijl =>
                obtain ⟨i, j, l⟩ := ijl
                rw [h3'] at hw4
                have et := tgThree_inv h3'
                subst et
                obtain ⟨x, p, y, q, z, r, a, b, d, rfl, rfl, g1, g2, g2', g3, g3', g3'', g4, g5, g5', g6, g6', g7, g7', g7'', g8, g9, g9', g10, g11⟩ := swap3_inv hw4
                obtain ⟨es, rfl⟩ : ∃ es, e = .tup es := by
                  cases e <;> first | exact ⟨_, rfl⟩ | (exact absurd h3 Bool.false_ne_true) | (simp [eB, nameB] at h3)
                obtain ⟨xs, k3, p3, hx, f1, f2⟩ := tup_inv h3
                cases hx
                obtain ⟨ea, eb, ed, rfl, fa, fb, fd⟩ : ∃ ea eb ed, es = .cons ea (.cons eb (.cons ed .nil)) ∧ eB c ea a = true ∧ eB c eb b = true ∧ eB c ed d = true := by
                  cases es with
                  | nil => simp [esB] at f2
                  | cons ea es =>
                    obtain ⟨_, _, q1, _, q3, q4⟩ := es_inv f2
                    cases q1
                    cases es with
                    | nil => simp [esB] at q4
                    | cons eb es =>
                      obtain ⟨_, _, q1, _, q5, q6⟩ := es_inv q4
                      cases q1
                      cases es with
                      | nil => simp [esB] at q6
                      | cons ed es =>
                        obtain ⟨_, _, q1, _, q7, q8⟩ := es_inv q6
                        cases q1
                        cases es with
                        | nil => exact ⟨ea, eb, ed, rfl, q3, q5, q7⟩
                        | cons _ _ => simp [esB] at q8
                refine PS.imp (ps_par3 hs.c.calm hs.c.nd (by rw [hs.c.N]; exact g1) (by rw [hs.c.N]; exact g2) (by rw [hs.c.N]; exact g2') g3 g3' g3'' (by rw [hs.c.sc]; exact nk g4) (by rw [hs.c.sc]; exact nk g5) (by rw [hs.c.sc]; exact nk g5')
                  (pa_cons (e_snd ea X c W a hs.c fa).pe (pa_cons (e_snd eb X c W b hs.c fb).pe (pa_cons (e_snd ed X c W d hs.c fd).pe pa_nil (star1 g9')) (star1 g9)) (star1 g8))
                  (swapped_three (blk_fun hs) hs.c.sc g4 g5 g5' g6 g6' g7 g7' g7'' g8 g9 g9' g10 g11) (sole_other (by rfl) fun y p q => by cases q)) fun Dn σ H ⟨B, own, g, S, m⟩ => ?_
                have m := (SPo.thn (r := E.ev cd (.tup (.cons ea (.cons eb (.cons ed .nil)))) g >>= O.asD) m).bind
                have m := m.bind
                have m := evo_three m
                refine useE S m (fun c z => z.wp S) fun o1 v1 H1 _ m e1 b1 _ => ?_
                refine useE (S.same e1) m (fun c z => (z.wp S).same e1) fun o2 v2 H2 _ m e2 b2 _ => ?_
                refine useE ((S.same e1).same e2) m (fun c z => ((z.wp S).same e1).same e2) fun o3 v3 H3 _ m e3 b3 _ => ?_
                obtain ⟨d1, d2, d3, rfl, rfl, rfl, m⟩ := three_data m.bind
                have m : SPo X.K C W B own H Dn (((Tg.cons (.n i) (.cons (.n j) (.cons (.n l) .nil))).puts [d1, d2, d3] g).thn g fun g => .nx g) := m
                have m := SPo.thn m
                rw [Tg.puts_cons] at m
                obtain ⟨q1, m⟩ := put_n m.bind
                rw [Tg.puts_cons] at m
                obtain ⟨q2, m⟩ := put_n m.bind
                rw [Tg.puts_cons] at m
                obtain ⟨q3, m⟩ := put_n m.bind
                refine ⟨v1, v2, v3, rfl, ?_⟩
                have S3 := ((S.same e1).same e2).same e3
                have r1 := (b1.rd.evo (.same e2)).evo (.same e3)
                have r2 := b2.rd.evo (.same e3)
                have T1 := S3.put r1 q1
                have T2 := T1.put (r2.evo (drop_evo i).av) q2
                have T3 := T2.put ((b3.rd.evo (drop_evo i).av).evo (drop_evo j).av) q3
                exact m _ _ H3 T3 ((((Evo.same ((e1.trans e2).trans e3)).trans (drop_evo i)).trans (drop_evo j)).trans (drop_evo l))
        | _ => exact plain (by first | rfl | (simp [plainX] at h2))
      | _ => simp [setTB] at h4
    | [], h => simp [sB] at h
    | _ :: _ :: _, h => simp [sB] at h
  | _ => simp [sB] at h
end
end Q

set_option Elab.async false
set_option linter.all false
set_option maxRecDepth 100000
set_option maxHeartbeats 1000000
/-! SdP: return [x.pop(..) for ..], and the tuple of it. -/
namespace Q
open PySem PySem.Spec PyProof.Rows L2
section
variable {K : PySem.W.Frag} {B : Addr → Prop} {own : Nat → List Addr} {H H' : Hp} {σ : L2.St} {g : Env}
theorem SR.chg (S : SR K B own H σ g) (e : ∀ a o, H a = some o → ¬ B a → H' a = some o) (hB : ∀ a, B a → ∃ o, H' a = some o) : SR K B own H' σ g where
  len := S.len
  slot := fun i o h => by
    obtain ⟨v, h1, h2⟩ := S.slot i o h
    have ev : Evo (Av B own) H (Av B own) H' := fun a u h n => ⟨e a u h fun z => n (.inl z), n⟩
    exact ⟨v, h1, h2.keep ev fun a ha u q => e a u q (S.db i a ha)⟩
  emp := S.emp
  nd := S.nd
  dj := S.dj
  db := S.db
  b0 := hB
theorem av_hide {i : Nat} {p : Addr} (h : own i = [p]) : Av (fun a => B a ∨ a = p) (upo own i []) = Av B own := by
  funext a
  apply propext
  constructor
  · rintro ((z | z) | ⟨j, z⟩)
    · exact .inl z
    · subst z; exact .inr ⟨i, by rw [h]; simp⟩
    · by_cases e : j = i
      · subst e; rw [upo_same] at z; cases z
      · rw [upo_ne e] at z; exact .inr ⟨j, z⟩
  · rintro (z | ⟨j, z⟩)
    · exact .inl (.inl z)
    · by_cases e : j = i
      · subst e; rw [h] at z; exact .inl (.inr (by simpa using z))
      · exact .inr ⟨j, by rw [upo_ne e]; exact z⟩
/-- a slot's list is left to others -/
theorem SR.hide (S : SR K B own H σ g) {i : Nat} {os : List O} {ds : List D} (hg : g[i]? = some (some (.ol os))) (hf : fzAll os = .ok ds) :
    ∃ p vs, σ[i]? = some (some (.ref p)) ∧ own i = [p] ∧ H p = some (.lst vs) ∧ RDs K (Av B own) H vs ds ∧ SR K (fun a => B a ∨ a = p) (upo own i []) H σ (g.set i none) := by
  obtain ⟨v, h1, p, vs, r, rfl, h2, h3, h4⟩ := S.slot i _ hg
  obtain ⟨h5, _, rfl⟩ := h4.flat hf
  refine ⟨p, vs, h1, h2, h3, h5, ?_⟩
  have S0 := S.drop i
  refine ⟨S0.len, fun j o q => ?_, S0.emp, S0.nd, S0.dj, fun j a ha => ?_, fun a ha => ?_⟩
  · have hne : i ≠ j := by
      intro z
      subst z
      by_cases hl : i < g.length
      · rw [List.getElem?_set_self hl] at q; cases q
      · rw [List.getElem?_eq_none (by simpa using hl)] at q; cases q
    rw [List.getElem?_set_ne hne] at q
    obtain ⟨w, q1, q2⟩ := S.slot j o q
    refine ⟨w, q1, ?_⟩
    rw [av_hide h2, upo_ne (Ne.symm hne)]
    exact q2
  · by_cases e : j = i
    · subst e; rw [upo_same] at ha; cases ha
    · rw [upo_ne e] at ha
      rintro (z | z)
      · exact S.db j a ha z
      · subst z
        exact e (S.dj j i a ha (by rw [h2]; simp))
  · rcases ha with z | z
    · exact S.b0 a z
    · subst z; exact ⟨_, h3⟩
theorem RDs.erase : ∀ {vs : List V} {ds : List D} (k : Nat), RDs K B H vs ds → RDs K B H (vs.eraseIdx k) (ds.eraseIdx k)
  | _, _, _, .nil => .nil
  | _, _, 0, .cons _ r => r
  | _, _, k + 1, .cons h r => .cons h (RDs.erase k r)
end
section
variable {C : String → Addr} {cd : String → List D → R D} {k N : Nat} {X : Cx} {c : Sc} {kx : String → Bool} {W : WX}
theorem popc_tr {tg : Tg} {vs : List Nat} {it : It} {x : E} {i : Nat} (hsl : ∀ j ∈ tg.slots, j ∈ vs) (hi : i ∉ vs) {σ : L2.St} {H : Hp} {B : Addr → Prop} {own : Nat → List Addr} {g : Env} {Q : VK} (S : SR X.K B own H σ g)
    (m : Mt (It.evi cd it g) (fun ds => szOk ds.length = true ∧ ∃ os xs r, g[i]? = some (some (.ol os)) ∧ fzAll os = .ok xs ∧ szOk xs.length = true ∧ popL (popF cd tg vs x) xs ds (g.set i none) = .ok r ∧
      ∀ L acc H', Evo (Ow own) H (Ow own) H' → H' L = some (.lst acc) → ¬ Av B own L → RDs X.K (Av B own) H' acc r → acc.length ≤ 1000000 → Q (.ref L) H') (WP C W σ H)) :
    tLc (tI X.K C cd W it) (tG X.K tg) (tK X.K C cd .no) (tBM X.K "list" rPopAt (tVar i) (tCons (tE X.K C cd W0 x) tNil)) vs σ H Q := by
  refine ⟨B, own, g, S, m.imp (fun ds _ m J H1 G Y e1 wk iok L hL => ?_) fun _ z => z⟩
  obtain ⟨hz, os, xs, r, hg, hf, hz2, hr, fin⟩ := m
  have S1 := S.same e1
  obtain ⟨p, ws0, t1, t2, t3, t4, SH⟩ := S1.hide hg hf
  have nL : ¬ Av B own L := S1.fresh hL
  have pA : Av B own p := .inr ⟨i, by rw [t2]; simp⟩
  have pL : p ≠ L := fun z => by subst z; rw [hL] at t3; cases t3
  have hz' : ds.length ≤ 1000000 := of_decide_eq_true hz
  have hx' : xs.length ≤ 1000000 := of_decide_eq_true hz2
  have aH : Av (fun a => B a ∨ a = p) (upo own i []) = Av B own := av_hide t2
  have kept : ∀ H', (∀ a o, H1 a = some o → a ≠ p → H' a = some o) → Evo (Av B own) H1 (fun a => Av B own a ∨ a = L) H' := fun H' e a o h n =>
    ⟨e a o h fun z => n (by rw [z]; exact pA), fun z => z.elim n fun z => by subst z; rw [hL] at h; cases h⟩
  refine lc_it wk (fun j H' => ∃ rs acc ws xs' rest, (∀ a o, H1 a = some o → a ≠ p → H' a = some o) ∧ H' p = some (.lst ws) ∧ RDs X.K (fun a => Av B own a ∨ a = L) H' ws xs' ∧ xs'.length ≤ xs.length ∧ H' L = some (.lst acc) ∧ RDs X.K (fun a => Av B own a ∨ a = L) H' acc rs ∧ rs.length ≤ j ∧
      popL (popF cd tg vs x) xs' (ds.drop j) (g.set i none) = .ok rest ∧ r = rs ++ rest)
    ⟨[], [], ws0, xs, r, fun a o h _ => same_new hL a o h, same_new hL _ _ t3, (t4.evo (.fresh hL)).evo (.same (same_new hL)), Nat.le_refl _, upd_same, .nil, Nat.le_refl _, by simpa using hr, rfl⟩
    (fun j H' hj ⟨rs, acc, ws, xs', rest, s1, h2, h3, h4, h5, h6, h7, h8, h9⟩ => iok.stands _ H' (kept H' s1)) (fun j y H2 H3 hj ⟨rs, acc, ws, xs', rest, s1, h2, h3, h4, h5, h6, h7, h8, h9⟩ hy => ?_) (fun H' ⟨rs, acc, ws, xs', rest, s1, h2, h3, h4, h5, h6, h7, h8, h9⟩ => ?_)
  · have hd : ds[j]? = some ds[j] := List.getElem?_eq_getElem hj
    have inA : ∀ a, (Av B own a ∨ a = L) → ∃ o, H2 a = some o := fun a z => by
      rcases z with z | z
      · by_cases e : a = p
        · subst e; exact ⟨_, h2⟩
        · obtain ⟨o, q⟩ := S1.inH' z
          exact ⟨o, s1 a o q e⟩
      · subst z; exact ⟨_, h5⟩
    obtain ⟨s3, rx⟩ := iok.gives j ds[j] _ H2 y H3 hd (kept H2 s1) inA hy
    have SI := (SH.inner (H' := upd H1 L (.lst [])) vs (same_new hL) hL ⟨_, upd_same⟩).chg (H' := H3) (fun a o h n => by
      have n1 : a ≠ L := fun z => n (.inr (.inr z))
      have n2 : a ≠ p := fun z => n (.inl (.inr z))
      rw [upd_ne n1] at h
      exact s3 a o (s1 a o h n2)) (fun a z => by
      have : Av B own a ∨ a = L := by
        rcases z with z | ⟨j', hj', z⟩ | z
        · left; rw [← aH]; exact .inl z
        · left; rw [← aH]; exact .inr ⟨j', z⟩
        · exact .inr z
      obtain ⟨o, q⟩ := inA a this
      exact ⟨o, s3 a o q⟩)
    have av := av_in (B := fun a => B a ∨ a = p) (own := upo own i []) (vs := vs) (p := L)
    rw [aH] at av
    rw [← av] at rx
    rw [List.drop_eq_getElem_cons hj] at h8
    have mt : Mt (popF cd tg vs x ds[j] (g.set i none)) (fun z => ∃ k' w rest', ixN xs'.length z = some k' ∧ xs'[k']? = some w ∧ popL (popF cd tg vs x) (xs'.eraseIdx k') (ds.drop (j + 1)) (g.set i none) = .ok rest' ∧ rest = w :: rest') (fun _ => False) := by
      unfold popL at h8
      cases q : popF cd tg vs x ds[j] (g.set i none) with
      | exc c => rw [q] at h8; cases h8
      | bad => rw [q] at h8; cases h8
      | ok z =>
        rw [q] at h8
        simp only at h8
        cases q1 : ixN xs'.length z with
        | none => rw [q1] at h8; cases h8
        | some k' =>
          rw [q1] at h8
          simp only at h8
          cases q2 : xs'[k']? with
          | none => rw [q2] at h8; cases h8
          | some w =>
            rw [q2] at h8
            simp only at h8
            cases q3 : popL (popF cd tg vs x) (xs'.eraseIdx k') (ds.drop (j + 1)) (g.set i none) with
            | exc c => rw [q3] at h8; cases h8
            | bad => rw [q3] at h8; cases h8
            | ok rest' =>
              rw [q3] at h8
              cases h8
              exact ⟨k', w, rest', q1, q2, q3, rfl⟩
    unfold popF at mt
    refine ⟨_, _, _, ds[j], SI, rx, mt.bind.imp (fun g1 _ mt σ2 own2 S2 p2 => ⟨?_, ?_⟩) fun _ z => z.elim⟩
    · rw [p2.wipe _ hsl, wipe_wipe]
    · have hw : L2.wipe σ2 vs = L2.wipe σ vs := by rw [p2.wipe _ hsl, wipe_wipe]
      have hσ : σ2[i]? = some (some (.ref p)) := by
        have q : (L2.wipe σ2 vs)[i]? = (L2.wipe σ vs)[i]? := by rw [hw]
        rw [wipe_get, wipe_get, if_neg hi, if_neg hi, t1] at q
        exact q
      have av2 : Av (Bin (fun a => B a ∨ a = p) (upo own i []) vs L) own2 = fun a => Av B own a ∨ a = L := by
        rw [← av]
        funext a
        apply propext
        constructor
        · rintro (z | z)
          · exact .inl z
          · exact .inr (p2.ow a z)
        · rintro (z | z)
          · exact .inl z
          · rcases p2.kept a z with z | ⟨j', hj', z⟩
            · exact .inr z
            · unfold owi at z
              rw [if_pos (hsl j' hj')] at z
              cases z
      refine ⟨_, own2, g1, S2, fun H4 s4 => iteT ?_⟩
      have f4 := s4 _ _ (s3 _ _ h2)
      refine ⟨_, hσ, .inl ⟨rfl, ws, .inl (.inl f4)⟩, ?_⟩
      refine useD (S2.same s4) mt.bind (fun _ z => z.elim) fun d u H5 mt s5 ru => ?_
      obtain ⟨z, rfl, mt⟩ := mt.asInt
      cases ru
      obtain ⟨k', w, rest', q1, q2, q3, q4⟩ := mt
      have r5 : Same H2 H5 := (s3.trans s4).trans s5
      have ws5 := h3.evo (.same r5)
      have acc5 := h6.evo (.same r5)
      obtain ⟨vy, y1, y2⟩ := ws5.get q2
      have el : ws.length = xs'.length := ws5.length
      obtain ⟨c1, c2, c3, c4⟩ := ixN_seq q1
      refine ⟨p, ws, z, k', vy, rfl, rfl, s5 _ _ f4, by omega, by omega, by rw [el]; exact c1, y1, acc, ?_, ?_, rs ++ [w], acc ++ [vy], ws.eraseIdx k', xs'.eraseIdx k', rest', fun a o h n => ?_, ?_, ?_, ?_, upd_same, ?_, by simp; omega, q3, by rw [h9, q4]; simp⟩
      · rw [upd_ne (Ne.symm pL)]; exact r5 _ _ h5
      · have := acc5.length; rw [this, sizeLine_eq]; omega
      · have n1 : a ≠ L := fun z => by subst z; rw [hL] at h; cases h
        rw [upd_ne n1, upd_ne n]
        exact r5 a o (s1 a o h n)
      · rw [upd_ne pL, upd_same]
      · have u1 : Evo (fun a => Av B own a ∨ a = L) H5 (fun a => Av B own a ∨ a = L) (upd (upd H5 p (.lst (ws.eraseIdx k'))) L (.lst (acc ++ [vy]))) := (Evo.upd (.inl pA)).trans (.upd (.inr rfl))
        exact (ws5.erase k').evo u1
      · rw [List.length_eraseIdx]
        split <;> omega
      · have u1 : Evo (fun a => Av B own a ∨ a = L) H5 (fun a => Av B own a ∨ a = L) (upd (upd H5 p (.lst (ws.eraseIdx k'))) L (.lst (acc ++ [vy]))) := (Evo.upd (.inl pA)).trans (.upd (.inr rfl))
        exact (acc5.evo u1).append (.cons (y2.evo u1) .nil)
  · rw [List.drop_length] at h8
    unfold popL at h8
    cases h8
    rw [List.append_nil] at h9
    subst h9
    refine fin L acc H' (fun a o h n => ⟨s1 a o (e1 a o h) (fun z => n (by rw [z]; exact ⟨i, by rw [t2]; simp⟩)), n⟩) h5 nL (h6.evo (.sub fun a z => .inl z)) ?_
    rw [h6.length]; omega
theorem popB_inv {i : Nat} {e : E} {tg : Tg} {own : List (String × Nat)} {it : It} {x : Expr} (h : popB c i e tg own it x = true) :
    ∃ y p v q t iter scope pos, x = .ListComp (.Call (.Attribute y (Str.ofString "pop") p) [v] [] q) [⟨t, iter, [], 0⟩] scope pos ∧ (p.endLine == q.line) = true ∧ (∀ j ∈ tg.slots, j ∈ own.map (·.2)) ∧ i ∉ own.map (·.2) ∧ notO it = true ∧ (needT it = true → tupX t = true) ∧ itB c it iter = true ∧
      blkC c.N c.sc scope (own.map fun p => (Str.ofString p.1, p.2)) = true ∧ tgB (c.in_ scope) tg t = true ∧ nameB (c.in_ scope) i y = true ∧ plainX v = true ∧ eB (c.in_ scope) e v = true := by
  unfold popB at h
  split at h
  · rename_i y m p v q g scope pos
    obtain ⟨t, iter, ifs, n⟩ := g
    simp only [Bool.and_eq_true, decide_eq_true_eq] at h
    obtain ⟨⟨⟨⟨⟨⟨⟨⟨⟨⟨⟨⟨⟨h1, h2⟩, h3⟩, h4⟩, h5⟩, h0⟩, h6⟩, h7⟩, h8⟩, h9⟩, h10⟩, h11⟩, h12⟩, h13⟩ := h
    subst h1 h3
    obtain rfl : ifs = [] := by simpa using h10
    exact ⟨y, p, v, q, t, iter, scope, pos, rfl, h2, fun i hi => by simpa using List.all_eq_true.mp h4 i hi, by simpa using h5, h0, fun z => by simpa [z] using h6, h7, h8, h9, h11, h12, h13⟩
  · cases h
theorem popL_noX {f : D → Env → R Int} : ∀ (ds xs : List D) (g : Env) (n : String), popL f xs ds g ≠ .exc n
  | [], xs, g, n => by
    unfold popL
    exact fun h => nomatch h
  | d :: ds, xs, g, n => by
    unfold popL
    cases f d g with
    | ok z =>
      simp only
      cases ixN xs.length z with
      | none => exact fun h => nomatch h
      | some j =>
        simp only
        cases xs[j]? with
        | none => exact fun h => nomatch h
        | some x =>
          simp only
          cases h : popL f (xs.eraseIdx j) ds g with
          | ok r => exact fun h => nomatch h
          | bad => exact fun h => nomatch h
          | exc c => exact absurd h (popL_noX ds _ g c)
    | exc c => exact fun h => nomatch h
    | bad => exact fun h => nomatch h
theorem pe_pop (hc : Ctx C cd k X c W) {i : Nat} {e : E} {tg : Tg} {own : List (String × Nat)} {it : It} {x : Expr} (h : popB c i e tg own it x = true) :
    PE X x (tLc (tI X.K C cd W it) (tG X.K tg) (tK X.K C cd .no) (tBM X.K "list" rPopAt (tVar i) (tCons (tE X.K C cd W0 e) tNil)) (own.map (·.2))) ∧ (∀ j ∈ tg.slots, j ∈ own.map (·.2)) ∧ i ∉ own.map (·.2) ∧ ∃ a b d f, x = .ListComp a b d f := by
  obtain ⟨y, p, v, q, t, iter, scope, pos, rfl, h1, h2, h3, h0, h4, h5, h6, h7, h8, h9, h10⟩ := popB_inv h
  have ok := blkOk_by h6
  rw [← hc.N, ← hc.sc] at ok
  have em : (own.map fun p => (Str.ofString p.1, p.2)).map (·.2) = own.map (·.2) := by simp
  refine ⟨?_, h2, h3, _, _, _, _, rfl⟩
  rw [← em]
  refine pe_lc (g := tG X.K tg) (tt := tK X.K C cd .no) (te := tBM X.K "list" rPopAt (tVar i) (tCons (tE X.K C cd W0 e) tNil)) hc.calm hc.nd (it_snd it X c W iter t hc h0 h5 h4) ok (fun s H C' cl fp => tg_snd (hc.blk s H scope C' cl fp) tg t h7) (fun s H C' cl fp => sn_os_no (c := c) rfl) (fun s H C' cl fp => ?_) (noFoldI h5)
  have hb := hc.blk s H scope C' cl fp
  exact pe_bm PySem.F.plainAttrs_list PySem.F.slot_list_pop PySem.F.type_list_pop mt_popAt (pe_slotC hb h8) (pa_cons (e_snd e _ _ _ v hb h10).pe pa_nil (star1 h9)) (attr_name h8) (few_one h9) h1 (star1 h9) rfl
theorem popc_use {tg : Tg} {own' : List (String × Nat)} {it : It} {e : E} {i : Nat} {tup : Bool} {Dn : Ends} {σ : L2.St} {H : Hp} {B : Addr → Prop} {own : Nat → List Addr} {g : Env} {Q : VK} (hsl : ∀ j ∈ tg.slots, j ∈ own'.map (·.2)) (hi : i ∉ own'.map (·.2)) (S : SR X.K B own H σ g)
    (m : SPo X.K C W B own H Dn (_root_.Q.S.ex cd N (.popc tup i e tg own' it) g))
    (fin : ∀ r L acc H', SPo X.K C W B own H Dn (.rt (if tup then .tuple r else .list r)) → Evo (Ow own) H (Ow own) H' → H' L = some (.lst acc) → ¬ Av B own L → RDs X.K (Av B own) H' acc r → acc.length ≤ 1000000 → Q (.ref L) H') :
    tLc (tI X.K C cd W it) (tG X.K tg) (tK X.K C cd .no) (tBM X.K "list" rPopAt (tVar i) (tCons (tE X.K C cd W0 e) tNil)) (own'.map (·.2)) σ H Q := by
  have m := SPo.thn (r := It.evi cd it g) m
  refine popc_tr hsl hi S (m.imp (fun ds _ m => ?_) fun c z => z.wp S)
  obtain ⟨z1, m⟩ := sz_inv m
  have m := SPo.thn (r := slotL g i) m
  obtain ⟨os, hg, m⟩ := slotL_inv m
  have m := SPo.thn (r := fzAll os) m
  cases hf : fzAll os with
  | exc c =>
    exfalso
    have : ∀ os : List O, ∀ c, fzAll os ≠ .exc c := by
      intro os
      induction os with
      | nil => exact fun c h => nomatch h
      | cons o os ih =>
        intro c
        cases o with
        | fz d =>
          rw [show fzAll (O.fz d :: os) = (fzAll os >>= fun ds => R.ok (d :: ds)) from rfl]
          cases q : fzAll os with
          | ok ds => exact fun h => nomatch h
          | exc c => exact absurd q (ih c)
          | bad => exact fun h => nomatch h
        | ol _ => exact fun h => nomatch h
    exact this os c hf
  | bad => rw [hf] at m; exact m.elim
  | ok xs =>
    rw [hf] at m
    obtain ⟨z2, m⟩ := sz_inv (show SPo X.K C W B own H Dn (if szOk xs.length then _ else .bad) from m)
    have m := SPo.thn (r := popL (popF cd tg (own'.map (·.2)) e) xs ds (g.set i none)) m
    cases hr : popL (popF cd tg (own'.map (·.2)) e) xs ds (g.set i none) with
    | exc c => exact absurd hr (popL_noX _ _ _ _)
    | bad => rw [hr] at m; exact m.elim
    | ok r =>
      rw [hr] at m
      exact ⟨decide_eq_true z1, os, xs, r, hg, hf, decide_eq_true z2, hr, fun L acc H' => fin r L acc H' m⟩
theorem ss_popc (hs : CtxS C cd k X c kx W) {tup : Bool} {i : Nat} {e : E} {tg : Tg} {own : List (String × Nat)} {it : It} {x : Stmt} (h : sB c kx (.popc tup i e tg own it) x = true) : PS X x (tS X.K C cd N W (.popc tup i e tg own it)) := by
  cases x with
  | Return v pos =>
    cases v with
    | none => simp [sB] at h
    | some v =>
      cases tup with
      | false =>
        have hp : popB c i e tg own it v = true := by
          cases v <;> first | (simpa [sB] using h) | (simp [sB] at h)
        obtain ⟨pe, h1, h2, _⟩ := pe_pop hs.c hp
        refine PS.imp (ps_ret pe) fun Dn σ H ⟨B, ow, g, S, m⟩ => ?_
        refine popc_use h1 h2 S m fun r L acc H' m ev hL nL rd _ => ?_
        have m : ∀ v own' H', Evo (Ow ow) H (Ow own') H' → RD X.K B H' v (.list r) → Dn.rt v H' := m
        exact m _ ow H' ev (.lst hL (fun z => nL (.inl z)) (rd.evo (.sub fun a z => .inl z)))
      | true =>
        have hx : ∃ w y q, v = .Call w [y] [] q ∧ glName c "tuple" w = true ∧ popB c i e tg own it y = true := by
          cases v with
          | Call w ys kws q =>
            match ys, kws, h with
            | [y], [], h =>
              have h' : glName c "tuple" w = true ∧ popB c i e tg own it y = true := by simpa [sB] using h
              exact ⟨_, _, _, rfl, h'⟩
            | [], _, h => simp [sB] at h
            | [_], _ :: _, h => simp [sB] at h
            | _ :: _ :: _, _, h => simp [sB] at h
          | _ => simp [sB] at h
        obtain ⟨w, y, q, rfl, h3, h4⟩ := hx
        obtain ⟨pe, h1, h2, a, b, d, f, rfl⟩ := pe_pop hs.c h4
        obtain ⟨p, rfl, g1, g2⟩ := glName_inv h3
        refine PS.imp (ps_ret (pe_tupleOf (hs.c.gl g1) (hs.c.glb.free _ (by decide)) pe (by rfl))) fun Dn σ H ⟨B, ow, g, S, m⟩ => ?_
        refine popc_use (Q := fun x H1 => kTup X.K x H1 Dn.rt) h1 h2 S m fun r L acc H' m ev hL nL rd _ => ?_
        have m : ∀ v own' H', Evo (Ow ow) H (Ow own') H' → RD X.K B H' v (.tuple r) → Dn.rt v H' := m
        refine .inl ⟨L, acc, rfl, SqL.of hL, fun t ht => ?_⟩
        have ev2 : Evo (Ow ow) H (Ow ow) (upd H' t (.tup acc)) := ev.trans (.same (same_new ht))
        have nt : ¬ B t := fun z => by
          obtain ⟨o, u⟩ := S.b0 t z
          have := (ev t o u fun ⟨j, hj⟩ => S.db j t hj z).1
          rw [ht] at this; cases this
        exact m _ ow _ ev2 (.tup upd_same nt ((rd.evo (.sub fun a z => .inl z)).evo (.same (same_new ht))))
  | _ => simp [sB] at h
end
end Q

set_option Elab.async false
set_option linter.all false
set_option maxRecDepth 100000
set_option maxHeartbeats 1000000
/-! Sd13: every statement, every def, the table of defs. -/
namespace Q
open PySem PySem.Spec PyProof.Rows L2
section
variable {C : String → Addr} {cd : String → List D → R D} {k N : Nat} {X : Cx} {c : Sc} {kx : String → Bool} {W : WX}
theorem ifS_inv {t : E} {a b : Ss} {x : Stmt} (h : sB c kx (.ite t a b) x = true) : ∃ w y z p, x = .If w y z p ∧ testX w = true ∧ eB c t w = true ∧ ssB c kx a y = true ∧ ssB c kx b z = true := by
  cases x <;> first | (simp [sB] at h; done) | skip
  simp only [sB, Bool.and_eq_true] at h
  exact ⟨_, _, _, _, rfl, h.1.1.1, h.1.1.2, h.1.2, h.2⟩
theorem for_inv {t : Tg} {it : It} {b : Ss} {clr : List Nat} {x : Stmt} (h : sB c kx (.for_ t it b clr) x = true) : ∃ y z w p, x = .For y z w [] p ∧ notO it = true ∧ (needT it = true → tupX y = true) ∧ tgB c t y = true ∧ itB c it z = true ∧ ssB c kx b w = true := by
  cases x with
  | For y z w o p =>
    cases o with
    | nil =>
      simp only [sB, Bool.and_eq_true, Bool.or_eq_true, Bool.not_eq_true'] at h
      exact ⟨_, _, _, _, rfl, h.1.1.1.1, fun q => h.1.1.1.2.resolve_left (by rw [q]; decide), h.1.1.2, h.1.2, h.2⟩
    | cons _ _ => simp [sB] at h
  | _ => simp [sB] at h
theorem while_inv {t : E} {b : Ss} {clr : List Nat} {x : Stmt} (h : sB c kx (.while_ t b clr) x = true) : ∃ w y p, x = .While w y [] p ∧ testX w = true ∧ eB c t w = true ∧ ssB c kx b y = true := by
  cases x with
  | While w y o p =>
    cases o with
    | nil =>
      simp only [sB, Bool.and_eq_true] at h
      exact ⟨_, _, _, rfl, h.1.1, h.1.2, h.2⟩
    | cons _ _ => simp [sB] at h
  | _ => simp [sB] at h
theorem cons_inv {s : S} {ss : Ss} {xs : List Stmt} (h : ssB c kx (.cons s ss) xs = true) : ∃ y ys, xs = y :: ys ∧ sB c kx s y = true ∧ ssB c kx ss ys = true := by
  cases xs with
  | nil => simp [ssB] at h
  | cons y ys =>
    simp only [ssB, Bool.and_eq_true] at h
    exact ⟨_, _, rfl, h.1, h.2⟩
mutual
theorem s_snd (hs : CtxS C cd k X c kx W) : ∀ (s : S) (x : Stmt), sB c kx s x = true → PS X x (tS X.K C cd N W s)
  | .set i fr e, x, h => ss_set hs h
  | .setT t e, x, h => ss_setT hs h
  | .setI i b e, x, h => ss_setI hs h
  | .setJ i a b e, x, h => ss_setJ hs h
  | .app i fr e, x, h => ss_app hs h
  | .ext i e, x, h => ss_ext hs h
  | .ret e, x, h => ss_ret hs h
  | .ite t a b, x, h => by
    obtain ⟨w, y, z, q, rfl, h1, h2, h3, h4⟩ := ifS_inv h
    exact ss_ite hs h1 h2 (ss_snd hs a y h3) (ss_snd hs b z h4)
  | .for_ t it b clr, x, h => by
    obtain ⟨y, z, w, q, rfl, h0, h1, h2, h3, h4⟩ := for_inv h
    exact ss_for hs h0 h1 h2 h3 (ss_snd hs b w h4)
  | .while_ t b clr, x, h => by
    obtain ⟨w, y, q, rfl, h1, h2, h3⟩ := while_inv h
    exact ss_while hs h1 h2 (ss_snd hs b y h3)
  | .exp e, x, h => ss_exp hs h
  | .pass, x, h => ss_pass h
  | .brk, x, h => ss_brk h
  | .cnt, x, h => ss_cnt h
  | .rais n, x, h => ss_rais hs h
  | .popc .., x, h => ss_popc hs h
theorem ss_snd (hs : CtxS C cd k X c kx W) : ∀ (ss : Ss) (xs : List Stmt), ssB c kx ss xs = true → PSs X xs (tSs X.K C cd N W ss)
  | .nil, xs, h => ss_nil h
  | .cons s ss, xs, h => by
    obtain ⟨y, ys, rfl, h1, h2⟩ := cons_inv h
    exact ss_cons (s_snd hs s y h1) (ss_snd hs ss ys h2)
  | .frz i ss, xs, h => ss_frz (ss_snd hs ss xs h)
end
end

/-! ### a def -/
theorem sr_start {K : PySem.W.Frag} {B : Addr → Prop} {H : Hp} {N : List Str} {m : Nat} {vs : List V} {ds : List D} (hm : N.length = m) (hB : ∀ a, B a → ∃ o, H a = some o) (r : RDs K B H vs ds) :
    SR K B (fun _ => []) H (L2.start N vs) (ds.map (fun d => some (O.fz d)) ++ List.replicate (m - ds.length) none) where
  len := by
    unfold L2.start
    simp [r.length, hm]
  slot := fun i o h => by
    have hi : i < ds.length := by
      by_cases hi : i < ds.length
      · exact hi
      · rw [List.getElem?_append_right (by simpa using hi), List.getElem?_replicate] at h
        split at h <;> cases h
    rw [List.getElem?_append_left (by simpa using hi), List.getElem?_map] at h
    cases e : ds[i]? with
    | none => rw [e] at h; cases h
    | some d =>
      rw [e] at h
      cases h
      obtain ⟨v, h1, h2⟩ := r.get e
      refine ⟨v, ?_, h2.evo (.sub fun a z => z.elim id fun ⟨j, z⟩ => nomatch z), rfl⟩
      unfold L2.start
      rw [List.getElem?_append_left (by simpa [r.length] using hi), List.getElem?_map, h1]
      rfl
  emp := fun _ _ => rfl
  nd := fun _ => List.nodup_nil
  dj := fun i j a h => nomatch h
  db := fun i a h => nomatch h
  b0 := hB
theorem noOwn : ∀ a, ¬ Ow (fun _ => []) a := fun a ⟨i, h⟩ => nomatch h
theorem evo_same {own : Nat → List Addr} {H H' : Hp} (e : Evo (Ow fun _ => []) H (Ow own) H') : Same H H' := fun a o h => (e a o h (noOwn a)).1

section
variable {P : Program} {w : World} {K : PySem.W.Frag} {mg : Str → Option Value} {base : Heap} {x qual : Str} {params : Arguments} {body : List Stmt} {scope : Scope} {a : Addr} {fd : FuncData} {C : String → Addr} {cd : String → List D → R D} {kn kx : String → Bool} {k N : Nat}
theorem def_ok {F : Fn} {f : String} {cd' : String → List D → R D} {ps : List Str} (FD : FunD K x qual params body scope [] [] a fd) (S : FnScope (F.names.map Str.ofString) ps scope) (hp : ps.length = F.np)
    (chk : ssB ⟨F.names.map Str.ofString, scope, fun _ => true, kn⟩ kx F.body body = true) (G : Glb C cd kn k P w K mg base) (hX : ∀ n, kx n = true → ExcOk K mg C n) (hT : ∀ ds, cd' f ds = F.run cd N ds) :
    FnOk P w K mg base (L2.CX P w) (k + 1) a fd ps (spF K C cd' f) := by
  refine FD.ok S (fun vs H Q E ⟨B, ds, _, r, m⟩ => ?_) fun cdv A outer s H vs Q E hr ⟨B, ds, hB, r, m⟩ => ?_
  · rw [hT] at m
    unfold Fn.run at m
    by_cases hl : ds.length = F.np
    · rw [r.length, hl, hp]
    · rw [if_neg hl] at m
      exact m.elim
  · rw [hT] at m
    unfold Fn.run at m
    by_cases hl : ds.length = F.np
    · rw [if_pos hl] at m
      have tk : Takes (cxOf (L2.CX P w) P w K mg base (F.names.map Str.ofString) qual scope a cdv A outer s H E) (fun cls d _ H => E cls d H) := takes_of rfl rfl rfl rfl
      have hc : CtxS C cd k (cxOf (L2.CX P w) P w K mg base (F.names.map Str.ofString) qual scope a cdv A outer s H E) ⟨F.names.map Str.ofString, scope, fun _ => true, kn⟩ kx (fun cls d _ H => E cls d H) :=
        ⟨⟨rfl, S.nd, rfl, rfl, hr, fun _ _ => rfl, tk, G⟩, S.kind, passes_of rfl, hX⟩
      refine ⟨_, ss_snd (N := N) hc F.body body chk, B, fun _ => [], _, sr_start (m := F.names.length) (by simp) hB r, ?_⟩
      cases e : Ss.exs cd N F.body (ds.map (fun d => some (O.fz d)) ++ List.replicate (F.names.length - ds.length) none) with
      | nx g =>
        rw [e] at m
        exact fun σ' own' H' _ ev => m .non H' (evo_same ev) .non
      | rt d =>
        rw [e] at m
        exact fun v own' H' ev rd => m v H' (evo_same ev) rd
      | exc c g =>
        rw [e] at m
        exact fun σ' own' H' _ ev => m H' (evo_same ev)
      | _ => rw [e] at m; exact m.elim
    · rw [if_neg hl] at m
      exact m.elim
end

/-! ### the table -/
/-- a def: its name, the small language's text, its parameters, its place in the row's top -/
structure Df where
  name : String
  ps : List String
  fn : Fn
  at_ : Nat
def Df.lk (L : List Df) (f : String) : Option Fn := (L.find? fun d => d.name == f).map (·.fn)
def Df.kn (L : List Df) (f : String) : Bool := (L.find? fun d => d.name == f).isSome
def scopeB (N ps : List Str) (sc : Scope) : Bool :=
  decide (sc.kind = .function) && sc.isCoroutine == false && sc.isGenerator == false && decide N.Nodup && decide (N.take ps.length = ps) && ps.all (fun x => nkEq (sc.names.lookup x) .local || nkEq (sc.names.lookup x) .cell) && sc.names.all (fun y => decide (y.2 ≠ .free))
theorem scopeB_ok {N ps : List Str} {sc : Scope} (h : scopeB N ps sc = true) : FnScope N ps sc := by
  unfold scopeB at h
  simp only [Bool.and_eq_true, decide_eq_true_eq, beq_iff_eq, List.all_eq_true, Bool.or_eq_true] at h
  obtain ⟨⟨⟨⟨⟨⟨h1, h2⟩, h3⟩, h4⟩, h5⟩, h6⟩, h7⟩ := h
  exact ⟨h1, h2, h3, h4, h5, fun x hx => (h6 x hx).imp nk nk, h7⟩
def Df.chk (kn kx : String → Bool) (body : List Stmt) (sc : Scope) (d : Df) : Bool :=
  scopeB (d.fn.names.map Str.ofString) (d.ps.map Str.ofString) sc && decide (d.ps.length = d.fn.np) && ssB ⟨d.fn.names.map Str.ofString, sc, fun _ => true, kn⟩ kx d.fn.body body
section
variable {P : Program} {w : World} {K : PySem.W.Frag} {mg : Str → Option Value} {base : Heap} {C : String → Addr} {kx : String → Bool} {N : Nat} {L : List Df} {top : Nat → Stmt}
/-- the module as it stands -/
structure Mod (P : Program) (w : World) (K : PySem.W.Frag) (mg : Str → Option Value) (C : String → Addr) (kx : String → Bool) (L : List Df) (top : Nat → Stmt) : Prop where
  free : ∀ x ∈ bnames, mg x = none
  exc : ∀ n, kx n = true → ExcOk K mg C n
  defs : ∀ d ∈ L, ∃ a fd, mg (Str.ofString d.name) = some (.ref a) ∧ FunD K (Str.ofString d.name) (Str.ofString d.name) (defArgs (top d.at_)) (defBody (top d.at_)) (defScope (top d.at_)) [] [] a fd
  bnd : ∀ d ∈ L, ∀ (kV doc pm : Value) (an : Option Addr) (cdv ct : Value) (us : List Value), us.length = (d.ps.map Str.ofString).length →
    bindArgs (PySem.W.fnOf (Str.ofString d.name) (Str.ofString d.name) (defArgs (top d.at_)) (defBody (top d.at_)) (defScope (top d.at_)) .none kV doc pm an cdv ct) ⟨us, []⟩ = pure ((d.ps.map Str.ofString).zip us)
  chk : (L.all fun d => d.chk (Df.kn L) kx (defBody (top d.at_)) (defScope (top d.at_))) = true
theorem find_name {f : String} {d : Df} (h : L.find? (fun d => d.name == f) = some d) : d ∈ L ∧ d.name = f := ⟨List.mem_of_find?_eq_some h, by simpa using List.find?_some h⟩
theorem Mod.ok (M : Mod P w K mg C kx L top) : ∀ n f d, L.find? (fun d => d.name == f) = some d → ∃ a fd, mg (Str.ofString f) = some (.ref a) ∧ PySem.W.keepIn K (.ref a) = true ∧ Binds K fd (d.ps.map Str.ofString) [] ∧ (∀ (s : Shared) (us : List Value), us.length = (d.ps.map Str.ofString).length → BindsTo s fd ⟨us, []⟩ ((d.ps.map Str.ofString).zip us)) ∧ ∀ base, FnOk P w K mg base (L2.CX P w) n a fd (d.ps.map Str.ofString) (spF K C (callD (Df.lk L) N n) f)
  | 0, f, d, h => by
    obtain ⟨hm, rfl⟩ := find_name h
    obtain ⟨a, fd, h1, h2⟩ := M.defs d hm
    exact ⟨a, fd, h1, h2.kp, h2.bindsN (M.bnd d hm), h2.bindsA (M.bnd d hm), fun base => ⟨fun vs H Q E ⟨B, ds, _, _, m⟩ => m.elim, fun _ _ _ _ _ _ vs Q E _ _ _ _ ⟨B, ds, _, _, m⟩ => m.elim⟩⟩
  | n + 1, f, d, h => by
    obtain ⟨hm, rfl⟩ := find_name h
    obtain ⟨a, fd, h1, h2⟩ := M.defs d hm
    refine ⟨a, fd, h1, h2.kp, h2.bindsN (M.bnd d hm), h2.bindsA (M.bnd d hm), fun base => ?_⟩
    have G : Glb C (callD (Df.lk L) N n) (Df.kn L) n P w K mg base := ⟨M.free, fun f hf => by
      unfold Df.kn at hf
      obtain ⟨d', hd⟩ := Option.isSome_iff_exists.mp hf
      obtain ⟨a, fd, q1, q2, q3, _, q4⟩ := Mod.ok M n f d' hd
      exact ⟨a, fd, _, q1, q2, q3, q4 base⟩⟩
    have c := List.all_eq_true.mp M.chk d hm
    unfold Df.chk at c
    simp only [Bool.and_eq_true, decide_eq_true_eq] at c
    obtain ⟨⟨c1, c2⟩, c4⟩ := c
    refine def_ok (N := N) h2 (scopeB_ok c1) (by simpa using c2) c4 G M.exc fun ds => ?_
    have e : Df.lk L d.name = some d.fn := by
      unfold Df.lk
      rw [h]
      rfl
    unfold callD
    rw [e]
end

/-! ### a law's end -/
/-- the script as data -/
theorem rd_law {K : PySem.W.Frag} {C : String → Addr} {cd : String → List D → R D} {f : String} {H : Hp} {a : Addr} {ns : List Int} (hS : SqL K H a (ns.map V.int)) (h : cd f [scr ns] = .ok (.bool true)) : spF K C cd f [.ref a] H (fun v _ => v = .bl true) fun _ _ _ => False := by
  refine ⟨fun _ => False, [scr ns], fun _ z => z.elim, .cons (.scr ?_) .nil, ?_⟩
  · rcases hS with hS | hS
    · exact .inl ⟨fun z => z, hS⟩
    · exact .inr hS
  · rw [h]
    exact fun v H' _ rd => by cases rd; rfl
theorem law_end {l : PySem.W.OpenLaw} {m k N : Nat} {q : Program} {loose : List Str} {XP : (Str → Option Value) → Heap → Prop} {YP : World → Heap → Prop} {df : DefRec} {L : List Df} {top : Nat → Stmt} {kx : String → Bool} {d : Df} {nm : String} {x : String}
    (hn : l.most = some m) (hm : m ≤ sizeLine) (hdf : df.params.defaults = []) (hr : Room k callerA) (hnm : df.name = Str.ofString nm) (hd : L.find? (fun d => d.name == nm) = some d) (hps : d.ps = [x])
    (hM : ∀ (w : World) (mg : Str → Option Value) (h : Heap), YP w h → h.Ns mainGlobals mg → ∃ (K : PySem.W.Frag) (C : String → Addr), K.In h ∧ Mod l.prog w K mg C kx L top)
    (law : ∀ ns : List Int, ns.length ≤ m → (∀ z ∈ ns, Builtin.Int.intBits z ≤ 1048576) → callD (Df.lk L) N k nm [scr ns] = .ok (.bool true)) :
    PySem.W.WalkO q loose XP YP l.row.toRowW df [] (fun f vs => PySem.call f vs) := by
  refine Att.attach_callB hn hdf fun w s0 s1 mg mb fa o pm cdv doc a vs ns G Y ho hdt hcd hmg hobj hints hlen hbits hg => ?_
  obtain ⟨K, C, KX, M⟩ := hM w mg _ Y G.T.g
  obtain ⟨a', fd, e1, e2, e3, e4, e5⟩ := M.ok (N := N) k nm d hd
  rw [hnm, e1] at hmg
  cases hmg
  have ep : d.ps.map Str.ofString = [Str.ofString x] := by rw [hps]; rfl
  rw [ep] at e4 e5
  exact law_call KX G.T.g G.T.b G.T.builtins G.T.nolimit hg hobj hints (Nat.le_trans hlen hm) hr (fun base _ _ => e5 base) (fun s u => e4 s [u] rfl) (fun H _ hS => rd_law hS (law ns hlen hbits)) fun H e s' ⟨_, _, _, _, _, _, _, _, _, _, _, _, z⟩ => z
end Q

set_option Elab.async false
set_option linter.all false
set_option maxRecDepth 100000
set_option maxHeartbeats 1000000
/-! Sd14: the module from the head's facts. -/
namespace Q
open PySem PySem.Spec PyProof.Rows L2
def faOf (L : List Df) (ex : List String) : List He.Fa := (L.map fun d => He.Fa.glo (Str.ofString d.name)) ++ (bnames.map He.Fa.free ++ (ex.map (fun x => He.Fa.glo (Str.ofString x)) ++ ex.map fun x => He.Fa.exc (Str.ofString x)))
def fnOf (L : List Df) (top : Nat → Stmt) : List He.DefD := L.map fun d => ⟨(Str.ofString d.name, none), Str.ofString d.name, Str.ofString d.name, defArgs (top d.at_), defBody (top d.at_), defScope (top d.at_), [], []⟩
def Bnd (top : Nat → Stmt) (d : Df) : Prop := ∀ (kV doc pm : Value) (an : Option Addr) (cdv ct : Value) (us : List Value), us.length = (d.ps.map Str.ofString).length →
    bindArgs (PySem.W.fnOf (Str.ofString d.name) (Str.ofString d.name) (defArgs (top d.at_)) (defBody (top d.at_)) (defScope (top d.at_)) .none kV doc pm an cdv ct) ⟨us, []⟩ = pure ((d.ps.map Str.ofString).zip us)
theorem fact_of {fa : List He.Fa} {fn : List He.DefD} {K : PySem.W.Frag} (c : He.SaysD fa fn K) {f : He.Fa} (h : f ∈ fa) : f.ok K = true := by
  obtain ⟨i, hi⟩ := List.mem_iff_getElem?.mp h
  exact c.fact i hi
theorem mod_of {P : Program} {w : World} {K : PySem.W.Frag} {mg : Str → Option Value} {h : Heap} {L : List Df} {ex : List String} {top : Nat → Stmt} (X : K.In h) (G : h.Ns mainGlobals mg) (c : He.SaysD (faOf L ex) (fnOf L top) K)
    (bnd : ∀ d ∈ L, Bnd top d) (chk : (L.all fun d => d.chk (Df.kn L) (fun n => ex.contains n) (defBody (top d.at_)) (defScope (top d.at_))) = true) : Mod P w K mg (fun n => He.ga K (Str.ofString n)) (fun n => ex.contains n) L top where
  free := fun x hx => He.free_ok X G (fact_of c (List.mem_append_right _ (List.mem_append_left _ (List.mem_map_of_mem hx))))
  exc := fun n hn => by
    have hm : n ∈ ex := by simpa using hn
    obtain ⟨h1, h2, h3, h4⟩ := He.exc_ok (fact_of c (f := .exc (Str.ofString n)) (List.mem_append_right _ (List.mem_append_right _ (List.mem_append_right _ (List.mem_map_of_mem (f := fun x => He.Fa.exc (Str.ofString x)) hm)))))
    exact ⟨He.glo_ok X G (fact_of c (List.mem_append_right _ (List.mem_append_right _ (List.mem_append_left _ (List.mem_map_of_mem (f := fun x => He.Fa.glo (Str.ofString x)) hm))))), h1, h2, h3, h4⟩
  defs := fun d hd => by
    obtain ⟨i, hi⟩ := List.mem_iff_getElem?.mp hd
    obtain ⟨fd, F⟩ := c.def_ i (d := ⟨(Str.ofString d.name, none), Str.ofString d.name, Str.ofString d.name, defArgs (top d.at_), defBody (top d.at_), defScope (top d.at_), [], []⟩) (by unfold fnOf; rw [List.getElem?_map, hi]; rfl)
    exact ⟨_, fd, He.glo_ok X G (fact_of c (List.mem_append_left _ (List.mem_map_of_mem (f := fun d => He.Fa.glo (Str.ofString d.name)) hd))), F⟩
  bnd := bnd
  chk := chk
end Q

set_option Elab.async false
set_option linter.all false
set_option maxRecDepth 100000
/-! Fns: the texts of defs that several laws have (printed by fns.py). -/
namespace Q
def f_neighbours : Fn := ⟨2, ["web", "place", "found", "one", "other"], .cons (.set 2 true (.lst .nil)) (.cons (.for_ (.cons (.n 3) (.cons (.n 4) .nil)) (.seq (.ix (.var 0) (.int 1))) (.cons (.ite (.cmp .eq (.var 1) (.var 3)) (.cons (.app 2 false (.var 4)) .nil) .nil) (.cons (.ite (.cmp .eq (.var 1) (.var 4)) (.cons (.app 2 false (.var 3)) .nil) .nil) .nil)) [3, 4]) (.frz 2 (.cons (.ret (.bi .tuple (.cons (.bi .sorted (.cons (.var 2) .nil)) .nil))) .nil)))⟩
def f_steps_from : Fn := ⟨2, ["web", "place", "found", "order", "at", "here", "other", "k"], .cons (.set 2 true (.comp (.n 7) [("k", 7)] (.rng1 (.ix (.var 0) (.int 0))) .no .non)) (.cons (.setI 2 (.var 1) (.int 0)) (.cons (.set 3 true (.lst (.cons (.var 1) .nil))) (.cons (.set 4 false (.int 0)) (.cons (.while_ (.cmp .lt (.var 4) (.bi .len (.cons (.var 3) .nil))) (.cons (.set 5 false (.ix (.var 3) (.var 4))) (.cons (.for_ (.n 6) (.seq (.call "neighbours" (.cons (.var 0) (.cons (.var 5) .nil)))) (.cons (.ite (.isN false (.ix (.var 2) (.var 6))) (.cons (.setI 2 (.var 6) (.bin .add (.ix (.var 2) (.var 5)) (.int 1))) (.cons (.app 3 false (.var 6)) .nil)) .nil) .nil) [6]) (.cons (.set 4 false (.bin .add (.var 4) (.int 1))) .nil))) [5, 6]) (.frz 2 (.frz 3 (.cons (.ret (.bi .tuple (.cons (.var 2) .nil))) .nil)))))))⟩
def f_how_far : Fn := ⟨3, ["web", "one", "other"], .cons (.ret (.ix (.call "steps_from" (.cons (.var 0) (.cons (.var 1) .nil))) (.var 2))) .nil⟩
def f_all_steps : Fn := ⟨1, ["web", "place"], .cons (.ret (.comp (.n 1) [("place", 1)] (.rng1 (.ix (.var 0) (.int 0))) .no (.call "steps_from" (.cons (.var 0) (.cons (.var 1) .nil))))) .nil⟩
def f_row_in : Fn := ⟨3, ["steps", "marks", "place", "mark"], .cons (.ret (.bi .tuple (.cons (.comp (.n 3) [("mark", 3)] (.seq (.var 1)) .no (.ix (.ix (.var 0) (.var 3)) (.var 2))) .nil))) .nil⟩
def f_blurred_in : Fn := ⟨2, ["steps", "marks", "found", "rows", "one", "place", "other"], .cons (.set 2 true (.lst .nil)) (.cons (.set 3 false (.comp (.n 5) [("place", 5)] (.rng1 (.bi .len (.cons (.var 0) .nil))) .no (.call "row_in" (.cons (.var 0) (.cons (.var 1) (.cons (.var 5) .nil)))))) (.cons (.for_ (.n 4) (.rng1 (.bi .len (.cons (.var 3) .nil))) (.cons (.ext 2 (.comp (.n 6) [("other", 6)] (.rng2 (.bin .add (.var 4) (.int 1)) (.bi .len (.cons (.var 3) .nil))) (.so (.cmp .eq (.ix (.var 3) (.var 4)) (.ix (.var 3) (.var 6)))) (.tup (.cons (.var 4) (.cons (.var 6) .nil))))) .nil) [4]) (.frz 2 (.cons (.ret (.var 2)) .nil))))⟩
def f_choose : Fn := ⟨2, ["places", "many", "found", "k", "place", "rest"], .cons (.ite (.cmp .eq (.var 1) (.int 0)) (.cons (.ret (.lst (.cons (.tup .nil) .nil))) .nil) .nil) (.cons (.set 2 true (.lst .nil)) (.cons (.for_ (.cons (.n 3) (.cons (.n 4) .nil)) (.enum (.var 0)) (.cons (.ext 2 (.comp (.n 5) [("rest", 5)] (.seq (.call "choose" (.cons (.sl (.var 0) (.so (.bin .add (.var 3) (.int 1))) .no) (.cons (.bin .sub (.var 1) (.int 1)) .nil)))) .no (.bin .add (.tup (.cons (.var 4) .nil)) (.var 5)))) .nil) [3, 4]) (.frz 2 (.cons (.ret (.var 2)) .nil))))⟩
def f_all_marks : Fn := ⟨1, ["many", "found", "size"], .cons (.set 1 true (.lst .nil)) (.cons (.for_ (.n 2) (.rng1 (.bin .add (.var 0) (.int 1))) (.cons (.ext 1 (.call "choose" (.cons (.rg1 false (.var 0)) (.cons (.var 2) .nil)))) .nil) [2]) (.frz 1 (.cons (.ret (.var 1)) .nil)))⟩
def f_least_marks : Fn := ⟨1, ["web", "steps", "marks"], .cons (.set 1 false (.call "all_steps" (.cons (.var 0) .nil))) (.cons (.for_ (.n 2) (.seq (.call "all_marks" (.cons (.ix (.var 0) (.int 0)) .nil))) (.cons (.ite (.not (.call "blurred_in" (.cons (.var 1) (.cons (.var 2) .nil)))) (.cons (.ret (.var 2)) .nil) .nil) .nil) [2]) (.cons (.ret .non) .nil))⟩
def f_line : Fn := ⟨1, ["many", "k"], .cons (.ret (.tup (.cons (.var 0) (.cons (.bi .tuple (.cons (.comp (.n 1) [("k", 1)] (.rng1 (.bin .sub (.var 0) (.int 1))) .no (.tup (.cons (.var 1) (.cons (.bin .add (.var 1) (.int 1)) .nil)))) .nil)) .nil)))) .nil⟩
def f_round_web : Fn := ⟨1, ["many", "k"], .cons (.ret (.tup (.cons (.var 0) (.cons (.bi .tuple (.cons (.bi .sorted (.cons (.bin .add (.comp (.n 1) [("k", 1)] (.rng1 (.bin .sub (.var 0) (.int 1))) .no (.tup (.cons (.var 1) (.cons (.bin .add (.var 1) (.int 1)) .nil)))) (.lst (.cons (.tup (.cons (.int 0) (.cons (.bin .sub (.var 0) (.int 1)) .nil))) .nil))) .nil)) .nil)) .nil)))) .nil⟩
def f_star : Fn := ⟨1, ["many", "k"], .cons (.ret (.tup (.cons (.var 0) (.cons (.bi .tuple (.cons (.comp (.n 1) [("k", 1)] (.rng2 (.int 1) (.var 0)) .no (.tup (.cons (.int 0) (.cons (.var 1) .nil)))) .nil)) .nil)))) .nil⟩
def f_full : Fn := ⟨1, ["many", "found", "k", "n"], .cons (.set 1 true (.lst .nil)) (.cons (.for_ (.n 2) (.rng1 (.var 0)) (.cons (.ext 1 (.comp (.n 3) [("n", 3)] (.rng2 (.bin .add (.var 2) (.int 1)) (.var 0)) .no (.tup (.cons (.var 2) (.cons (.var 3) .nil))))) .nil) [2]) (.frz 1 (.cons (.ret (.tup (.cons (.var 0) (.cons (.bi .tuple (.cons (.var 1) .nil)) .nil)))) .nil)))⟩
def f_field_web : Fn := ⟨2, ["wide", "high", "found", "k", "n", "here"], .cons (.set 2 true (.lst .nil)) (.cons (.for_ (.n 3) (.rng1 (.var 1)) (.cons (.for_ (.n 4) (.rng1 (.var 0)) (.cons (.set 5 false (.bin .add (.bin .mul (.var 3) (.var 0)) (.var 4))) (.cons (.ite (.cmp .lt (.bin .add (.var 4) (.int 1)) (.var 0)) (.cons (.app 2 false (.tup (.cons (.var 5) (.cons (.bin .add (.var 5) (.int 1)) .nil)))) .nil) .nil) (.cons (.ite (.cmp .lt (.bin .add (.var 3) (.int 1)) (.var 1)) (.cons (.app 2 false (.tup (.cons (.var 5) (.cons (.bin .add (.var 5) (.var 0)) .nil)))) .nil) .nil) .nil))) [4, 5]) .nil) [3, 4, 5]) (.frz 2 (.cons (.ret (.tup (.cons (.bin .mul (.var 0) (.var 1)) (.cons (.bi .tuple (.cons (.bi .sorted (.cons (.var 2) .nil)) .nil)) .nil)))) .nil)))⟩
def f__law_cell : Fn := ⟨2, ["_law_script", "_law_k"], .cons (.ite (.cmp .lt (.var 1) (.bi .len (.cons (.var 0) .nil))) (.cons (.ret (.ix (.var 0) (.var 1))) .nil) .nil) (.cons (.ret (.int 0)) .nil)⟩
def f__law_mix : Fn := ⟨3, ["_law_cell_here", "_law_prime", "_law_many", "_law_blend"], .cons (.set 3 false (.bin .mod (.bin .mul (.var 0) (.int 48271)) (.var 1))) (.cons (.ret (.bin .mod (.bin .mod (.bin .mul (.var 3) (.bin .add (.var 3) (.int 7))) (.var 1)) (.var 2))) .nil)⟩
def f__law_web : Fn := ⟨2, ["_law_cell_here", "_law_most", "_law_many", "_law_found", "_law_place", "_law_extra", "_law_k", "_law_one", "_law_other", "_law_tie", "_law_names"], .cons (.set 2 false (.bin .add (.int 1) (.call "_law_mix" (.cons (.var 0) (.cons (.int 9973) (.cons (.var 1) .nil)))))) (.cons (.set 3 true (.lst .nil)) (.cons (.for_ (.n 4) (.rng2 (.int 1) (.var 2)) (.cons (.app 3 false (.tup (.cons (.call "_law_mix" (.cons (.bin .add (.var 0) (.bin .mul (.int 7) (.var 4))) (.cons (.int 9967) (.cons (.var 4) .nil)))) (.cons (.var 4) .nil)))) .nil) [4]) (.cons (.set 5 false (.ix (.lst (.cons (.int 0) (.cons (.int 0) (.cons (.int 1) (.cons (.int 2) (.cons (.int 4) (.cons (.int 9) .nil))))))) (.call "_law_mix" (.cons (.var 0) (.cons (.int 9949) (.cons (.int 6) .nil)))))) (.cons (.for_ (.n 6) (.rng1 (.var 5)) (.cons (.set 7 false (.call "_law_mix" (.cons (.bin .add (.var 0) (.bin .mul (.int 11) (.var 6))) (.cons (.int 9941) (.cons (.var 2) .nil))))) (.cons (.set 8 false (.call "_law_mix" (.cons (.bin .add (.bin .add (.var 0) (.bin .mul (.int 13) (.var 6))) (.int 1)) (.cons (.int 9931) (.cons (.var 2) .nil))))) (.cons (.set 9 false (.tup (.cons (.bi .min2 (.cons (.var 7) (.cons (.var 8) .nil))) (.cons (.bi .max2 (.cons (.var 7) (.cons (.var 8) .nil))) .nil)))) (.cons (.ite (.and (.cmp .ne (.var 7) (.var 8)) (.cmp .nin (.var 9) (.var 3))) (.cons (.app 3 false (.var 9)) .nil) .nil) .nil)))) [6, 7, 8, 9]) (.frz 3 (.cons (.set 10 false (.call "_law_perm" (.cons (.var 0) (.cons (.var 2) .nil)))) (.cons (.ret (.tup (.cons (.var 2) (.cons (.bi .tuple (.cons (.bi .sorted (.cons (.comp (.cons (.n 7) (.cons (.n 8) .nil)) [("_law_one", 7), ("_law_other", 8)] (.seq (.var 3)) .no (.bi .tuple (.cons (.bi .sorted (.cons (.lst (.cons (.ix (.var 10) (.var 7)) (.cons (.ix (.var 10) (.var 8)) .nil))) .nil)) .nil))) .nil)) .nil)) .nil)))) .nil)))))))⟩
end Q

set_option Elab.async false
set_option linter.all false
set_option maxRecDepth 100000
set_option maxHeartbeats 1000000
/-! P1: how the small language is run by simp; loops. -/
namespace Q
open PySem
section
variable {cd : String → List D → R D} {N : Nat} {g : Env}
@[simp] theorem ev_var {i : Nat} : (E.var i).ev cd g = (match g[i]? with
    | some (some o) => .ok o
    | _ => .bad) := rfl
@[simp] theorem ev_non : E.non.ev cd g = .ok (.fz .none) := rfl
@[simp] theorem ev_bl {b : Bool} : (E.bl b).ev cd g = .ok (.fz (.bool b)) := rfl
@[simp] theorem ev_int {i : Int} : (E.int i).ev cd g = .ok (.fz (.int i)) := rfl
@[simp] theorem ev_bin {o : BOp} {a b : E} : (E.bin o a b).ev cd g = (do
    let x ← (E.ev cd a g) >>= O.asD
    let y ← (E.ev cd b g) >>= O.asD
    let z ← bop o x y
    .ok (.fz z)) := by simp only [E.ev]
@[simp] theorem ev_cmp {o : COp} {a b : E} : (E.cmp o a b).ev cd g = (do
    let x ← (E.ev cd a g) >>= O.asD
    let y ← E.ev cd b g
    let z ← cop o x y.toD
    .ok (.fz (.bool z))) := by simp only [E.ev]
@[simp] theorem ev_isN {neg : Bool} {a : E} : (E.isN neg a).ev cd g = (do
    let x ← (E.ev cd a g) >>= O.asD
    .ok (.fz (.bool (neg ^^ isNone x)))) := by simp only [E.ev]
@[simp] theorem ev_andS {a b : E} : (E.and a b).ev cd g = (do
    let x ← (E.ev cd a g) >>= O.asD
    match x with
    | .bool true => E.ev cd b g
    | .bool false => .ok (.fz (.bool false))
    | _ => .bad) := by simp only [E.ev] <;> rfl
@[simp] theorem ev_orS {a b : E} : (E.or a b).ev cd g = (do
    let x ← (E.ev cd a g) >>= O.asD
    match x with
    | .bool false => E.ev cd b g
    | .bool true => .ok (.fz (.bool true))
    | _ => .bad) := by simp only [E.ev] <;> rfl
@[simp] theorem ev_notS {a : E} : (E.not a).ev cd g = (do
    let x ← E.ev cd a g
    let b ← truth x.toD
    .ok (.fz (.bool (!b)))) := by simp only [E.ev]
@[simp] theorem ev_neg {a : E} : (E.neg a).ev cd g = (do
    let x ← (E.ev cd a g) >>= O.asD
    let i ← asInt x
    .ok (.fz (.int (-i)))) := by simp only [E.ev]
@[simp] theorem ev_iteS {c a b : E} : (E.ite c a b).ev cd g = (do
    let x ← E.ev cd c g
    let t ← truth x.toD
    if t then E.ev cd a g else E.ev cd b g) := by simp only [E.ev]
@[simp] theorem ev_tup {es : Es} : (E.tup es).ev cd g = (do let os ← Es.evo cd es g; let ds ← fzAll os; .ok (.fz (.tuple ds))) := by simp only [E.ev]
@[simp] theorem ev_lst {es : Es} : (E.lst es).ev cd g = (do let os ← Es.evo cd es g; let ds ← fzAll os; .ok (.fz (.list ds))) := by simp only [E.ev]
@[simp] theorem ev_ix {a b : E} : (E.ix a b).ev cd g = (do
    let x ← E.ev cd a g
    let y ← (E.ev cd b g) >>= O.asD
    let i ← asInt y
    x.at i) := by simp only [E.ev]
@[simp] theorem ev_sl {a : E} {lo hi : Oe} : (E.sl a lo hi).ev cd g = (do
    let x ← E.ev cd a g
    let l ← Oe.evi cd lo g
    let h ← Oe.evi cd hi g
    let d ← x.cut l h
    .ok (.fz d)) := by simp only [E.ev]
@[simp] theorem ev_call {f : String} {es : Es} : (E.call f es).ev cd g = (do
    let os ← Es.evo cd es g
    let ds ← fzAll os
    let d ← cd f ds
    .ok (.fz d)) := by simp only [E.ev]
@[simp] theorem ev_bi {b : Bi} {es : Es} : (E.bi b es).ev cd g = (do
    let os ← Es.evo cd es g
    let d ← bi b os
    .ok (.fz d)) := by simp only [E.ev]
@[simp] theorem ev_idxS {i : Nat} {b : E} : (E.idx i b).ev cd g = (do
    let ds ← (slotV g i >>= O.asD) >>= lstD
    let y ← (E.ev cd b g) >>= O.asD
    idxD ds y) := by simp only [E.ev]
@[simp] theorem ev_sset {a : E} : (E.sset a).ev cd g = (do
    let x ← E.ev cd a g
    let ds ← x.items
    ssetD ds) := by simp only [E.ev]
@[simp] theorem ev_rev {t : Bool} {a : E} : (E.rev t a).ev cd g = (do
    let x ← (E.ev cd a g) >>= O.asD
    revD t x) := by simp only [E.ev]
@[simp] theorem evi_seqo {e : E} : (It.seqo e).evi cd g = (do
    let x ← E.ev cd e g
    x.items) := by simp only [It.evi]
@[simp] theorem ev_rg1 {t : Bool} {a : E} : (E.rg1 t a).ev cd g = (do
    let x ← (E.ev cd a g) >>= O.asD
    let j ← asInt x
    rgD t 0 j) := by simp only [E.ev]
@[simp] theorem ev_rg2 {t : Bool} {a b : E} : (E.rg2 t a b).ev cd g = (do
    let x ← (E.ev cd a g) >>= O.asD
    let i ← asInt x
    let y ← (E.ev cd b g) >>= O.asD
    let j ← asInt y
    rgD t i j) := by simp only [E.ev]
/-- a turn of a comprehension -/
def turnE (cd : String → List D → R D) (tg : Tg) (vs : List Nat) (c : Oe) (e : E) (g : Env) (d : D) : R (Option D) := do
  let g1 ← tg.put d (wipe g vs)
  let k ← Oe.evt cd c g1
  if k then do
    let x ← (E.ev cd e g1) >>= O.asD
    .ok (some x)
  else .ok none
@[simp] theorem ev_compS {tg : Tg} {own : List (String × Nat)} {it : It} {c : Oe} {e : E} : (E.comp tg own it c e).ev cd g = (do
    let ds ← It.evi cd it g
    if szOk ds.length then do
      let r ← compL (turnE cd tg (own.map (·.2)) c e g) ds
      .ok (.fz (.list r))
    else .bad) := by simp only [E.ev] <;> rfl
@[simp] theorem evo_nil : Es.nil.evo cd g = .ok [] := rfl
@[simp] theorem evo_cons {e : E} {es : Es} : (Es.cons e es).evo cd g = (do
    let d ← E.ev cd e g
    let ds ← Es.evo cd es g
    .ok (d :: ds)) := by simp only [Es.evo]
@[simp] theorem evi_no : Oe.no.evi cd g = .ok none := rfl
@[simp] theorem evi_so {e : E} : (Oe.so e).evi cd g = (do
    let d ← (E.ev cd e g) >>= O.asD
    let i ← asInt d
    .ok (some i)) := by simp only [Oe.evi]
@[simp] theorem evt_no : Oe.no.evt cd g = .ok true := rfl
@[simp] theorem evt_so {e : E} : (Oe.so e).evt cd g = (do
    let x ← E.ev cd e g
    truth x.toD) := by simp only [Oe.evt]
@[simp] theorem evi_seq {e : E} : (It.seq e).evi cd g = (do
    let x ← (E.ev cd e g) >>= O.asD
    match x with
    | .list ds => .ok ds
    | .tuple ds => .ok ds
    | .dict kvs => .ok (kvs.map (·.1))
    | _ => .bad) := by simp only [It.evi] <;> rfl
@[simp] theorem evi_rng1 {a : E} : (It.rng1 a).evi cd g = (do
    let x ← (E.ev cd a g) >>= O.asD
    let j ← asInt x
    if rngOk j then .ok (rngD 0 j.toNat) else .bad) := by simp only [It.evi]
@[simp] theorem evi_rng2 {a b : E} : (It.rng2 a b).evi cd g = (do
    let x ← (E.ev cd a g) >>= O.asD
    let i ← asInt x
    let y ← (E.ev cd b g) >>= O.asD
    let j ← asInt y
    if rngOk i && rngOk j then .ok (rngD i (j - i).toNat) else .bad) := by simp only [It.evi]
@[simp] theorem evi_enum {a : E} : (It.enum a).evi cd g = (do
    let x ← (E.ev cd a g) >>= O.asD
    match x with
    | .list ds => .ok (enumD 0 ds)
    | .tuple ds => .ok (enumD 0 ds)
    | _ => .bad) := by simp only [It.evi] <;> rfl
@[simp] theorem asD_fz {d : D} : (O.fz d).asD = .ok d := rfl
@[simp] theorem asInt_int {i : Int} : asInt (.int i) = .ok i := rfl
@[simp] theorem toD_fz {d : D} : (O.fz d).toD = d := rfl
@[simp] theorem truth_bool {b : Bool} : truth (.bool b) = .ok b := rfl
@[simp] theorem truth_list {ds : List D} : truth (.list ds) = .ok (!ds.isEmpty) := rfl
@[simp] theorem fzAll_nil : fzAll [] = .ok [] := rfl
@[simp] theorem fzAll_cons {d : D} {os : List O} : fzAll (.fz d :: os) = (do let ds ← fzAll os; .ok (d :: ds)) := rfl
theorem fzAll_map : ∀ ds : List D, fzAll (ds.map .fz) = .ok ds
  | [] => rfl
  | d :: ds => by rw [List.map_cons, fzAll_cons, fzAll_map ds]; rfl
@[simp] theorem fzAll_map' {ds : List D} : fzAll (ds.map .fz) = .ok ds := fzAll_map ds
theorem toDs_map : ∀ ds : List D, O.toDs (ds.map .fz) = ds
  | [] => rfl
  | d :: ds => by simp only [List.map_cons, O.toDs, toD_fz, toDs_map ds]
@[simp] theorem toD_ol {ds : List D} : (O.ol (ds.map .fz)).toD = .list ds := by simp only [O.toD, toDs_map]
@[simp] theorem exs_nil : Ss.nil.exs cd N g = .nx g := rfl
@[simp] theorem exs_cons {s : S} {ss : Ss} : (Ss.cons s ss).exs cd N g = (S.ex cd N s g).thn fun g => Ss.exs cd N ss g := by simp only [Ss.exs]
@[simp] theorem exs_frz {i : Nat} {ss : Ss} : (Ss.frz i ss).exs cd N g = (slotO g i).thn g fun o => Ss.exs cd N ss (g.set i (some (.fz o.toD))) := by simp only [Ss.exs]
@[simp] theorem ex_setF {i : Nat} {e : E} : (S.set i false e).ex cd N g = (E.ev cd e g >>= O.asD).thn g fun d => putS g i (.fz d) := by simp only [S.ex, newO, Bool.false_and, Bool.false_eq_true, if_false, R.thn_ok]
@[simp] theorem ex_setO {i : Nat} {e : E} : (S.set i true e).ex cd N g = (E.ev cd e g >>= O.asD).thn g fun d => (if e.fresh then newO true d else .bad).thn g fun o => putS g i o := by
  simp only [S.ex, Bool.true_and]
  cases e.fresh <;> rfl
@[simp] theorem ex_setT {t : Tg} {e : E} : (S.setT t e).ex cd N g = (E.ev cd e g >>= O.asD).thn g fun d => (t.put d g).thn g fun g => .nx g := by simp only [S.ex]
@[simp] theorem ex_setI {i : Nat} {b e : E} : (S.setI i b e).ex cd N g = (E.ev cd e g >>= O.asD).thn g fun d => (slotL g i).thn g fun os => ((E.ev cd b g >>= O.asD) >>= asInt).thn g fun k => (setL os k (.fz d)).thn g fun os => putS g i (.ol os) := by simp only [S.ex]
@[simp] theorem ex_app {i : Nat} {e : E} : (S.app i false e).ex cd N g = (slotL g i).thn g fun os => (E.ev cd e g >>= O.asD).thn g fun d => if szOk os.length then putS g i (.ol (os ++ [.fz d])) else .bad := by simp only [S.ex, newO, Bool.false_and, Bool.false_eq_true, if_false, R.thn_ok]
@[simp] theorem ex_ext {i : Nat} {e : E} : (S.ext i e).ex cd N g = (slotL g i).thn g fun os => (E.ev cd e g >>= O.asD).thn g fun d => match d with
      | .list ds => if szOk (os.length + ds.length) then putS g i (.ol (os ++ ds.map .fz)) else .bad
      | .tuple ds => if szOk (os.length + ds.length) then putS g i (.ol (os ++ ds.map .fz)) else .bad
      | _ => .bad := by simp only [S.ex] <;> rfl
@[simp] theorem ex_ret {e : E} : (S.ret e).ex cd N g = (E.ev cd e g >>= O.asD).thn g fun d => .rt d := by simp only [S.ex]
@[simp] theorem ex_ite {c : E} {a b : Ss} : (S.ite c a b).ex cd N g = (E.ev cd c g >>= fun o => truth o.toD).thn g fun t => if t then Ss.exs cd N a g else Ss.exs cd N b g := by simp only [S.ex]
@[simp] theorem ex_for {t : Tg} {it : It} {b : Ss} {clr : List Nat} : (S.for_ t it b clr).ex cd N g = (It.evi cd it g).thn g fun ds => forL (fun d g => (t.put d g).thn g fun g => Ss.exs cd N b g) clr ds g := by simp only [S.ex]
@[simp] theorem ex_while {c : E} {b : Ss} {clr : List Nat} : (S.while_ c b clr).ex cd N g = whileL (fun g => E.ev cd c g >>= fun o => truth o.toD) (fun g => Ss.exs cd N b g) clr N g := by simp only [S.ex]
@[simp] theorem put_n1 {i : Nat} {d : D} : (Tg.n i).put d g = if decide (i < g.length) then .ok (g.set i (some (.fz d))) else .bad := rfl
@[simp] theorem put_t {t ts : Tg} {es : List D} : (Tg.cons t ts).put (.tuple es) g = (Tg.cons t ts).puts es g := rfl
@[simp] theorem puts_c {t ts : Tg} {d : D} {ds : List D} : (Tg.cons t ts).puts (d :: ds) g = (t.put d g >>= fun g => ts.puts ds g) := Tg.puts_cons
@[simp] theorem puts_0 : Tg.nil.puts [] g = .ok g := rfl
@[simp] theorem bi_tuple {ds : List D} : bi .tuple [.fz (.list ds)] = .ok (.tuple ds) := rfl
@[simp] theorem bi_tupleO {ds : List D} : bi .tuple [.ol (ds.map .fz)] = .ok (.tuple ds) := by simp [bi, O.items]
@[simp] theorem bi_sorted {ds : List D} : bi .sorted [.fz (.list ds)] = (do let es ← sortD ds; .ok (.list es)) := rfl
@[simp] theorem bi_lenL {ds : List D} : bi .len [.fz (.list ds)] = .ok (.int (ds.length : Nat)) := rfl
@[simp] theorem bi_lenT {ds : List D} : bi .len [.fz (.tuple ds)] = .ok (.int (ds.length : Nat)) := rfl
@[simp] theorem bi_lenO {os : List O} : bi .len [.ol os] = .ok (.int (os.length : Nat)) := rfl
@[simp] theorem bi_lenS {ns : List Int} : bi .len [.fz (scr ns)] = .ok (.int (ns.length : Nat)) := by simp [bi]
@[simp] theorem newO_t {ds : List D} : newO true (.list ds) = .ok (.ol (ds.map .fz)) := rfl
@[simp] theorem bop_add {i j : Int} : bop .add (.int i) (.int j) = .ok (.int (i + j)) := rfl
@[simp] theorem bop_sub {i j : Int} : bop .sub (.int i) (.int j) = .ok (.int (i - j)) := rfl
@[simp] theorem cop_lt {i j : Int} : cop .lt (.int i) (.int j) = .ok (decide (i < j)) := rfl
@[simp] theorem cop_le {i j : Int} : cop .le (.int i) (.int j) = .ok (decide (i ≤ j)) := rfl
@[simp] theorem cop_gt {i j : Int} : cop .gt (.int i) (.int j) = .ok (decide (j < i)) := rfl
@[simp] theorem cop_ge {i j : Int} : cop .ge (.int i) (.int j) = .ok (decide (j ≤ i)) := rfl
@[simp] theorem shaped_int {i : Int} : SeqAt.shaped (.int i) = true := by first | rfl | simp [SeqAt.shaped]
@[simp] theorem eqv_int {i j : Int} : PyData.eqv (.int i) (.int j) = decide (i = j) := by first | rfl | (simp [PyData.eqv]; done) | (simp [PyData.eqv, decide_eq_decide]; done)
@[simp] theorem cop_eqI {i j : Int} : cop .eq (.int i) (.int j) = .ok (decide (i = j)) := by simp [cop]
@[simp] theorem cop_neI {i j : Int} : cop .ne (.int i) (.int j) = .ok (!decide (i = j)) := by simp [cop]
end
/-! ### loops -/
theorem forL_fold {α β : Type} {body : D → Env → SO} {clr : List Nat} (enc : α → D) (G : β → Env) (step : β → α → β) : ∀ (xs : List α) (s : β), (∀ s, ∀ x ∈ xs, ∃ g', (body (enc x) (G s) = .nx g' ∨ body (enc x) (G s) = .ct g') ∧ wipe g' clr = G (step s x)) →
    forL body clr (xs.map enc) (G s) = .nx (G (xs.foldl step s))
  | [], s, _ => rfl
  | x :: xs, s, h => by
    obtain ⟨g', h1, h2⟩ := h s x (List.mem_cons_self ..)
    have ih := forL_fold enc G step xs (step s x) fun s y hy => h s y (List.mem_cons_of_mem _ hy)
    rcases h1 with h1 | h1 <;> simp only [List.map_cons, forL, h1, h2, ih, List.foldl_cons]
/-- the same, with what stays true -/
theorem forL_foldI {α β : Type} {body : D → Env → SO} {clr : List Nat} (enc : α → D) (G : β → Env) (step : β → α → β) (I : β → Prop) : ∀ (xs : List α) (s : β), I s → (∀ s, I s → ∀ x ∈ xs, I (step s x) ∧ ∃ g', (body (enc x) (G s) = .nx g' ∨ body (enc x) (G s) = .ct g') ∧ wipe g' clr = G (step s x)) →
    forL body clr (xs.map enc) (G s) = .nx (G (xs.foldl step s)) ∧ I (xs.foldl step s)
  | [], s, i, _ => ⟨rfl, i⟩
  | x :: xs, s, i, h => by
    obtain ⟨i', g', h1, h2⟩ := h s i x (List.mem_cons_self ..)
    have ih := forL_foldI enc G step I xs (step s x) i' fun s i y hy => h s i y (List.mem_cons_of_mem _ hy)
    refine ⟨?_, ih.2⟩
    rcases h1 with h1 | h1 <;> simp only [List.map_cons, forL, h1, h2, ih.1, List.foldl_cons]
/-- a loop that ends its def at the first item that .. -/
theorem forL_find {α : Type} {body : D → Env → SO} {clr : List Nat} (enc : α → D) {g : Env} (p : α → Bool) (r : α → D) : ∀ xs : List α, (∀ x ∈ xs, (p x = true ∧ body (enc x) g = .rt (r x)) ∨ (p x = false ∧ ∃ g', (body (enc x) g = .nx g' ∨ body (enc x) g = .ct g') ∧ wipe g' clr = g)) →
    forL body clr (xs.map enc) g = (match xs.find? p with
      | some x => .rt (r x)
      | none => .nx g)
  | [], _ => rfl
  | x :: xs, h => by
    have ih := forL_find enc p r xs fun y hy => h y (List.mem_cons_of_mem _ hy)
    rcases h x (List.mem_cons_self ..) with ⟨h1, h2⟩ | ⟨h1, g', h2 | h2, h3⟩
    · simp only [List.map_cons, forL, h2, List.find?_cons, h1]
    · simp only [List.map_cons, forL, h2, h3, ih, List.find?_cons, h1]
    · simp only [List.map_cons, forL, h2, h3, ih, List.find?_cons, h1]
/-- .. that never does -/
theorem forL_pass {α : Type} {body : D → Env → SO} {clr : List Nat} (enc : α → D) {g : Env} (xs : List α) (h : ∀ x ∈ xs, ∃ g', (body (enc x) g = .nx g' ∨ body (enc x) g = .ct g') ∧ wipe g' clr = g) : forL body clr (xs.map enc) g = .nx g := by
  have q := forL_find (body := body) (clr := clr) (g := g) enc (fun _ => false) (fun _ => .none) xs fun x hx => .inr ⟨rfl, h x hx⟩
  rw [q]
  have : xs.find? (fun _ => false) = none := by simp
  rw [this]
theorem compL_map {α : Type} {f : D → R (Option D)} (enc : α → D) (p : α → Bool) (r : α → D) : ∀ xs : List α, (∀ x ∈ xs, f (enc x) = .ok (if p x then some (r x) else none)) → compL f (xs.map enc) = .ok ((xs.filter p).map r)
  | [], _ => rfl
  | x :: xs, h => by
    have ih := compL_map enc p r xs fun y hy => h y (List.mem_cons_of_mem _ hy)
    have hx := h x (List.mem_cons_self ..)
    cases hp : p x with
    | true =>
      rw [hp] at hx
      simp only [List.map_cons, compL, hx, if_true, ih, R.ok_bind, List.filter_cons, hp]
    | false =>
      rw [hp] at hx
      simp [List.map_cons, compL, hx, ih, List.filter_cons, hp]
theorem compL_all {α : Type} {f : D → R (Option D)} (enc : α → D) (r : α → D) (xs : List α) (h : ∀ x ∈ xs, f (enc x) = .ok (some (r x))) : compL f (xs.map enc) = .ok (xs.map r) := by
  have q := compL_map enc (fun _ => true) r xs (by simpa using h)
  rw [List.filter_eq_self.mpr fun _ _ => rfl] at q
  exact q
/-- a while loop, by what it does at a state -/
def itW {β : Type} (cond : β → Bool) (step : β → β) : Nat → β → Option β
  | 0, _ => none
  | n + 1, s => if cond s then itW cond step n (step s) else some s
theorem whileL_it {β : Type} {test : Env → R Bool} {body : Env → SO} {clr : List Nat} (G : β → Env) (cond : β → Bool) (step : β → β) (I : β → Prop) : ∀ (n : Nat) (s s' : β), I s → (∀ s, I s → test (G s) = .ok (cond s)) →
    (∀ s, I s → cond s = true → I (step s) ∧ ∃ g', (body (G s) = .nx g' ∨ body (G s) = .ct g') ∧ wipe g' clr = G (step s)) → itW cond step n s = some s' → whileL test body clr n (G s) = .nx (G s') ∧ I s'
  | 0, s, s', _, _, _, h => nomatch h
  | n + 1, s, s', i, ht, hb, h => by
    unfold itW at h
    cases hc : cond s with
    | false =>
      rw [hc] at h
      cases h
      refine ⟨?_, i⟩
      simp only [whileL, ht s i, hc, R.thn_ok, Bool.false_eq_true, if_false]
    | true =>
      rw [hc] at h
      obtain ⟨i', g', h1, h2⟩ := hb s i hc
      have ih := whileL_it G cond step I n (step s) s' i' ht hb h
      refine ⟨?_, ih.2⟩
      rcases h1 with h1 | h1 <;> simp only [whileL, ht s i, hc, R.thn_ok, if_true, h1, h2, ih.1]
/-- a def of the table is called -/
theorem callD_run {T : String → Option Fn} {N n : Nat} {f : String} {F : Fn} (h : T f = some F) (ds : List D) : callD T N (n + 1) f ds = F.run (callD T N n) N ds := by
  unfold callD
  rw [h]
end Q

set_option Elab.async false
set_option linter.all false
set_option maxRecDepth 100000
set_option maxHeartbeats 1000000
/-! P2: webs; neighbours, steps_from, how_far, all_steps. -/
namespace Q
open PySem
/-- counted loops -/
theorem forL_foldN {α β : Type} {body : D → Env → SO} {clr : List Nat} (enc : α → D) (G : β → Env) (step : β → α → β) (I : Nat → β → Prop) : ∀ (xs : List α) (k : Nat) (s : β), I k s →
    (∀ i s, i < k + xs.length → I i s → ∀ x ∈ xs, I (i + 1) (step s x) ∧ ∃ g', (body (enc x) (G s) = .nx g' ∨ body (enc x) (G s) = .ct g') ∧ wipe g' clr = G (step s x)) →
    forL body clr (xs.map enc) (G s) = .nx (G (xs.foldl step s)) ∧ I (k + xs.length) (xs.foldl step s)
  | [], k, s, i, _ => ⟨rfl, i⟩
  | x :: xs, k, s, i, h => by
    obtain ⟨i', g', h1, h2⟩ := h k s (by simp) i x (List.mem_cons_self ..)
    have ih := forL_foldN enc G step I xs (k + 1) (step s x) i' fun j s hj i y hy => h j s (by simp only [List.length_cons]; omega) i y (List.mem_cons_of_mem _ hy)
    have e : k + (x :: xs).length = k + 1 + xs.length := by simp only [List.length_cons]; omega
    rw [e]
    refine ⟨?_, ih.2⟩
    rcases h1 with h1 | h1 <;> simp only [List.map_cons, forL, h1, h2, ih.1, List.foldl_cons]

abbrev nD (i : Nat) : D := .int i
def prD (p : Nat × Nat) : D := .tuple [nD p.1, nD p.2]
def tupN (l : List Nat) : D := .tuple (l.map nD)
abbrev Web := Nat × List (Nat × Nat)
def webD (w : Web) : D := .tuple [nD w.1, .tuple (w.2.map prD)]
def insN (x : Nat) : List Nat → List Nat
  | [] => [x]
  | y :: ys => if x ≤ y then x :: y :: ys else y :: insN x ys
def sortN : List Nat → List Nat
  | [] => []
  | x :: xs => insN x (sortN xs)
theorem insN_cast (x : Nat) : ∀ l : List Nat, insI x (l.map fun (i : Nat) => (i : Int)) = (insN x l).map fun (i : Nat) => (i : Int)
  | [] => rfl
  | y :: ys => by
    simp only [List.map_cons, insI, insN]
    by_cases h : x ≤ y
    · rw [if_pos h, if_pos (by omega)]; rfl
    · rw [if_neg h, if_neg (by omega), insN_cast x ys]; rfl
theorem sortN_cast : ∀ l : List Nat, sortI (l.map fun (i : Nat) => (i : Int)) = (sortN l).map fun (i : Nat) => (i : Int)
  | [] => rfl
  | x :: xs => by simp only [List.map_cons, sortI, sortN, sortN_cast xs, insN_cast]
theorem ints_n : ∀ l : List Nat, ints? (l.map nD) = some (l.map fun (i : Nat) => (i : Int))
  | [] => rfl
  | x :: xs => by simp only [List.map_cons, ints?, ints_n xs, Option.map_some]
theorem sortD_n (l : List Nat) : sortD (l.map nD) = .ok ((sortN l).map nD) := by
  unfold sortD
  rw [ints_n]
  show R.ok ((sortI (l.map fun (i : Nat) => (i : Int))).map PyData.int) = _
  rw [sortN_cast, List.map_map]
  rfl
/-! ### an item -/
theorem ixN_n {n i : Nat} (h : i < n) : L2.ixN n ((i : Nat) : Int) = some i := by
  unfold L2.ixN
  rw [if_pos (by omega), if_pos (by omega)]
  simp
theorem atI_n {α : Type} {xs : List α} {i : Nat} {x : α} (h : xs[i]? = some x) : L2.atI xs ((i : Nat) : Int) = some x := by
  have hl : i < xs.length := by
    rw [List.getElem?_eq_some_iff] at h
    exact h.1
  unfold L2.atI
  rw [ixN_n hl]
  exact h
theorem setL_n {os : List O} {i : Nat} {x : O} (h : i < os.length) : setL os ((i : Nat) : Int) x = .ok (os.set i x) := by
  unfold setL
  rw [ixN_n h]

/-! ### neighbours -/
def nbStep (p : Nat) (f : List Nat) (t : Nat × Nat) : List Nat := (f ++ if p = t.1 then [t.2] else []) ++ if p = t.2 then [t.1] else []
def nb (ts : List (Nat × Nat)) (p : Nat) : List Nat := sortN (ts.foldl (nbStep p) [])
theorem nb_run {cd : String → List D → R D} {N : Nat} {w : Web} {p : Nat} (hs : w.2.length ≤ 400000) : f_neighbours.run cd N [webD w, nD p] = .ok (tupN (nb w.2 p)) := by
  let G : List Nat → Env := fun s => [some (O.fz (webD w)), some (.fz (nD p)), some (.ol ((s.map nD).map .fz)), none, none]
  have key : S.ex cd N (.for_ (.cons (.n 3) (.cons (.n 4) .nil)) (.seq (.ix (.var 0) (.int 1))) (.cons (.ite (.cmp .eq (.var 1) (.var 3)) (.cons (.app 2 false (.var 4)) .nil) .nil) (.cons (.ite (.cmp .eq (.var 1) (.var 4)) (.cons (.app 2 false (.var 3)) .nil) .nil) .nil)) [3, 4])
      [some (O.fz (webD w)), some (.fz (nD p)), some (.ol []), none, none] = .nx (G (w.2.foldl (nbStep p) [])) := by
    have q : It.evi cd (.seq (.ix (.var 0) (.int 1))) [some (O.fz (webD w)), some (.fz (nD p)), some (.ol []), none, none] = .ok (w.2.map prD) := by
      simp [webD, O.at, L2.atI, L2.ixN]
    rw [ex_for, q, R.thn_ok]
    refine (forL_foldN prD G (nbStep p) (fun i s => s.length ≤ 2 * i) w.2 0 [] (by simp) fun i s hi I t _ => ?_).1
    have l1 : szOk s.length = true := by unfold szOk; simp; omega
    have l2 : szOk (s.length + 1) = true := by unfold szOk; simp; omega
    refine ⟨?_, [some (.fz (webD w)), some (.fz (nD p)), some (.ol (((nbStep p s t).map nD).map .fz)), some (.fz (nD t.1)), some (.fz (nD t.2))], .inl ?_, rfl⟩
    · have a : (if p = t.1 then [t.2] else []).length ≤ 1 := by split <;> simp
      have b : (if p = t.2 then [t.1] else []).length ≤ 1 := by split <;> simp
      simp only [nbStep, List.length_append]
      omega
    · obtain ⟨a, b⟩ := t
      by_cases h1 : p = a
      · subst h1
        by_cases h2 : p = b
        · subst h2
          simp [G, prD, nbStep, slotL, putS, l1, l2]
        · simp [G, prD, nbStep, Int.natCast_inj, h2, slotL, putS, l1, l2]
      · by_cases h2 : p = b
        · subst h2
          simp [G, prD, nbStep, Int.natCast_inj, h1, slotL, putS, l1, l2]
        · simp [G, prD, nbStep, Int.natCast_inj, h1, h2, slotL, putS, l1, l2]
  unfold f_neighbours Fn.run
  simp [-ex_for, -List.map_map, key, G, E.fresh, putS, newO, slotO, sortD_n, tupN, nb]
/-! ### steps_from -/
def optD : Option Nat → D
  | none => .none
  | some k => nD k
abbrev Bf := List (Option Nat) × List Nat
def inS (d : Nat) (s : Bf) (q : Nat) : Bf := if s.1[q]? = some none then (s.1.set q (some (d + 1)), s.2 ++ [q]) else s
def hereOf (s : Bf × Nat) : Nat := s.1.2[s.2]?.getD 0
def dOf (f : List (Option Nat)) (x : Nat) : Nat := (f[x]?.join).getD 0
def bfStep (ts : List (Nat × Nat)) (s : Bf × Nat) : Bf × Nat := ((nb ts (hereOf s)).foldl (inS (dOf s.1.1 (hereOf s))) s.1, s.2 + 1)
def bfCond (s : Bf × Nat) : Bool := decide (s.2 < s.1.2.length)
def bf0 (w : Web) (p : Nat) : Bf × Nat := (((List.replicate w.1 none).set p (some 0), [p]), 0)
def bfs (w : Web) (p : Nat) : List (Option Nat) := ((itW bfCond (bfStep w.2) (w.1 + 1) (bf0 w p)).getD (bf0 w p)).1.1
/-- all ends are places -/
def okW (w : Web) : Prop := w.1 ≤ 1000 ∧ w.2.length ≤ 400000 ∧ ∀ t ∈ w.2, t.1 < w.1 ∧ t.2 < w.1
structure BI (n : Nat) (s : Bf) : Prop where
  len : s.1.length = n
  ord : ∀ x ∈ s.2, ∃ d, s.1[x]? = some (some d)
  cnt : s.2.length + s.1.countP (·.isNone) = n
theorem cnt_set : ∀ {f : List (Option Nat)} {q d : Nat}, f[q]? = some none → (f.set q (some d)).countP (·.isNone) + 1 = f.countP (·.isNone)
  | [], _, _, h => by simp at h
  | x :: f, 0, d, h => by
    simp at h; subst h
    simp
  | x :: f, q + 1, d, h => by
    have ih := cnt_set (f := f) (q := q) (d := d) (by simpa using h)
    simp only [List.set_cons_succ, List.countP_cons]
    omega
theorem BI.step {n d q : Nat} {s : Bf} (b : BI n s) (hq : q < n) : BI n (inS d s q) := by
  unfold inS
  by_cases h : s.1[q]? = some none
  · rw [if_pos h]
    refine ⟨by simp [b.len], fun x hx => ?_, ?_⟩
    · rcases List.mem_append.mp hx with hx | hx
      · obtain ⟨e, he⟩ := b.ord x hx
        have hne : q ≠ x := fun z => by subst z; rw [h] at he; cases he
        exact ⟨e, by simp only [List.getElem?_set_ne hne, he]⟩
      · simp at hx; subst hx
        exact ⟨d + 1, by simp [List.getElem?_set, b.len, hq]⟩
    · have := cnt_set (d := d + 1) h
      have := b.cnt
      simp only [List.length_append, List.length_cons, List.length_nil]
      omega
  · rw [if_neg h]; exact b
theorem inS_keep {d q x e : Nat} {s : Bf} (h : s.1[x]? = some (some e)) : (inS d s q).1[x]? = some (some e) := by
  unfold inS
  by_cases hq : s.1[q]? = some none
  · rw [if_pos hq]
    have hne : q ≠ x := fun z => by subst z; rw [h] at hq; cases hq
    simp only [List.getElem?_set_ne hne, h]
  · rw [if_neg hq]; exact h
theorem mem_insN {x y : Nat} : ∀ {l : List Nat}, y ∈ insN x l ↔ y = x ∨ y ∈ l
  | [] => by simp [insN]
  | z :: l => by
    unfold insN
    by_cases h : x ≤ z
    · rw [if_pos h]; simp
    · rw [if_neg h]
      simp only [List.mem_cons, mem_insN (l := l)]
      constructor <;> (rintro (h | h | h) <;> simp [h])
theorem mem_sortN {y : Nat} : ∀ {l : List Nat}, y ∈ sortN l ↔ y ∈ l
  | [] => by simp [sortN]
  | z :: l => by simp only [sortN, mem_insN, mem_sortN (l := l), List.mem_cons]
theorem mem_nbf {p y : Nat} : ∀ {ts : List (Nat × Nat)} {acc : List Nat}, y ∈ ts.foldl (nbStep p) acc ↔ y ∈ acc ∨ (p, y) ∈ ts ∨ (y, p) ∈ ts
  | [], acc => by simp
  | (a, b) :: ts, acc => by
    have e1 : y ∈ (if p = a then [b] else []) ↔ p = a ∧ y = b := by split <;> simp [*]
    have e2 : y ∈ (if p = b then [a] else []) ↔ p = b ∧ y = a := by split <;> simp [*]
    simp only [List.foldl_cons, mem_nbf (ts := ts), List.mem_cons, nbStep, List.mem_append, Prod.mk.injEq, e1, e2]
    grind
theorem mem_nb {ts : List (Nat × Nat)} {p y : Nat} : y ∈ nb ts p ↔ (p, y) ∈ ts ∨ (y, p) ∈ ts := by
  unfold nb
  rw [mem_sortN, mem_nbf]
  simp
theorem nb_lt {w : Web} (h : okW w) {p y : Nat} (hy : y ∈ nb w.2 p) : y < w.1 := by
  rcases mem_nb.mp hy with q | q
  · exact (h.2.2 _ q).2
  · exact (h.2.2 _ q).1
theorem BI.fold {n d : Nat} : ∀ {l : List Nat} {s : Bf}, BI n s → (∀ q ∈ l, q < n) → BI n (l.foldl (inS d) s)
  | [], _, b, _ => b
  | q :: l, s, b, h => BI.fold (l := l) (b.step (h q (List.mem_cons_self ..))) fun x hx => h x (List.mem_cons_of_mem _ hx)
theorem BI.bf {w : Web} (h : okW w) {s : Bf × Nat} (b : BI w.1 s.1) : BI w.1 (bfStep w.2 s).1 := b.fold fun _ hq => nb_lt h hq
theorem BI.le {n : Nat} {s : Bf} (b : BI n s) : s.2.length ≤ n := by have := b.cnt; omega
theorem bf0_BI {w : Web} {p : Nat} (hp : p < w.1) : BI w.1 (bf0 w p).1 := by
  refine ⟨by simp [bf0], fun x hx => ?_, ?_⟩
  · simp [bf0] at hx; subst hx
    exact ⟨0, by simp [bf0, List.getElem?_set, hp]⟩
  · have h : (List.replicate w.1 (none : Option Nat))[p]? = some none := by simp [hp]
    have e := cnt_set (d := 0) h
    have e2 : (List.replicate w.1 (none : Option Nat)).countP (·.isNone) = w.1 := by simp [List.countP_replicate]
    rw [e2] at e
    show [p].length + ((List.replicate w.1 none).set p (some 0)).countP (·.isNone) = w.1
    simp only [List.length_cons, List.length_nil]
    omega
theorem itW_ends {w : Web} (h : okW w) : ∀ (m : Nat) (s : Bf × Nat), BI w.1 s.1 → w.1 ≤ s.2 + m → ∃ s', ∀ k, itW bfCond (bfStep w.2) (m + k + 1) s = some s'
  | 0, s, b, hm => by
    have e : bfCond s = false := by
      have := b.le
      unfold bfCond
      simp
      omega
    refine ⟨s, fun k => ?_⟩
    unfold itW
    rw [e]
    rfl
  | m + 1, s, b, hm => by
    cases e : bfCond s with
    | false =>
      refine ⟨s, fun k => ?_⟩
      unfold itW
      rw [e]
      rfl
    | true =>
      obtain ⟨s', hs⟩ := itW_ends h m (bfStep w.2 s) (b.bf h) (by show w.1 ≤ s.2 + 1 + m; omega)
      refine ⟨s', fun k => ?_⟩
      have e2 : m + 1 + k + 1 = (m + k + 1) + 1 := by omega
      rw [e2]
      unfold itW
      rw [e, if_pos rfl]
      exact hs k
theorem bfs_it {w : Web} (h : okW w) {p : Nat} (hp : p < w.1) {N : Nat} (hN : w.1 + 1 ≤ N) : ∃ s', itW bfCond (bfStep w.2) N (bf0 w p) = some s' ∧ bfs w p = s'.1.1 := by
  obtain ⟨s', hs⟩ := itW_ends h w.1 (bf0 w p) (bf0_BI hp) (by omega)
  have e : N = w.1 + (N - w.1 - 1) + 1 := by omega
  refine ⟨s', by rw [e]; exact hs _, ?_⟩
  have h0 := hs 0
  unfold bfs
  rw [Nat.add_zero] at h0
  rw [h0]
  rfl
abbrev oF (f : List (Option Nat)) : List O := (f.map optD).map .fz
theorem oF_len (f : List (Option Nat)) : (oF f).length = f.length := by simp
theorem oF_get {f : List (Option Nat)} {q : Nat} {x : Option Nat} (h : f[q]? = some x) : (oF f)[q]? = some (.fz (optD x)) := by simp [h]
theorem oF_set {f : List (Option Nat)} {q : Nat} {x : Option Nat} : (oF f).set q (.fz (optD x)) = oF (f.set q x) := by simp [List.map_set]
abbrev oN (l : List Nat) : List O := (l.map nD).map .fz
theorem oN_app {l : List Nat} {q : Nat} : oN l ++ [.fz (nD q)] = oN (l ++ [q]) := by simp
theorem at_ol {os : List O} {i : Nat} {x : O} (h : os[i]? = some x) : (O.ol os).at ((i : Nat) : Int) = .ok x := by
  show (match L2.atI os ((i : Nat) : Int) with
    | some o => R.ok o
    | none => R.bad) = _
  rw [atI_n h]
/-- the inner loop's turn -/
theorem in_turn {cd : String → List D → R D} {N n : Nat} {x0 x1 x4 : Option O} {f : List (Option Nat)} {o : List Nat} {here d q : Nat} (b : BI n (f, o)) (hn : n ≤ 1000) (hq : q < n) (hd : f[here]? = some (some d)) :
    ∃ g', ((Tg.n 6).put (nD q) [x0, x1, some (.ol (oF f)), some (.ol (oN o)), x4, some (.fz (nD here)), none, none]).thn [x0, x1, some (.ol (oF f)), some (.ol (oN o)), x4, some (.fz (nD here)), none, none] (fun g => Ss.exs cd N (.cons (.ite (.isN false (.ix (.var 2) (.var 6))) (.cons (.setI 2 (.var 6) (.bin .add (.ix (.var 2) (.var 5)) (.int 1))) (.cons (.app 3 false (.var 6)) .nil)) .nil) .nil) g) = .nx g' ∧
      wipe g' [6] = [x0, x1, some (.ol (oF (inS d (f, o) q).1)), some (.ol (oN (inS d (f, o) q).2)), x4, some (.fz (nD here)), none, none] := by
  have hl : q < f.length := by rw [b.len]; exact hq
  obtain ⟨x, hx⟩ : ∃ x, f[q]? = some x := ⟨_, List.getElem?_eq_getElem hl⟩
  have a1 := at_ol (oF_get hx)
  have a2 := at_ol (oF_get hd)
  have l1 : szOk (oN o).length = true := by
    have := b.le
    unfold szOk
    simp
    simp only at this
    omega
  have l2 : setL (oF f) ((q : Nat) : Int) (.fz (.int ((d : Int) + 1))) = .ok (oF (f.set q (some (d + 1)))) := by
    rw [setL_n (by rw [oF_len]; exact hl)]
    exact congrArg R.ok (oF_set (x := some (d + 1)))
  cases x with
  | none =>
    refine ⟨[x0, x1, some (.ol (oF (f.set q (some (d + 1))))), some (.ol (oN (o ++ [q]))), x4, some (.fz (nD here)), some (.fz (nD q)), none], ?_, ?_⟩
    · simp [-List.map_map, -List.length_map, a1, a2, optD, isNone, slotL, l2, putS, l1, oN_app]
    · simp only [inS, hx, if_true]
      rfl
  | some e =>
    refine ⟨[x0, x1, some (.ol (oF f)), some (.ol (oN o)), x4, some (.fz (nD here)), some (.fz (nD q)), none], ?_, ?_⟩
    · simp [-List.map_map, -List.length_map, a1, optD, isNone]
    · simp only [inS, hx]
      rfl
theorem in_loop {cd : String → List D → R D} {N : Nat} {w : Web} {x1 x4 : Option O} {f : List (Option Nat)} {o : List Nat} {here d : Nat} (h : okW w) (hcd : cd "neighbours" [webD w, nD here] = .ok (tupN (nb w.2 here))) (b : BI w.1 (f, o)) (hd : f[here]? = some (some d)) :
    S.ex cd N (.for_ (.n 6) (.seq (.call "neighbours" (.cons (.var 0) (.cons (.var 5) .nil)))) (.cons (.ite (.isN false (.ix (.var 2) (.var 6))) (.cons (.setI 2 (.var 6) (.bin .add (.ix (.var 2) (.var 5)) (.int 1))) (.cons (.app 3 false (.var 6)) .nil)) .nil) .nil) [6])
      [some (.fz (webD w)), x1, some (.ol (oF f)), some (.ol (oN o)), x4, some (.fz (nD here)), none, none] =
    .nx [some (.fz (webD w)), x1, some (.ol (oF ((nb w.2 here).foldl (inS d) (f, o)).1)), some (.ol (oN ((nb w.2 here).foldl (inS d) (f, o)).2)), x4, some (.fz (nD here)), none, none] := by
  have q : It.evi cd (.seq (.call "neighbours" (.cons (.var 0) (.cons (.var 5) .nil)))) [some (.fz (webD w)), x1, some (.ol (oF f)), some (.ol (oN o)), x4, some (.fz (nD here)), none, none] = .ok ((nb w.2 here).map nD) := by
    simp [hcd, tupN]
  rw [ex_for, q, R.thn_ok]
  exact (forL_foldI nD (fun s : Bf => [some (O.fz (webD w)), x1, some (.ol (oF s.1)), some (.ol (oN s.2)), x4, some (.fz (nD here)), none, none]) (inS d) (fun s => BI w.1 s ∧ s.1[here]? = some (some d)) (nb w.2 here) (f, o) ⟨b, hd⟩ fun s i q hq => by
    obtain ⟨g', h1, h2⟩ := in_turn (cd := cd) (N := N) (x0 := some (O.fz (webD w))) (x1 := x1) (x4 := x4) (f := s.1) (o := s.2) i.1 h.1 (nb_lt h hq) i.2
    exact ⟨⟨i.1.step (nb_lt h hq), inS_keep i.2⟩, g', .inl h1, h2⟩).1
abbrev gBf (w : Web) (p : Nat) (s : Bf × Nat) : Env := [some (O.fz (webD w)), some (.fz (nD p)), some (.ol (oF s.1.1)), some (.ol (oN s.1.2)), some (.fz (nD s.2)), none, none, none]
theorem bf_body {cd : String → List D → R D} {N : Nat} {w : Web} {p : Nat} {s : Bf × Nat} (h : okW w) (hcd : ∀ q, cd "neighbours" [webD w, nD q] = .ok (tupN (nb w.2 q))) (b : BI w.1 s.1) (hc : bfCond s = true) :
    ∃ g', Ss.exs cd N (.cons (.set 5 false (.ix (.var 3) (.var 4))) (.cons (.for_ (.n 6) (.seq (.call "neighbours" (.cons (.var 0) (.cons (.var 5) .nil)))) (.cons (.ite (.isN false (.ix (.var 2) (.var 6))) (.cons (.setI 2 (.var 6) (.bin .add (.ix (.var 2) (.var 5)) (.int 1))) (.cons (.app 3 false (.var 6)) .nil)) .nil) .nil) [6])
      (.cons (.set 4 false (.bin .add (.var 4) (.int 1))) .nil))) (gBf w p s) = .nx g' ∧ wipe g' [5, 6] = gBf w p (bfStep w.2 s) := by
  obtain ⟨⟨f, o⟩, at_⟩ := s
  have hlt : at_ < o.length := by simpa [bfCond] using hc
  have e1 : o[at_]? = some o[at_] := List.getElem?_eq_getElem hlt
  obtain ⟨d, hd⟩ := b.ord o[at_] (List.getElem_mem hlt)
  have a1 : (O.ol (oN o)).at ((at_ : Nat) : Int) = .ok (.fz (nD o[at_])) := at_ol (by simp [e1])
  have k := in_loop (N := N) (x1 := some (O.fz (nD p))) (x4 := some (O.fz (nD at_))) (here := o[at_]) h (hcd _) b hd
  have eh : hereOf ((f, o), at_) = o[at_] := by simp [hereOf, e1]
  have ed : dOf f o[at_] = d := by simp only at hd; simp [dOf, hd]
  refine ⟨[some (.fz (webD w)), some (.fz (nD p)), some (.ol (oF ((nb w.2 o[at_]).foldl (inS d) (f, o)).1)), some (.ol (oN ((nb w.2 o[at_]).foldl (inS d) (f, o)).2)), some (.fz (.int ((at_ : Int) + 1))), some (.fz (nD o[at_])), none, none], ?_, ?_⟩
  · simp [-ex_for, -List.map_map, -List.length_map, a1, putS, k]
  · unfold bfStep
    rw [eh, ed]
    rfl
/-- the loop of steps_from -/
def bfB : Ss := .cons (.set 5 false (.ix (.var 3) (.var 4))) (.cons (.for_ (.n 6) (.seq (.call "neighbours" (.cons (.var 0) (.cons (.var 5) .nil)))) (.cons (.ite (.isN false (.ix (.var 2) (.var 6))) (.cons (.setI 2 (.var 6) (.bin .add (.ix (.var 2) (.var 5)) (.int 1))) (.cons (.app 3 false (.var 6)) .nil)) .nil) .nil) [6])
      (.cons (.set 4 false (.bin .add (.var 4) (.int 1))) .nil))
theorem rng_n (n : Nat) : rngD 0 ((n : Nat) : Int).toNat = (List.range n).map nD := by
  unfold rngD
  simp
theorem map_const_n {α : Type} (x : α) (n : Nat) : (List.range n).map (fun _ => x) = List.replicate n x := by
  induction n with
  | zero => rfl
  | succ n ih => rw [List.range_succ, List.map_append, ih, List.replicate_succ']; rfl
end Q

set_option Elab.async false
set_option linter.all false
set_option maxRecDepth 100000
set_option maxHeartbeats 1000000
/-! P3: steps_from runs. -/
namespace Q
open PySem
theorem bf_while {cd : String → List D → R D} {N : Nat} {w : Web} {p : Nat} (h : okW w) (hp : p < w.1) (hN : w.1 + 1 ≤ N) (hcd : ∀ q, cd "neighbours" [webD w, nD q] = .ok (tupN (nb w.2 q))) :
    ∃ s', bfs w p = s'.1.1 ∧ S.ex cd N (.while_ (.cmp .lt (.var 4) (.bi .len (.cons (.var 3) .nil))) bfB [5, 6]) (gBf w p (bf0 w p)) = .nx (gBf w p s') := by
  obtain ⟨s', h1, h2⟩ := bfs_it h hp hN
  refine ⟨s', h2, ?_⟩
  rw [ex_while]
  refine (whileL_it (gBf w p) bfCond (bfStep w.2) (fun s => BI w.1 s.1) N (bf0 w p) s' (bf0_BI hp) (fun s _ => ?_) (fun s i hc => ?_) h1).1
  · simp [bfCond]
  · obtain ⟨g', q1, q2⟩ := bf_body (N := N) (p := p) h hcd i hc
    exact ⟨i.bf h, g', .inl q1, q2⟩
theorem sz_le {n : Nat} (h : n ≤ 1000000) : szOk n = true := decide_eq_true h
theorem rng_ok {n : Nat} (h : n ≤ 1000000) : rngOk ((n : Nat) : Int) = true := decide_eq_true ⟨by omega, by omega⟩
theorem web_n {w : Web} : (O.fz (webD w)).at 0 = .ok (.fz (nD w.1)) := rfl
theorem web_t {w : Web} : (O.fz (webD w)).at 1 = .ok (.fz (.tuple (w.2.map prD))) := rfl
theorem nones_run {cd : String → List D → R D} {w : Web} {x1 x2 x3 x4 x5 x6 x7 : Option O} (h : w.1 ≤ 1000) :
    E.ev cd (.comp (.n 7) [("k", 7)] (.rng1 (.ix (.var 0) (.int 0))) .no .non) [some (.fz (webD w)), x1, x2, x3, x4, x5, x6, x7] = .ok (.fz (.list ((List.replicate w.1 none).map optD))) := by
  have q : It.evi cd (.rng1 (.ix (.var 0) (.int 0))) [some (.fz (webD w)), x1, x2, x3, x4, x5, x6, x7] = .ok ((List.range w.1).map nD) := by
    rw [evi_rng1, ev_ix]
    show (((O.fz (webD w)).at 0 >>= O.asD) >>= fun x => asInt x >>= fun j => if rngOk j then R.ok (rngD 0 j.toNat) else .bad) = _
    rw [web_n, R.ok_bind, asD_fz, R.ok_bind, asInt_int, R.ok_bind, if_pos (rng_ok (by omega)), rng_n]
  have l1 : szOk ((List.range w.1).map nD).length = true := sz_le (by simp; omega)
  rw [ev_compS, q, R.ok_bind, if_pos l1, compL_all nD (fun _ => .none) (List.range w.1) fun x _ => by simp [turnE, wipe], R.ok_bind, map_const_n, List.map_replicate]
  rfl
theorem start_set {w : Web} {p : Nat} (hp : p < w.1) : setL (oF (List.replicate w.1 none)) ((p : Nat) : Int) (.fz (.int 0)) = .ok (oF ((List.replicate w.1 none).set p (some 0))) := by
  rw [setL_n (by rw [oF_len]; simpa using hp)]
  rw [← oF_set]
  rfl
theorem bf_while2 {cd : String → List D → R D} {N : Nat} {w : Web} {p : Nat} (h : okW w) (hp : p < w.1) (hN : w.1 + 1 ≤ N) (hcd : ∀ q, cd "neighbours" [webD w, nD q] = .ok (tupN (nb w.2 q))) :
    ∃ s' : Bf × Nat, bfs w p = s'.1.1 ∧ S.ex cd N (.while_ (.cmp .lt (.var 4) (.bi .len (.cons (.var 3) .nil))) bfB [5, 6])
      [some (.fz (webD w)), some (.fz (nD p)), some (.ol (oF ((List.replicate w.1 none).set p (some 0)))), some (.ol [.fz (nD p)]), some (.fz (.int 0)), none, none, none] = .nx (gBf w p s') := by
  obtain ⟨s', e, k⟩ := bf_while h hp hN hcd
  exact ⟨s', e, k⟩
theorem run_of {F : Fn} {cd : String → List D → R D} {N : Nat} {ds : List D} {d : D} {g : Env} (hl : ds.length = F.np) (hg : ds.map (fun d => some (O.fz d)) ++ List.replicate (F.names.length - ds.length) none = g) (h : Ss.exs cd N F.body g = .rt d) : F.run cd N ds = .ok d := by
  unfold Fn.run
  rw [if_pos hl, hg, h]
theorem steps_run {cd : String → List D → R D} {N : Nat} {w : Web} {p : Nat} (h : okW w) (hp : p < w.1) (hN : w.1 + 1 ≤ N) (hcd : ∀ q, cd "neighbours" [webD w, nD q] = .ok (tupN (nb w.2 q))) : f_steps_from.run cd N [webD w, nD p] = .ok (.tuple ((bfs w p).map optD)) := by
  obtain ⟨s', e, k1⟩ := bf_while2 h hp hN hcd
  unfold bfB at k1
  refine run_of (g := [some (.fz (webD w)), some (.fz (nD p)), none, none, none, none, none, none]) rfl rfl ?_
  rw [e]
  unfold f_steps_from
  have r1 : S.ex cd N (.set 2 true (.comp (.n 7) [("k", 7)] (.rng1 (.ix (.var 0) (.int 0))) .no .non)) [some (.fz (webD w)), some (.fz (nD p)), none, none, none, none, none, none] = .nx [some (.fz (webD w)), some (.fz (nD p)), some (.ol (oF (List.replicate w.1 none))), none, none, none, none, none] := by
    rw [ex_setO, nones_run h.1]
    rfl
  have r2 : S.ex cd N (.setI 2 (.var 1) (.int 0)) [some (.fz (webD w)), some (.fz (nD p)), some (.ol (oF (List.replicate w.1 none))), none, none, none, none, none] = .nx [some (.fz (webD w)), some (.fz (nD p)), some (.ol (oF ((List.replicate w.1 none).set p (some 0)))), none, none, none, none, none] := by
    have e1 := start_set hp
    rw [ex_setI]
    show (setL (oF (List.replicate w.1 none)) ((p : Nat) : Int) (.fz (.int 0))).thn _ _ = _
    rw [e1]
    rfl
  rw [exs_cons, r1, SO.thn_nx, exs_cons, r2, SO.thn_nx]
  have r3 : S.ex cd N (.set 3 true (.lst (.cons (.var 1) .nil))) [some (.fz (webD w)), some (.fz (nD p)), some (.ol (oF ((List.replicate w.1 none).set p (some 0)))), none, none, none, none, none] = .nx [some (.fz (webD w)), some (.fz (nD p)), some (.ol (oF ((List.replicate w.1 none).set p (some 0)))), some (.ol [.fz (nD p)]), none, none, none, none] := by
    rw [ex_setO, ev_lst]
    rfl
  have r4 : S.ex cd N (.set 4 false (.int 0)) [some (.fz (webD w)), some (.fz (nD p)), some (.ol (oF ((List.replicate w.1 none).set p (some 0)))), some (.ol [.fz (nD p)]), none, none, none, none] = .nx [some (.fz (webD w)), some (.fz (nD p)), some (.ol (oF ((List.replicate w.1 none).set p (some 0)))), some (.ol [.fz (nD p)]), some (.fz (.int 0)), none, none, none] := by
    rw [ex_setF]
    rfl
  rw [exs_cons, r3, SO.thn_nx, exs_cons, r4, SO.thn_nx, exs_cons, k1, SO.thn_nx]
  have t1 : ∀ f : List (Option Nat), (O.ol (oF f)).toD = .list (f.map optD) := fun f => toD_ol
  rw [exs_frz]
  show (R.ok (O.ol (oF s'.1.1))).thn _ _ = _
  rw [R.thn_ok, t1, exs_frz]
  show (R.ok (O.ol (oN s'.1.2))).thn _ _ = _
  rw [R.thn_ok, exs_cons, ex_ret, ev_bi]
  rfl
end Q

set_option Elab.async false
set_option linter.all false
set_option maxRecDepth 100000
set_option maxHeartbeats 1000000
/-! P4: equality of encoded data; all_steps, row_in, blurred_in, choose, all_marks, least_marks. -/
namespace Q
open PySem
/-! ### shapes -/
def Pl (k : Nat) (d : D) : Prop := d.canLay0 = true ∧ d.depth ≤ k
theorem Pl.sh {k : Nat} {d : D} (h : Pl k d) (hk : k ≤ 64) : SeqAt.shaped d = true := by
  unfold SeqAt.shaped
  rw [h.1, decide_eq_true (Nat.le_trans h.2 hk)]
  rfl
theorem pl_int {k : Nat} {i : Int} : Pl k (.int i) := ⟨rfl, Nat.zero_le _⟩
theorem pl_none {k : Nat} : Pl k .none := ⟨rfl, Nat.zero_le _⟩
theorem pl_bool {k : Nat} {b : Bool} : Pl k (.bool b) := ⟨rfl, Nat.zero_le _⟩
theorem pl_all {k : Nat} : ∀ {ds : List D}, (∀ d ∈ ds, Pl k d) → PyData.canLayAll0 ds = true ∧ PyData.depthAll ds ≤ k
  | [], _ => ⟨rfl, Nat.zero_le _⟩
  | d :: ds, h => by
    obtain ⟨h1, h2⟩ := pl_all (ds := ds) fun x hx => h x (List.mem_cons_of_mem _ hx)
    obtain ⟨h3, h4⟩ := h d (List.mem_cons_self ..)
    refine ⟨by simp only [PyData.canLayAll0, h1, h3, Bool.and_self], ?_⟩
    simp only [PyData.depthAll]
    omega
theorem pl_tup {k : Nat} {ds : List D} (h : ∀ d ∈ ds, Pl k d) : Pl (k + 1) (.tuple ds) := by
  obtain ⟨h1, h2⟩ := pl_all h
  exact ⟨h1, Nat.succ_le_succ h2⟩
theorem pl_lst {k : Nat} {ds : List D} (h : ∀ d ∈ ds, Pl k d) : Pl (k + 1) (.list ds) := by
  obtain ⟨h1, h2⟩ := pl_all h
  exact ⟨h1, Nat.succ_le_succ h2⟩
theorem pl_map {α : Type} {k : Nat} {enc : α → D} (h : ∀ a, Pl k (enc a)) (l : List α) : ∀ d ∈ l.map enc, Pl k d := by
  intro d hd
  obtain ⟨a, _, rfl⟩ := List.mem_map.mp hd
  exact h a
theorem pl_opt {k : Nat} (x : Option Nat) : Pl k (optD x) := by cases x <;> exact ⟨rfl, Nat.zero_le _⟩
theorem pl_n {k : Nat} (x : Nat) : Pl k (nD x) := pl_int
/-! ### equality -/
def EqE {α : Type} [DecidableEq α] (enc : α → D) : Prop := ∀ a b, PyData.eqv (enc a) (enc b) = decide (a = b)
theorem eqe_n : EqE nD := fun a b => by
  show ((a : Int) == (b : Int)) = _
  by_cases h : a = b
  · subst h; simp
  · have : ¬ ((a : Int) = b) := by omega
    simp [h, this]
theorem eqe_opt : EqE optD
  | none, none => rfl
  | none, some b => rfl
  | some a, none => rfl
  | some a, some b => by
    have := eqe_n a b
    show PyData.eqv (nD a) (nD b) = _
    rw [this]
    simp
theorem eqe_all {α : Type} [DecidableEq α] {enc : α → D} (h : EqE enc) : ∀ as bs : List α, PyData.eqvAll (as.map enc) (bs.map enc) = decide (as = bs)
  | [], [] => by simp [PyData.eqvAll]
  | [], _ :: _ => by simp [PyData.eqvAll]
  | _ :: _, [] => by simp [PyData.eqvAll]
  | a :: as, b :: bs => by
    simp only [List.map_cons, PyData.eqvAll, h a b, eqe_all h as bs, List.cons.injEq]
    by_cases h1 : a = b <;> by_cases h2 : as = bs <;> simp [h1, h2]
theorem eqe_tup {α : Type} [DecidableEq α] {enc : α → D} (h : EqE enc) : EqE fun l : List α => .tuple (l.map enc) := fun a b => eqe_all h a b
theorem eqe_lst {α : Type} [DecidableEq α] {enc : α → D} (h : EqE enc) : EqE fun l : List α => .list (l.map enc) := fun a b => eqe_all h a b
theorem cop_eq {α : Type} [DecidableEq α] {enc : α → D} (h : EqE enc) {k : Nat} (hp : ∀ a, Pl k (enc a)) (hk : k ≤ 64) (a b : α) : cop .eq (enc a) (enc b) = .ok (decide (a = b)) := by
  have e : cop .eq (enc a) (enc b) = if SeqAt.shaped (enc a) && SeqAt.shaped (enc b) then .ok (PyData.eqv (enc a) (enc b)) else .bad := by
    cases enc a <;> rfl
  rw [e, (hp a).sh hk, (hp b).sh hk, h a b]
  rfl
theorem cop_ne {α : Type} [DecidableEq α] {enc : α → D} (h : EqE enc) {k : Nat} (hp : ∀ a, Pl k (enc a)) (hk : k ≤ 64) (a b : α) : cop .ne (enc a) (enc b) = .ok (!decide (a = b)) := by
  have e : cop .ne (enc a) (enc b) = if SeqAt.shaped (enc a) && SeqAt.shaped (enc b) then .ok (!PyData.eqv (enc a) (enc b)) else .bad := by
    cases enc a <;> rfl
  rw [e, (hp a).sh hk, (hp b).sh hk, h a b]
  rfl
/-! ### all_steps -/
abbrev stD (st : List (List (Option Nat))) : D := .list (st.map fun r => .tuple (r.map optD))
def allSteps (w : Web) : List (List (Option Nat)) := (List.range w.1).map (bfs w)
theorem evi_rng_n {cd : String → List D → R D} {g : Env} {a : E} {n : Nat} (h : (E.ev cd a g) = .ok (.fz (nD n))) (hn : n ≤ 1000000) : It.evi cd (.rng1 a) g = .ok ((List.range n).map nD) := by
  rw [evi_rng1, h, R.ok_bind, asD_fz, R.ok_bind, asInt_int, R.ok_bind, if_pos (rng_ok hn), rng_n]
theorem allSteps_run {cd : String → List D → R D} {N : Nat} {w : Web} (h : okW w) (hcd : ∀ p, p < w.1 → cd "steps_from" [webD w, nD p] = .ok (.tuple ((bfs w p).map optD))) : f_all_steps.run cd N [webD w] = .ok (stD (allSteps w)) := by
  have e : E.ev cd (.comp (.n 1) [("place", 1)] (.rng1 (.ix (.var 0) (.int 0))) .no (.call "steps_from" (.cons (.var 0) (.cons (.var 1) .nil)))) [some (.fz (webD w)), none] = .ok (.fz (stD (allSteps w))) := by
    rw [ev_compS, evi_rng_n (n := w.1) rfl (by have := h.1; omega), R.ok_bind, if_pos (sz_le (by have := h.1; simp; omega)), compL_all nD (fun p => .tuple ((bfs w p).map optD)) (List.range w.1) fun p hp => ?_, R.ok_bind, stD, allSteps, List.map_map]
    · rfl
    · have hc := hcd p (List.mem_range.mp hp)
      show (((cd "steps_from" [webD w, nD p]) >>= fun d => R.ok (O.fz d)) >>= O.asD) >>= _ = _
      rw [hc]
      rfl
  refine run_of (g := [some (.fz (webD w)), none]) rfl rfl ?_
  unfold f_all_steps
  rw [exs_cons, ex_ret, e]
  rfl
/-! ### row_in -/
def stAt (st : List (List (Option Nat))) (m p : Nat) : Option Nat := ((st[m]?).getD [])[p]?.getD none
def rowIn (st : List (List (Option Nat))) (ms : List Nat) (p : Nat) : List (Option Nat) := ms.map fun m => stAt st m p
def okS (n : Nat) (st : List (List (Option Nat))) : Prop := n ≤ 1000 ∧ st.length = n ∧ ∀ r ∈ st, r.length = n
theorem okS.at {n : Nat} {st : List (List (Option Nat))} (h : okS n st) {m p : Nat} (hm : m < n) (hp : p < n) : ∃ r, st[m]? = some r ∧ r[p]? = some (stAt st m p) := by
  have hl : m < st.length := by rw [h.2.1]; exact hm
  have e : st[m]? = some st[m] := List.getElem?_eq_getElem hl
  have hr : p < st[m].length := by rw [h.2.2 _ (List.getElem_mem hl)]; exact hp
  refine ⟨st[m], e, ?_⟩
  unfold stAt
  rw [e, Option.getD_some, List.getElem?_eq_getElem hr]
  rfl
theorem at_list {ds : List D} {i : Nat} {x : D} (h : ds[i]? = some x) : (O.fz (.list ds)).at ((i : Nat) : Int) = .ok (.fz x) := by
  show (match L2.atI ds ((i : Nat) : Int) with
    | some o => R.ok (O.fz o)
    | none => R.bad) = _
  rw [atI_n h]
theorem at_tup {ds : List D} {i : Nat} {x : D} (h : ds[i]? = some x) : (O.fz (.tuple ds)).at ((i : Nat) : Int) = .ok (.fz x) := by
  show (match L2.atI ds ((i : Nat) : Int) with
    | some o => R.ok (O.fz o)
    | none => R.bad) = _
  rw [atI_n h]
theorem okS.at2 {n : Nat} {st : List (List (Option Nat))} (h : okS n st) {m p : Nat} (hm : m < n) (hp : p < n) : ((O.fz (stD st)).at ((m : Nat) : Int) >>= fun x => x.at ((p : Nat) : Int)) = .ok (.fz (optD (stAt st m p))) := by
  obtain ⟨r, h1, h2⟩ := h.at hm hp
  rw [at_list (x := .tuple (r.map optD)) (by simp [h1]), R.ok_bind, at_tup (x := optD (stAt st m p)) (by simp [h2])]
theorem row_run {cd : String → List D → R D} {N n : Nat} {st : List (List (Option Nat))} {ms : List Nat} {p : Nat} (h : okS n st) (hm : ∀ m ∈ ms, m < n) (hl : ms.length ≤ 1000) (hp : p < n) : f_row_in.run cd N [stD st, tupN ms, nD p] = .ok (.tuple ((rowIn st ms p).map optD)) := by
  have e : E.ev cd (.comp (.n 3) [("mark", 3)] (.seq (.var 1)) .no (.ix (.ix (.var 0) (.var 3)) (.var 2))) [some (.fz (stD st)), some (.fz (tupN ms)), some (.fz (nD p)), none] = .ok (.fz (.list ((rowIn st ms p).map optD))) := by
    have q : It.evi cd (.seq (.var 1)) [some (.fz (stD st)), some (.fz (tupN ms)), some (.fz (nD p)), none] = .ok (ms.map nD) := rfl
    rw [ev_compS, q, R.ok_bind, if_pos (sz_le (by simp; omega)), compL_all nD (fun m => optD (stAt st m p)) ms fun m hmm => ?_, R.ok_bind, rowIn, List.map_map]
    · rfl
    · have a := h.at2 (hm m hmm) hp
      have e2 : turnE cd (.n 3) ([("mark", 3)].map (·.2)) .no (.ix (.ix (.var 0) (.var 3)) (.var 2)) [some (.fz (stD st)), some (.fz (tupN ms)), some (.fz (nD p)), none] (nD m) = ((((O.fz (stD st)).at ((m : Nat) : Int) >>= fun x => x.at ((p : Nat) : Int)) >>= O.asD) >>= fun x => R.ok (some x)) := by
        show ((E.ev cd (.ix (.ix (.var 0) (.var 3)) (.var 2)) [some (.fz (stD st)), some (.fz (tupN ms)), some (.fz (nD p)), some (.fz (nD m))]) >>= O.asD) >>= _ = _
        rw [ev_ix, ev_ix]
        rfl
      rw [e2, a]
      rfl
  refine run_of (g := [some (.fz (stD st)), some (.fz (tupN ms)), some (.fz (nD p)), none]) rfl rfl ?_
  unfold f_row_in
  rw [exs_cons, ex_ret, ev_bi, evo_cons, e]
  rfl
end Q

set_option Elab.async false
set_option linter.all false
set_option maxRecDepth 100000
set_option maxHeartbeats 1000000
/-! P5: blurred_in, choose, all_marks, least_marks, how_far. -/
namespace Q
open PySem
theorem foldl_app {α β : Type} (f : α → List β) : ∀ (l : List α) (acc : List β), l.foldl (fun s a => s ++ f a) acc = acc ++ l.flatMap f
  | [], acc => by simp
  | x :: l, acc => by rw [List.foldl_cons, foldl_app f l, List.flatMap_cons, List.append_assoc]
theorem rng_from (a n : Nat) : rngD ((a : Nat) : Int) n = (List.range' a n).map nD := by
  unfold rngD
  rw [List.range'_eq_map_range, List.map_map]
  refine List.map_congr_left fun i _ => ?_
  show PyData.int ((a : Int) + i) = PyData.int ((a + i : Nat) : Int)
  rw [Int.natCast_add]
theorem evi_rng2_n {cd : String → List D → R D} {g : Env} {a b : E} {i j : Nat} (ha : (E.ev cd a g) = .ok (.fz (nD i))) (hb : (E.ev cd b g) = .ok (.fz (nD j))) (hi : i ≤ 1000000) (hj : j ≤ 1000000) : It.evi cd (.rng2 a b) g = .ok ((List.range' i (j - i)).map nD) := by
  have e2 : ((j : Int) - (i : Int)).toNat = j - i := by omega
  rw [evi_rng2, ha, R.ok_bind, asD_fz, R.ok_bind, asInt_int, R.ok_bind, hb, R.ok_bind, asD_fz, R.ok_bind, asInt_int, R.ok_bind, rng_ok hi, rng_ok hj, Bool.and_self, if_pos rfl, e2, rng_from]
abbrev oP (l : List (Nat × Nat)) : List O := (l.map prD).map .fz
def blRow (st : List (List (Option Nat))) (ms : List Nat) (n a : Nat) : List (Nat × Nat) := ((List.range' (a + 1) (n - (a + 1))).filter fun b => decide (rowIn st ms a = rowIn st ms b)).map fun b => (a, b)
def blurredIn (n : Nat) (st : List (List (Option Nat))) (ms : List Nat) : List (Nat × Nat) := (List.range n).flatMap (blRow st ms n)
abbrev rowD (r : List (Option Nat)) : D := .tuple (r.map optD)
theorem eqe_row : EqE rowD := eqe_tup eqe_opt
theorem pl_row (r : List (Option Nat)) : Pl 1 (rowD r) := pl_tup (pl_map pl_opt r)
def rowsD (st : List (List (Option Nat))) (ms : List Nat) (n : Nat) : D := .list ((List.range n).map fun p => rowD (rowIn st ms p))
theorem rows_at {st : List (List (Option Nat))} {ms : List Nat} {n p : Nat} (h : p < n) : (O.fz (rowsD st ms n)).at ((p : Nat) : Int) = .ok (.fz (rowD (rowIn st ms p))) := at_list (by simp [h])
theorem blRow_run {cd : String → List D → R D} {n a : Nat} {st : List (List (Option Nat))} {ms : List Nat} {x0 x1 x2 x5 x6 : Option O} (hn : n ≤ 1000) (ha : a < n) :
    E.ev cd (.comp (.n 6) [("other", 6)] (.rng2 (.bin .add (.var 4) (.int 1)) (.bi .len (.cons (.var 3) .nil))) (.so (.cmp .eq (.ix (.var 3) (.var 4)) (.ix (.var 3) (.var 6)))) (.tup (.cons (.var 4) (.cons (.var 6) .nil))))
      [x0, x1, x2, some (.fz (rowsD st ms n)), some (.fz (nD a)), x5, x6] = .ok (.fz (.list ((blRow st ms n a).map prD))) := by
  have hr : (rowsD st ms n) = .list ((List.range n).map fun p => rowD (rowIn st ms p)) := rfl
  have q : It.evi cd (.rng2 (.bin .add (.var 4) (.int 1)) (.bi .len (.cons (.var 3) .nil))) [x0, x1, x2, some (.fz (rowsD st ms n)), some (.fz (nD a)), x5, x6] = .ok ((List.range' (a + 1) (n - (a + 1))).map nD) := by
    have ea : E.ev cd (.bin .add (.var 4) (.int 1)) [x0, x1, x2, some (.fz (rowsD st ms n)), some (.fz (nD a)), x5, x6] = .ok (.fz (nD (a + 1))) := by
      rw [ev_bin]; rfl
    have el : E.ev cd (.bi .len (.cons (.var 3) .nil)) [x0, x1, x2, some (.fz (rowsD st ms n)), some (.fz (nD a)), x5, x6] = .ok (.fz (nD n)) := by
      have e : E.ev cd (.bi .len (.cons (.var 3) .nil)) [x0, x1, x2, some (.fz (rowsD st ms n)), some (.fz (nD a)), x5, x6] = .ok (.fz (nD ((List.range n).map fun p => rowD (rowIn st ms p)).length)) := by
        rw [ev_bi]; rfl
      rw [e, List.length_map, List.length_range]
    exact evi_rng2_n ea el (by omega) (by omega)
  rw [ev_compS, q, R.ok_bind, if_pos (sz_le (by simp; omega)), compL_map nD (fun b => decide (rowIn st ms a = rowIn st ms b)) (fun b => prD (a, b)) (List.range' (a + 1) (n - (a + 1))) fun b hb => ?_, R.ok_bind, blRow, List.map_map]
  · rfl
  · have hb2 : b < n := by
      rw [List.mem_range'_1] at hb
      omega
    have e : turnE cd (.n 6) ([("other", 6)].map (·.2)) (.so (.cmp .eq (.ix (.var 3) (.var 4)) (.ix (.var 3) (.var 6)))) (.tup (.cons (.var 4) (.cons (.var 6) .nil))) [x0, x1, x2, some (.fz (rowsD st ms n)), some (.fz (nD a)), x5, x6] (nD b) =
        ((((O.fz (rowsD st ms n)).at ((a : Nat) : Int) >>= O.asD) >>= fun x => (O.fz (rowsD st ms n)).at ((b : Nat) : Int) >>= fun y => cop .eq x y.toD >>= fun z => R.ok (O.fz (.bool z))) >>= fun x => truth x.toD) >>= fun k => if k then R.ok (some (prD (a, b))) else R.ok none := by
      show (Oe.evt cd (.so (.cmp .eq (.ix (.var 3) (.var 4)) (.ix (.var 3) (.var 6)))) [x0, x1, x2, some (.fz (rowsD st ms n)), some (.fz (nD a)), x5, some (.fz (nD b))]) >>= _ = _
      rw [evt_so, ev_cmp, ev_ix, ev_ix]
      rfl
    rw [e, rows_at ha, R.ok_bind, asD_fz, R.ok_bind, rows_at hb2, R.ok_bind, toD_fz, cop_eq eqe_row pl_row (by decide), R.ok_bind, R.ok_bind, toD_fz, truth_bool, R.ok_bind]
    cases decide (rowIn st ms a = rowIn st ms b) <;> rfl
theorem blurred_run {cd : String → List D → R D} {N n : Nat} {st : List (List (Option Nat))} {ms : List Nat} (h : okS n st) (hm : ∀ m ∈ ms, m < n) (hl : ms.length ≤ 1000)
    (hcd : ∀ p, p < n → cd "row_in" [stD st, tupN ms, nD p] = .ok (rowD (rowIn st ms p))) : f_blurred_in.run cd N [stD st, tupN ms] = .ok (.list ((blurredIn n st ms).map prD)) := by
  have hn := h.1
  refine run_of (g := [some (.fz (stD st)), some (.fz (tupN ms)), none, none, none, none, none]) rfl rfl ?_
  unfold f_blurred_in
  have r1 : S.ex cd N (.set 2 true (.lst .nil)) [some (.fz (stD st)), some (.fz (tupN ms)), none, none, none, none, none] = .nx [some (.fz (stD st)), some (.fz (tupN ms)), some (.ol (oP [])), none, none, none, none] := by
    rw [ex_setO, ev_lst]; rfl
  have e2 : E.ev cd (.comp (.n 5) [("place", 5)] (.rng1 (.bi .len (.cons (.var 0) .nil))) .no (.call "row_in" (.cons (.var 0) (.cons (.var 1) (.cons (.var 5) .nil))))) [some (.fz (stD st)), some (.fz (tupN ms)), some (.ol (oP [])), none, none, none, none] = .ok (.fz (rowsD st ms n)) := by
    have el : E.ev cd (.bi .len (.cons (.var 0) .nil)) [some (.fz (stD st)), some (.fz (tupN ms)), some (.ol (oP [])), none, none, none, none] = .ok (.fz (nD n)) := by
      have e : E.ev cd (.bi .len (.cons (.var 0) .nil)) [some (.fz (stD st)), some (.fz (tupN ms)), some (.ol (oP [])), none, none, none, none] = .ok (.fz (nD (st.map fun r => PyData.tuple (r.map optD)).length)) := by
        rw [ev_bi]; rfl
      rw [e, List.length_map, h.2.1]
    rw [ev_compS, evi_rng_n el (by omega), R.ok_bind, if_pos (sz_le (by simp; omega)), compL_all nD (fun p => rowD (rowIn st ms p)) (List.range n) fun p hp => ?_, R.ok_bind]
    · rfl
    · have hc := hcd p (List.mem_range.mp hp)
      show (((cd "row_in" [stD st, tupN ms, nD p]) >>= fun d => R.ok (O.fz d)) >>= O.asD) >>= _ = _
      rw [hc]
      rfl
  have r2 : S.ex cd N (.set 3 false (.comp (.n 5) [("place", 5)] (.rng1 (.bi .len (.cons (.var 0) .nil))) .no (.call "row_in" (.cons (.var 0) (.cons (.var 1) (.cons (.var 5) .nil)))))) [some (.fz (stD st)), some (.fz (tupN ms)), some (.ol (oP [])), none, none, none, none] =
      .nx [some (.fz (stD st)), some (.fz (tupN ms)), some (.ol (oP [])), some (.fz (rowsD st ms n)), none, none, none] := by
    rw [ex_setF, e2]; rfl
  have el3 : E.ev cd (.bi .len (.cons (.var 3) .nil)) [some (.fz (stD st)), some (.fz (tupN ms)), some (.ol (oP [])), some (.fz (rowsD st ms n)), none, none, none] = .ok (.fz (nD n)) := by
    have e : E.ev cd (.bi .len (.cons (.var 3) .nil)) [some (.fz (stD st)), some (.fz (tupN ms)), some (.ol (oP [])), some (.fz (rowsD st ms n)), none, none, none] = .ok (.fz (nD ((List.range n).map fun p => rowD (rowIn st ms p)).length)) := by
      rw [ev_bi]; rfl
    rw [e, List.length_map, List.length_range]
  rw [exs_cons, r1, SO.thn_nx, exs_cons, r2, SO.thn_nx, exs_cons, ex_for, evi_rng_n el3 (by omega), R.thn_ok]
  have lp := (forL_foldN (body := fun d g => ((Tg.n 4).put d g).thn g fun g => Ss.exs cd N (.cons (.ext 2 (.comp (.n 6) [("other", 6)] (.rng2 (.bin .add (.var 4) (.int 1)) (.bi .len (.cons (.var 3) .nil))) (.so (.cmp .eq (.ix (.var 3) (.var 4)) (.ix (.var 3) (.var 6)))) (.tup (.cons (.var 4) (.cons (.var 6) .nil))))) .nil) g) (clr := [4])
    nD (fun s : List (Nat × Nat) => [some (.fz (stD st)), some (.fz (tupN ms)), some (.ol (oP s)), some (.fz (rowsD st ms n)), none, none, none]) (fun s a => s ++ blRow st ms n a) (fun i s => s.length ≤ i * n) (List.range n) 0 [] (by simp) fun i s hi I a ha => ?_).1
  · rw [lp, foldl_app, List.nil_append, SO.thn_nx, exs_frz]
    show (R.ok (O.ol (oP (blurredIn n st ms)))).thn _ _ = _
    rw [R.thn_ok, toD_ol, exs_cons, ex_ret]
    rfl
  · have ha := List.mem_range.mp ha
    have hi : i < n := by simpa using hi
    have lr : (blRow st ms n a).length ≤ n := by
      unfold blRow
      rw [List.length_map]
      refine Nat.le_trans (List.length_filter_le _ _) ?_
      rw [List.length_range']
      omega
    have l2 : (i + 1) * n ≤ 1000000 := by
      have : (i + 1) * n ≤ 1000 * 1000 := Nat.mul_le_mul (by omega) hn
      omega
    have l3 : (i + 1) * n = i * n + n := Nat.succ_mul i n
    refine ⟨by simp only [List.length_append]; omega, [some (.fz (stD st)), some (.fz (tupN ms)), some (.ol (oP (s ++ blRow st ms n a))), some (.fz (rowsD st ms n)), some (.fz (nD a)), none, none], .inl ?_, rfl⟩
    have p4 : (Tg.n 4).put (nD a) [some (.fz (stD st)), some (.fz (tupN ms)), some (.ol (oP s)), some (.fz (rowsD st ms n)), none, none, none] = .ok [some (.fz (stD st)), some (.fz (tupN ms)), some (.ol (oP s)), some (.fz (rowsD st ms n)), some (.fz (nD a)), none, none] := rfl
    have p2 : slotL [some (.fz (stD st)), some (.fz (tupN ms)), some (.ol (oP s)), some (.fz (rowsD st ms n)), some (.fz (nD a)), none, none] 2 = .ok (oP s) := rfl
    have e : oP s ++ ((blRow st ms n a).map prD).map .fz = oP (s ++ blRow st ms n a) := by simp
    rw [p4, R.thn_ok, exs_cons, ex_ext, p2, R.thn_ok, blRow_run hn ha, R.ok_bind, asD_fz, R.thn_ok]
    show SO.thn (if szOk ((oP s).length + ((blRow st ms n a).map prD).length) then putS _ 2 (.ol (oP s ++ ((blRow st ms n a).map prD).map .fz)) else .bad) _ = _
    rw [if_pos (sz_le (by simp; omega)), e]
    rfl
end Q

set_option Elab.async false
set_option linter.all false
set_option maxRecDepth 100000
set_option maxHeartbeats 1000000
/-! P6: choose, all_marks, least_marks, how_far. -/
namespace Q
open PySem
def chooseL : Nat → List Nat → List (List Nat)
  | 0, _ => [[]]
  | _ + 1, [] => []
  | m + 1, x :: xs => (chooseL m xs).map (x :: ·) ++ chooseL (m + 1) xs
theorem chooseL_len : ∀ (m : Nat) (l : List Nat), (chooseL m l).length ≤ 2 ^ l.length
  | 0, l => by
    unfold chooseL
    exact Nat.one_le_two_pow
  | _ + 1, [] => Nat.zero_le _
  | m + 1, x :: xs => by
    have h1 := chooseL_len m xs
    have h2 := chooseL_len (m + 1) xs
    unfold chooseL
    rw [List.length_append, List.length_map, List.length_cons, Nat.pow_succ]
    omega
theorem chooseL_each : ∀ (m : Nat) (l : List Nat) (r : List Nat), r ∈ chooseL m l → r.length = m
  | 0, l, r, h => by
    unfold chooseL at h
    simp at h; subst h; rfl
  | _ + 1, [], r, h => by
    unfold chooseL at h
    cases h
  | m + 1, x :: xs, r, h => by
    unfold chooseL at h
    rcases List.mem_append.mp h with h | h
    · obtain ⟨q, hq, rfl⟩ := List.mem_map.mp h
      rw [List.length_cons, chooseL_each m xs q hq]
    · exact chooseL_each (m + 1) xs r h
theorem chooseL_sub : ∀ (m : Nat) (l : List Nat) (r : List Nat), r ∈ chooseL m l → ∀ x ∈ r, x ∈ l
  | 0, l, r, h => by
    unfold chooseL at h
    simp at h; subst h; simp
  | _ + 1, [], r, h => by
    unfold chooseL at h
    cases h
  | m + 1, y :: xs, r, h => by
    unfold chooseL at h
    rcases List.mem_append.mp h with h | h
    · obtain ⟨q, hq, rfl⟩ := List.mem_map.mp h
      intro x hx
      rcases List.mem_cons.mp hx with e | hx
      · subst e; exact List.mem_cons_self ..
      · exact List.mem_cons_of_mem _ (chooseL_sub m xs q hq x hx)
    · exact fun x hx => List.mem_cons_of_mem _ (chooseL_sub (m + 1) xs r h x hx)
def enumN : Nat → List Nat → List (Nat × Nat)
  | _, [] => []
  | k, x :: xs => (k, x) :: enumN (k + 1) xs
theorem enum_n : ∀ (l : List Nat) (k : Nat), enumD k (l.map nD) = (enumN k l).map prD
  | [], _ => rfl
  | x :: xs, k => by
    rw [List.map_cons, enumD, enum_n xs (k + 1), enumN, List.map_cons]
    rfl
theorem enumN_len : ∀ (l : List Nat) (k : Nat), (enumN k l).length = l.length
  | [], _ => rfl
  | x :: xs, k => by rw [enumN, List.length_cons, enumN_len xs, List.length_cons]
theorem choose_flat {m : Nat} {l : List Nat} : ∀ (t : List Nat) (k : Nat), l.drop k = t → (enumN k t).flatMap (fun q => (chooseL m (l.drop (q.1 + 1))).map (q.2 :: ·)) = chooseL (m + 1) t
  | [], k, _ => rfl
  | x :: xs, k, h => by
    have h1 : l.drop (k + 1) = xs := by
      rw [← List.drop_drop, h]; rfl
    rw [enumN, List.flatMap_cons, h1, choose_flat xs (k + 1) h1]
    rfl
theorem cut_from {α : Type} {xs : List α} {k : Nat} (h : k ≤ xs.length) : cutD xs (some ((k : Nat) : Int)) none = xs.drop k := by
  unfold cutD
  rw [HT.sIx_nat, HT.sIx_none, Nat.min_eq_left h, ← List.length_drop, List.take_length]
abbrev tupsO (l : List (List Nat)) : List O := (l.map tupN).map .fz
abbrev listN (l : List Nat) : D := .list (l.map nD)
abbrev chG (l : List Nat) (m : Nat) (s : List (List Nat)) : Env := [some (.fz (listN l)), some (.fz (nD m)), some (.ol (tupsO s)), none, none, none]
theorem ch_comp {cd : String → List D → R D} {l : List Nat} {m k x : Nat} {x2 : Option O} (hl : l.length ≤ 14) (hm : m ≤ 1000) (hk : k < l.length) (ih : cd "choose" [listN (l.drop (k + 1)), nD m] = .ok (.list ((chooseL m (l.drop (k + 1))).map tupN))) :
    E.ev cd (.comp (.n 5) [("rest", 5)] (.seq (.call "choose" (.cons (.sl (.var 0) (.so (.bin .add (.var 3) (.int 1))) .no) (.cons (.bin .sub (.var 1) (.int 1)) .nil)))) .no (.bin .add (.tup (.cons (.var 4) .nil)) (.var 5)))
      [some (.fz (listN l)), some (.fz (nD (m + 1))), x2, some (.fz (nD k)), some (.fz (nD x)), none] = .ok (.fz (.list (((chooseL m (l.drop (k + 1))).map (x :: ·)).map tupN))) := by
  have e1 : E.ev cd (.sl (.var 0) (.so (.bin .add (.var 3) (.int 1))) .no) [some (.fz (listN l)), some (.fz (nD (m + 1))), x2, some (.fz (nD k)), some (.fz (nD x)), none] = .ok (.fz (listN (l.drop (k + 1)))) := by
    have ea : E.ev cd (.bin .add (.var 3) (.int 1)) [some (.fz (listN l)), some (.fz (nD (m + 1))), x2, some (.fz (nD k)), some (.fz (nD x)), none] = .ok (.fz (nD (k + 1))) := by
      rw [ev_bin]; rfl
    have ev : E.ev cd (.var 0) [some (.fz (listN l)), some (.fz (nD (m + 1))), x2, some (.fz (nD k)), some (.fz (nD x)), none] = .ok (.fz (listN l)) := rfl
    have ec : (O.fz (listN l)).cut (some ((k + 1 : Nat) : Int)) none = .ok (.list (cutD (l.map nD) (some ((k + 1 : Nat) : Int)) none)) := rfl
    rw [ev_sl, ev, R.ok_bind, evi_so, ea, R.ok_bind, asD_fz, R.ok_bind, asInt_int, R.ok_bind, R.ok_bind, evi_no, R.ok_bind, ec, R.ok_bind, cut_from (by simp; omega), ← List.map_drop]
  have e2 : E.ev cd (.bin .sub (.var 1) (.int 1)) [some (.fz (listN l)), some (.fz (nD (m + 1))), x2, some (.fz (nD k)), some (.fz (nD x)), none] = .ok (.fz (nD m)) := by
    have e : E.ev cd (.bin .sub (.var 1) (.int 1)) [some (.fz (listN l)), some (.fz (nD (m + 1))), x2, some (.fz (nD k)), some (.fz (nD x)), none] = .ok (.fz (.int (((m + 1 : Nat) : Int) - 1))) := by
      rw [ev_bin]; rfl
    rw [e, show ((m + 1 : Nat) : Int) - 1 = (m : Int) by omega]
  have q : It.evi cd (.seq (.call "choose" (.cons (.sl (.var 0) (.so (.bin .add (.var 3) (.int 1))) .no) (.cons (.bin .sub (.var 1) (.int 1)) .nil)))) [some (.fz (listN l)), some (.fz (nD (m + 1))), x2, some (.fz (nD k)), some (.fz (nD x)), none] = .ok ((chooseL m (l.drop (k + 1))).map tupN) := by
    rw [evi_seq, ev_call, evo_cons, e1, R.ok_bind, evo_cons, e2, R.ok_bind, evo_nil, R.ok_bind, R.ok_bind, R.ok_bind, fzAll_cons, fzAll_cons, fzAll_nil, R.ok_bind, R.ok_bind, R.ok_bind, ih]
    rfl
  have hc := chooseL_len m (l.drop (k + 1))
  have hp : 2 ^ (l.drop (k + 1)).length ≤ 2 ^ 14 := Nat.pow_le_pow_right (by decide) (by rw [List.length_drop]; omega)
  rw [ev_compS, q, R.ok_bind, if_pos (sz_le (by rw [List.length_map]; omega)), compL_all tupN (fun r => tupN (x :: r)) (chooseL m (l.drop (k + 1))) fun r hr => ?_, R.ok_bind, List.map_map]
  · rfl
  · have hr2 := chooseL_each m _ r hr
    have e : turnE cd (.n 5) ([("rest", 5)].map (·.2)) .no (.bin .add (.tup (.cons (.var 4) .nil)) (.var 5)) [some (.fz (listN l)), some (.fz (nD (m + 1))), x2, some (.fz (nD k)), some (.fz (nD x)), none] (tupN r) =
        ((E.ev cd (.bin .add (.tup (.cons (.var 4) .nil)) (.var 5)) [some (.fz (listN l)), some (.fz (nD (m + 1))), x2, some (.fz (nD k)), some (.fz (nD x)), some (.fz (tupN r))]) >>= O.asD) >>= fun x => R.ok (some x) := rfl
    have ev : E.ev cd (.var 5) [some (.fz (listN l)), some (.fz (nD (m + 1))), x2, some (.fz (nD k)), some (.fz (nD x)), some (.fz (tupN r))] = .ok (.fz (tupN r)) := rfl
    have et : E.ev cd (.tup (.cons (.var 4) .nil)) [some (.fz (listN l)), some (.fz (nD (m + 1))), x2, some (.fz (nD k)), some (.fz (nD x)), some (.fz (tupN r))] = .ok (.fz (.tuple [nD x])) := by
      rw [ev_tup]; rfl
    have eb : bop .add (.tuple [nD x]) (tupN r) = .ok (tupN (x :: r)) := by
      show (if szOk ([nD x].length + (r.map nD).length) then R.ok (PyData.tuple ([nD x] ++ r.map nD)) else .bad) = _
      rw [if_pos (sz_le (by simp; omega))]
      rfl
    rw [e, ev_bin, et, R.ok_bind, asD_fz, R.ok_bind, ev, R.ok_bind, asD_fz, R.ok_bind, eb]
    rfl
theorem choose_run {T : String → Option Fn} {N : Nat} (hT : ∀ n ds, callD T N (n + 1) "choose" ds = f_choose.run (callD T N n) N ds) : ∀ (m : Nat) (l : List Nat) (n : Nat), l.length ≤ 14 → m ≤ 1000 → m < n → callD T N n "choose" [listN l, nD m] = .ok (.list ((chooseL m l).map tupN))
  | _, _, 0, _, _, h => by omega
  | 0, l, n + 1, _, _, _ => by
    rw [hT]
    refine run_of (g := [some (.fz (listN l)), some (.fz (nD 0)), none, none, none, none]) rfl rfl ?_
    unfold f_choose
    have e : E.ev (callD T N n) (.cmp .eq (.var 1) (.int 0)) [some (.fz (listN l)), some (.fz (nD 0)), none, none, none, none] = .ok (.fz (.bool true)) := by
      rw [ev_cmp]; rfl
    have r0 : S.ex (callD T N n) N (.ite (.cmp .eq (.var 1) (.int 0)) (.cons (.ret (.lst (.cons (.tup .nil) .nil))) .nil) .nil) [some (.fz (listN l)), some (.fz (nD 0)), none, none, none, none] = .rt (.list [tupN []]) := by
      rw [ex_ite, e, R.ok_bind, toD_fz, truth_bool, R.thn_ok, if_pos rfl, exs_cons, ex_ret, ev_lst, evo_cons, ev_tup]
      rfl
    have e0 : chooseL 0 l = [[]] := by unfold chooseL; rfl
    rw [exs_cons, r0, e0]
    rfl
  | m + 1, l, n + 1, hl, hm, h => by
    rw [hT]
    refine run_of (g := [some (.fz (listN l)), some (.fz (nD (m + 1))), none, none, none, none]) rfl rfl ?_
    unfold f_choose
    have e : E.ev (callD T N n) (.cmp .eq (.var 1) (.int 0)) [some (.fz (listN l)), some (.fz (nD (m + 1))), none, none, none, none] = .ok (.fz (.bool false)) := by
      have e0 : E.ev (callD T N n) (.cmp .eq (.var 1) (.int 0)) [some (.fz (listN l)), some (.fz (nD (m + 1))), none, none, none, none] = (cop .eq (nD (m + 1)) (nD 0) >>= fun z => R.ok (O.fz (.bool z))) := by
        rw [ev_cmp]; rfl
      rw [e0, cop_eq eqe_n (k := 0) (fun a => pl_n a) (by decide)]
      simp
    have r0 : S.ex (callD T N n) N (.ite (.cmp .eq (.var 1) (.int 0)) (.cons (.ret (.lst (.cons (.tup .nil) .nil))) .nil) .nil) [some (.fz (listN l)), some (.fz (nD (m + 1))), none, none, none, none] = .nx [some (.fz (listN l)), some (.fz (nD (m + 1))), none, none, none, none] := by
      rw [ex_ite, e]; rfl
    have r1 : S.ex (callD T N n) N (.set 2 true (.lst .nil)) [some (.fz (listN l)), some (.fz (nD (m + 1))), none, none, none, none] = .nx (chG l (m + 1) []) := by
      rw [ex_setO, ev_lst]; rfl
    have q : It.evi (callD T N n) (.enum (.var 0)) (chG l (m + 1) []) = .ok ((enumN 0 l).map prD) := by
      have q0 : It.evi (callD T N n) (.enum (.var 0)) (chG l (m + 1) []) = .ok (enumD 0 (l.map nD)) := by
        rw [evi_enum]; rfl
      rw [q0, enum_n]
    have lp := (forL_foldN (body := fun d g => ((Tg.cons (.n 3) (.cons (.n 4) .nil)).put d g).thn g fun g => Ss.exs (callD T N n) N (.cons (.ext 2 (.comp (.n 5) [("rest", 5)] (.seq (.call "choose" (.cons (.sl (.var 0) (.so (.bin .add (.var 3) (.int 1))) .no) (.cons (.bin .sub (.var 1) (.int 1)) .nil)))) .no (.bin .add (.tup (.cons (.var 4) .nil)) (.var 5)))) .nil) g) (clr := [3, 4])
      prD (chG l (m + 1)) (fun s q => s ++ (chooseL m (l.drop (q.1 + 1))).map (q.2 :: ·)) (fun i s => s.length ≤ i * 16384) (enumN 0 l) 0 [] (by simp) fun i s hi I t ht => ?_).1
    · rw [exs_cons, r0, SO.thn_nx, exs_cons, r1, SO.thn_nx, exs_cons, ex_for, q, R.thn_ok, lp, foldl_app (fun q : Nat × Nat => (chooseL m (l.drop (q.1 + 1))).map (q.2 :: ·)), List.nil_append, choose_flat l 0 rfl, SO.thn_nx, exs_frz]
      show (R.ok (O.ol (tupsO (chooseL (m + 1) l)))).thn _ _ = _
      rw [R.thn_ok, toD_ol, exs_cons, ex_ret]
      rfl
    · obtain ⟨k, x⟩ := t
      have hk : k < l.length := by
        have : ∀ (t : List Nat) (j : Nat), (k, x) ∈ enumN j t → k < j + t.length := by
          intro t
          induction t with
          | nil => intro j h; cases h
          | cons y t ih =>
            intro j h
            rcases List.mem_cons.mp h with h | h
            · cases h; simp
            · have := ih (j + 1) h
              simp only [List.length_cons]; omega
        simpa using this l 0 ht
      rw [enumN_len] at hi
      have hc := chooseL_len m (l.drop (k + 1))
      have hp : 2 ^ (l.drop (k + 1)).length ≤ 2 ^ 14 := Nat.pow_le_pow_right (by decide) (by rw [List.length_drop]; omega)
      have e14 : 2 ^ 14 = 16384 := by decide
      have ih := choose_run (N := N) hT m (l.drop (k + 1)) n (by rw [List.length_drop]; omega) (by omega) (by omega)
      have ev := ch_comp (x := x) (x2 := some (.ol (tupsO s))) hl (by omega) hk ih
      refine ⟨by simp only [List.length_append, List.length_map]; omega, [some (.fz (listN l)), some (.fz (nD (m + 1))), some (.ol (tupsO (s ++ (chooseL m (l.drop (k + 1))).map (x :: ·)))), some (.fz (nD k)), some (.fz (nD x)), none], .inl ?_, rfl⟩
      have p4 : (Tg.cons (.n 3) (.cons (.n 4) .nil)).put (prD (k, x)) (chG l (m + 1) s) = .ok [some (.fz (listN l)), some (.fz (nD (m + 1))), some (.ol (tupsO s)), some (.fz (nD k)), some (.fz (nD x)), none] := rfl
      have p2 : slotL [some (.fz (listN l)), some (.fz (nD (m + 1))), some (.ol (tupsO s)), some (.fz (nD k)), some (.fz (nD x)), none] 2 = .ok (tupsO s) := rfl
      have e : tupsO s ++ (((chooseL m (l.drop (k + 1))).map (x :: ·)).map tupN).map .fz = tupsO (s ++ (chooseL m (l.drop (k + 1))).map (x :: ·)) := by simp
      rw [p4, R.thn_ok, exs_cons, ex_ext, p2, R.thn_ok, ev, R.ok_bind, asD_fz, R.thn_ok]
      show SO.thn (if szOk ((tupsO s).length + (((chooseL m (l.drop (k + 1))).map (x :: ·)).map tupN).length) then putS _ 2 (.ol (tupsO s ++ (((chooseL m (l.drop (k + 1))).map (x :: ·)).map tupN).map .fz)) else .bad) _ = _
      rw [if_pos (sz_le (by simp only [List.length_map]; omega)), e]
      rfl
/-! ### all_marks, least_marks -/
theorem rgD_n {t : Bool} {n : Nat} (hn : n ≤ 1000000) : rgD t 0 ((n : Nat) : Int) = .ok (.fz (if t then tupN (List.range n) else listN (List.range n))) := by
  have e3 : ((n : Int) - 0).toNat = n := by omega
  have z : rngOk 0 = true := rng_ok (n := 0) (by decide)
  have e5 := rng_n n
  have e4 : ((n : Nat) : Int).toNat = n := by omega
  rw [e4] at e5
  unfold rgD
  rw [e3, z, rng_ok (by omega), sz_le (by omega), Bool.and_self, Bool.and_self, if_pos rfl, e5]
  cases t <;> rfl
theorem ev_rg1_n {cd : String → List D → R D} {g : Env} {t : Bool} {a : E} {n : Nat} (h : (E.ev cd a g) = .ok (.fz (nD n))) (hn : n ≤ 1000000) : E.ev cd (.rg1 t a) g = .ok (.fz (if t then tupN (List.range n) else listN (List.range n))) := by
  rw [ev_rg1, h, R.ok_bind, asD_fz, R.ok_bind, asInt_int, R.ok_bind, rgD_n hn]
def allMarks (n : Nat) : List (List Nat) := (List.range (n + 1)).flatMap fun m => chooseL m (List.range n)
theorem allMarks_run {cd : String → List D → R D} {N n : Nat} (hn : n ≤ 14) (hcd : ∀ m, m ≤ n → cd "choose" [listN (List.range n), nD m] = .ok (.list ((chooseL m (List.range n)).map tupN))) : f_all_marks.run cd N [nD n] = .ok (.list ((allMarks n).map tupN)) := by
  refine run_of (g := [some (.fz (nD n)), none, none]) rfl rfl ?_
  unfold f_all_marks
  have r1 : S.ex cd N (.set 1 true (.lst .nil)) [some (.fz (nD n)), none, none] = .nx [some (.fz (nD n)), some (.ol (tupsO [])), none] := by
    rw [ex_setO, ev_lst]; rfl
  have e1 : E.ev cd (.bin .add (.var 0) (.int 1)) [some (.fz (nD n)), some (.ol (tupsO [])), none] = .ok (.fz (nD (n + 1))) := by
    rw [ev_bin]; rfl
  have lp := (forL_foldN (body := fun d g => ((Tg.n 2).put d g).thn g fun g => Ss.exs cd N (.cons (.ext 1 (.call "choose" (.cons (.rg1 false (.var 0)) (.cons (.var 2) .nil)))) .nil) g) (clr := [2])
    nD (fun s : List (List Nat) => [some (.fz (nD n)), some (.ol (tupsO s)), none]) (fun s m => s ++ chooseL m (List.range n)) (fun i s => s.length ≤ i * 16384) (List.range (n + 1)) 0 [] (by simp) fun i s hi I m hm => ?_).1
  · rw [exs_cons, r1, SO.thn_nx, exs_cons, ex_for, evi_rng_n e1 (by omega), R.thn_ok, lp, foldl_app, List.nil_append, SO.thn_nx, exs_frz]
    show (R.ok (O.ol (tupsO (allMarks n)))).thn _ _ = _
    rw [R.thn_ok, toD_ol, exs_cons, ex_ret]
    rfl
  · have hm := List.mem_range.mp hm
    rw [List.length_range] at hi
    have hc := chooseL_len m (List.range n)
    have hp : 2 ^ (List.range n).length ≤ 2 ^ 14 := Nat.pow_le_pow_right (by decide) (by rw [List.length_range]; exact hn)
    have e14 : 2 ^ 14 = 16384 := by decide
    refine ⟨by simp only [List.length_append]; omega, [some (.fz (nD n)), some (.ol (tupsO (s ++ chooseL m (List.range n)))), some (.fz (nD m))], .inl ?_, rfl⟩
    have p4 : (Tg.n 2).put (nD m) [some (.fz (nD n)), some (.ol (tupsO s)), none] = .ok [some (.fz (nD n)), some (.ol (tupsO s)), some (.fz (nD m))] := rfl
    have p2 : slotL [some (.fz (nD n)), some (.ol (tupsO s)), some (.fz (nD m))] 1 = .ok (tupsO s) := rfl
    have er : E.ev cd (.rg1 false (.var 0)) [some (.fz (nD n)), some (.ol (tupsO s)), some (.fz (nD m))] = .ok (.fz (listN (List.range n))) := by
      exact ev_rg1_n rfl (by omega)
    have ev : E.ev cd (.call "choose" (.cons (.rg1 false (.var 0)) (.cons (.var 2) .nil))) [some (.fz (nD n)), some (.ol (tupsO s)), some (.fz (nD m))] = .ok (.fz (.list ((chooseL m (List.range n)).map tupN))) := by
      have e2 : E.ev cd (.var 2) [some (.fz (nD n)), some (.ol (tupsO s)), some (.fz (nD m))] = .ok (.fz (nD m)) := rfl
      rw [ev_call, evo_cons, er, R.ok_bind, evo_cons, e2, R.ok_bind, evo_nil, R.ok_bind, R.ok_bind, R.ok_bind, fzAll_cons, fzAll_cons, fzAll_nil, R.ok_bind, R.ok_bind, R.ok_bind, hcd m (by omega)]
      rfl
    have e : tupsO s ++ ((chooseL m (List.range n)).map tupN).map .fz = tupsO (s ++ chooseL m (List.range n)) := by simp
    rw [p4, R.thn_ok, exs_cons, ex_ext, p2, R.thn_ok, ev, R.ok_bind, asD_fz, R.thn_ok]
    show SO.thn (if szOk ((tupsO s).length + ((chooseL m (List.range n)).map tupN).length) then putS _ 1 (.ol (tupsO s ++ ((chooseL m (List.range n)).map tupN).map .fz)) else .bad) _ = _
    rw [if_pos (sz_le (by simp only [List.length_map]; omega)), e]
    rfl
theorem mem_allMarks {n : Nat} {ms : List Nat} (h : ms ∈ allMarks n) : (∀ m ∈ ms, m < n) ∧ ms.length ≤ n := by
  unfold allMarks at h
  obtain ⟨k, hk, hm⟩ := List.mem_flatMap.mp h
  refine ⟨fun m hmm => List.mem_range.mp (chooseL_sub k _ ms hm m hmm), ?_⟩
  have := chooseL_each k _ ms hm
  have := List.mem_range.mp hk
  omega
theorem okS_all {w : Web} (h : okW w) (hb : ∀ p < w.1, (bfs w p).length = w.1) : okS w.1 (allSteps w) := by
  refine ⟨h.1, by simp [allSteps], fun r hr => ?_⟩
  unfold allSteps at hr
  obtain ⟨p, hp, rfl⟩ := List.mem_map.mp hr
  exact hb p (List.mem_range.mp hp)
def leastMarks (w : Web) : Option (List Nat) := (allMarks w.1).find? fun ms => (blurredIn w.1 (allSteps w) ms).isEmpty
def optM : Option (List Nat) → D
  | none => .none
  | some ms => tupN ms
theorem least_run {cd : String → List D → R D} {N : Nat} {w : Web} (hn : w.1 ≤ 14)
    (h1 : cd "all_steps" [webD w] = .ok (stD (allSteps w))) (h2 : cd "all_marks" [nD w.1] = .ok (.list ((allMarks w.1).map tupN)))
    (h3 : ∀ ms ∈ allMarks w.1, cd "blurred_in" [stD (allSteps w), tupN ms] = .ok (.list ((blurredIn w.1 (allSteps w) ms).map prD))) : f_least_marks.run cd N [webD w] = .ok (optM (leastMarks w)) := by
  refine run_of (g := [some (.fz (webD w)), none, none]) rfl rfl ?_
  unfold f_least_marks
  have r1 : S.ex cd N (.set 1 false (.call "all_steps" (.cons (.var 0) .nil))) [some (.fz (webD w)), none, none] = .nx [some (.fz (webD w)), some (.fz (stD (allSteps w))), none] := by
    have e : E.ev cd (.call "all_steps" (.cons (.var 0) .nil)) [some (.fz (webD w)), none, none] = .ok (.fz (stD (allSteps w))) := by
      have ev : E.ev cd (.var 0) [some (.fz (webD w)), none, none] = .ok (.fz (webD w)) := rfl
      rw [ev_call, evo_cons, ev, R.ok_bind, evo_nil, R.ok_bind, R.ok_bind, fzAll_cons, fzAll_nil, R.ok_bind, R.ok_bind, h1]
      rfl
    rw [ex_setF, e]
    rfl
  have q : It.evi cd (.seq (.call "all_marks" (.cons (.ix (.var 0) (.int 0)) .nil))) [some (.fz (webD w)), some (.fz (stD (allSteps w))), none] = .ok ((allMarks w.1).map tupN) := by
    have ev : E.ev cd (.ix (.var 0) (.int 0)) [some (.fz (webD w)), some (.fz (stD (allSteps w))), none] = .ok (.fz (nD w.1)) := by
      rw [ev_ix]; rfl
    rw [evi_seq, ev_call, evo_cons, ev, R.ok_bind, evo_nil, R.ok_bind, R.ok_bind, fzAll_cons, fzAll_nil, R.ok_bind, R.ok_bind, h2]
    rfl
  have lp := forL_find (body := fun d g => ((Tg.n 2).put d g).thn g fun g => Ss.exs cd N (.cons (.ite (.not (.call "blurred_in" (.cons (.var 1) (.cons (.var 2) .nil)))) (.cons (.ret (.var 2)) .nil) .nil) .nil) g) (clr := [2]) tupN (g := [some (.fz (webD w)), some (.fz (stD (allSteps w))), none])
    (fun ms => (blurredIn w.1 (allSteps w) ms).isEmpty) tupN (allMarks w.1) fun ms hms => ?_
  · rw [exs_cons, r1, SO.thn_nx, exs_cons, ex_for, q, R.thn_ok, lp]
    have el : List.find? (fun ms => (blurredIn w.1 (allSteps w) ms).isEmpty) (allMarks w.1) = leastMarks w := rfl
    rw [el]
    cases leastMarks w <;> rfl
  · have p4 : (Tg.n 2).put (tupN ms) [some (.fz (webD w)), some (.fz (stD (allSteps w))), none] = .ok [some (.fz (webD w)), some (.fz (stD (allSteps w))), some (.fz (tupN ms))] := rfl
    have e : E.ev cd (.not (.call "blurred_in" (.cons (.var 1) (.cons (.var 2) .nil)))) [some (.fz (webD w)), some (.fz (stD (allSteps w))), some (.fz (tupN ms))] = .ok (.fz (.bool (blurredIn w.1 (allSteps w) ms).isEmpty)) := by
      have e1 : E.ev cd (.var 1) [some (.fz (webD w)), some (.fz (stD (allSteps w))), some (.fz (tupN ms))] = .ok (.fz (stD (allSteps w))) := rfl
      have e2 : E.ev cd (.var 2) [some (.fz (webD w)), some (.fz (stD (allSteps w))), some (.fz (tupN ms))] = .ok (.fz (tupN ms)) := rfl
      rw [ev_notS, ev_call, evo_cons, e1, R.ok_bind, evo_cons, e2, R.ok_bind, evo_nil, R.ok_bind, R.ok_bind, R.ok_bind, fzAll_cons, fzAll_cons, fzAll_nil, R.ok_bind, R.ok_bind, R.ok_bind, h3 ms hms, R.ok_bind, R.ok_bind, toD_fz, truth_list, R.ok_bind, List.isEmpty_map, Bool.not_not]
    cases hb : (blurredIn w.1 (allSteps w) ms).isEmpty with
    | true =>
      refine .inl ⟨rfl, ?_⟩
      rw [p4, R.thn_ok, exs_cons, ex_ite, e, hb, R.ok_bind, toD_fz, truth_bool, R.thn_ok, if_pos rfl, exs_cons, ex_ret]
      rfl
    | false =>
      refine .inr ⟨rfl, [some (.fz (webD w)), some (.fz (stD (allSteps w))), some (.fz (tupN ms))], .inl ?_, rfl⟩
      rw [p4, R.thn_ok, exs_cons, ex_ite, e, hb, R.ok_bind, toD_fz, truth_bool, R.thn_ok, if_neg (by decide)]
      rfl
/-! ### how_far -/
theorem far_run {cd : String → List D → R D} {N : Nat} {w : Web} {a b : Nat} {x : Option Nat} (h : cd "steps_from" [webD w, nD a] = .ok (.tuple ((bfs w a).map optD))) (hx : (bfs w a)[b]? = some x) : f_how_far.run cd N [webD w, nD a, nD b] = .ok (optD x) := by
  refine run_of (g := [some (.fz (webD w)), some (.fz (nD a)), some (.fz (nD b))]) rfl rfl ?_
  unfold f_how_far
  have e : E.ev cd (.ix (.call "steps_from" (.cons (.var 0) (.cons (.var 1) .nil))) (.var 2)) [some (.fz (webD w)), some (.fz (nD a)), some (.fz (nD b))] = .ok (.fz (optD x)) := by
    have e1 : E.ev cd (.var 0) [some (.fz (webD w)), some (.fz (nD a)), some (.fz (nD b))] = .ok (.fz (webD w)) := rfl
    have e2 : E.ev cd (.var 1) [some (.fz (webD w)), some (.fz (nD a)), some (.fz (nD b))] = .ok (.fz (nD a)) := rfl
    have e3 : E.ev cd (.var 2) [some (.fz (webD w)), some (.fz (nD a)), some (.fz (nD b))] = .ok (.fz (nD b)) := rfl
    rw [ev_ix, ev_call, evo_cons, e1, R.ok_bind, evo_cons, e2, R.ok_bind, evo_nil, R.ok_bind, R.ok_bind, R.ok_bind, fzAll_cons, fzAll_cons, fzAll_nil, R.ok_bind, R.ok_bind, R.ok_bind, h, R.ok_bind, R.ok_bind, e3, R.ok_bind, asD_fz, R.ok_bind, asInt_int, R.ok_bind]
    exact at_tup (by simp [hx])
  rw [exs_cons, ex_ret, e]
  rfl
end Q

set_option Elab.async false
set_option linter.all false
set_option maxRecDepth 100000
set_option maxHeartbeats 1000000
/-! P7: more that a call answers, more that a text answers. -/
namespace Q
open PySem
def R.le {α : Type} (x y : R α) : Prop := x = .bad ∨ x = y
theorem R.le.refl {α : Type} {x : R α} : R.le x x := .inr rfl
theorem R.le.bind {α β : Type} {x y : R α} {f h : α → R β} (a : R.le x y) (b : ∀ v, R.le (f v) (h v)) : R.le (x >>= f) (y >>= h) := by
  rcases a with a | a
  · rw [a]; exact .inl rfl
  · rw [a]
    cases y with
    | ok v => exact b v
    | exc c => exact .inr rfl
    | bad => exact .inl rfl
theorem R.le.ite {α : Type} {c : Bool} {x y z w : R α} (a : R.le x z) (b : R.le y w) : R.le (if c then x else y) (if c then z else w) := by
  cases c
  · exact b
  · exact a
def SO.le (x y : SO) : Prop := x = .bad ∨ x = y
theorem SO.le.refl {x : SO} : SO.le x x := .inr rfl
theorem SO.le.thn {x y : SO} {f h : Env → SO} (a : SO.le x y) (b : ∀ v, SO.le (f v) (h v)) : SO.le (x.thn f) (y.thn h) := by
  rcases a with a | a
  · rw [a]; exact .inl rfl
  · rw [a]
    cases y with
    | nx v => exact b v
    | bad => exact .inl rfl
    | _ => exact .inr rfl
theorem R.le.thn {α : Type} {x y : R α} {g : Env} {f h : α → SO} (a : R.le x y) (b : ∀ v, SO.le (f v) (h v)) : SO.le (x.thn g f) (y.thn g h) := by
  rcases a with a | a
  · rw [a]; exact .inl rfl
  · rw [a]
    cases y with
    | ok v => exact b v
    | bad => exact .inl rfl
    | _ => exact .inr rfl
theorem SO.le.ite {c : Bool} {x y z w : SO} (a : SO.le x z) (b : SO.le y w) : SO.le (if c then x else y) (if c then z else w) := by
  cases c
  · exact b
  · exact a
theorem compL_le {f h : D → R (Option D)} (e : ∀ d, R.le (f d) (h d)) : ∀ ds, R.le (compL f ds) (compL h ds)
  | [] => .refl
  | d :: ds => by
    have ih := compL_le e ds
    rcases e d with a | a
    · left
      simp only [compL, a]
    · simp only [compL, a]
      cases h d with
      | ok o =>
        cases o with
        | none => exact ih
        | some x => exact ih.bind fun _ => .refl
      | exc c => exact .refl
      | bad => exact .refl
theorem forL_le {f h : D → Env → SO} {clr : List Nat} (e : ∀ d g, SO.le (f d g) (h d g)) : ∀ ds g, SO.le (forL f clr ds g) (forL h clr ds g)
  | [], _ => .refl
  | d :: ds, g => by
    rcases e d g with a | a
    · left
      simp only [forL, a]
    · simp only [forL, a]
      cases h d g with
      | nx g' => exact forL_le e ds _
      | ct g' => exact forL_le e ds _
      | _ => exact .refl
theorem whileL_le {t u : Env → R Bool} {f h : Env → SO} {clr : List Nat} (e1 : ∀ g, R.le (t g) (u g)) (e : ∀ g, SO.le (f g) (h g)) : ∀ n g, SO.le (whileL t f clr n g) (whileL u h clr n g)
  | 0, _ => .refl
  | n + 1, g => by
    simp only [whileL]
    refine (e1 g).thn fun b => ?_
    cases b with
    | false => exact .refl
    | true =>
      simp only [if_true]
      rcases e g with a | a
      · left; rw [a]
      · rw [a]
        cases h g with
        | nx g' => exact whileL_le e1 e n _
        | ct g' => exact whileL_le e1 e n _
        | _ => exact .refl
theorem popL_le {f h : D → Env → R Int} (e : ∀ d g, R.le (f d g) (h d g)) : ∀ ds xs g, R.le (popL f xs ds g) (popL h xs ds g)
  | [], xs, g => by
    simp only [popL]; exact .refl
  | d :: ds, xs, g => by
    simp only [popL]
    rcases e d g with a | a
    · left; rw [a]
    · rw [a]
      cases h d g with
      | ok i =>
        simp only
        cases L2.ixN xs.length i with
        | none => exact .refl
        | some j =>
          cases hx : xs[j]? with
          | none => simp only [hx]; exact .refl
          | some x => simp only [hx]; exact (popL_le e ds _ g).bind fun _ => .refl
      | exc c => exact .refl
      | bad => exact .refl
def CLe (cd cd' : String → List D → R D) : Prop := ∀ f ds, R.le (cd f ds) (cd' f ds)
section
variable {cd cd' : String → List D → R D} (h : CLe cd cd')
include h
mutual
theorem E.le : ∀ (e : E) (g : Env), R.le (E.ev cd e g) (E.ev cd' e g)
  | .var i, g => .refl
  | .non, g => .refl
  | .bl b, g => .refl
  | .int i, g => .refl
  | .str s, g => .refl
  | .bin o a b, g => by simp only [E.ev]; exact ((E.le a g).bind fun _ => .refl).bind fun _ => ((E.le b g).bind fun _ => .refl).bind fun _ => .refl
  | .cmp o a b, g => by simp only [E.ev]; exact ((E.le a g).bind fun _ => .refl).bind fun _ => (E.le b g).bind fun _ => .refl
  | .cmp2 o p a b c, g => by simp only [E.ev]; exact ((E.le a g).bind fun _ => .refl).bind fun _ => ((E.le b g).bind fun _ => .refl).bind fun _ => R.le.refl.bind fun _ => .ite (((E.le c g).bind fun _ => .refl).bind fun _ => .refl) .refl
  | .isN n a, g => by simp only [E.ev]; exact ((E.le a g).bind fun _ => .refl).bind fun _ => .refl
  | .and a b, g => by
    simp only [E.ev]
    refine ((E.le a g).bind fun _ => .refl).bind fun x => ?_
    cases x with
    | bool c => cases c <;> first | exact E.le b g | exact .refl
    | _ => exact .refl
  | .or a b, g => by
    simp only [E.ev]
    refine ((E.le a g).bind fun _ => .refl).bind fun x => ?_
    cases x with
    | bool c => cases c <;> first | exact E.le b g | exact .refl
    | _ => exact .refl
  | .not a, g => by simp only [E.ev]; exact (E.le a g).bind fun _ => .refl
  | .neg a, g => by simp only [E.ev]; exact ((E.le a g).bind fun _ => .refl).bind fun _ => .refl
  | .ite c a b, g => by simp only [E.ev]; exact (E.le c g).bind fun _ => R.le.refl.bind fun _ => .ite (E.le a g) (E.le b g)
  | .tup es, g => by simp only [E.ev]; exact (Es.le es g).bind fun _ => .refl
  | .lst es, g => by simp only [E.ev]; exact (Es.le es g).bind fun _ => .refl
  | .ix a b, g => by simp only [E.ev]; exact (E.le a g).bind fun _ => ((E.le b g).bind fun _ => .refl).bind fun _ => .refl
  | .sl a lo hi, g => by simp only [E.ev]; exact (E.le a g).bind fun _ => (Oe.lei lo g).bind fun _ => (Oe.lei hi g).bind fun _ => .refl
  | .call f es, g => by simp only [E.ev]; exact (Es.le es g).bind fun _ => R.le.refl.bind fun ds => (h f ds).bind fun _ => .refl
  | .bi b es, g => by simp only [E.ev]; exact (Es.le es g).bind fun _ => .refl
  | .isi a t, g => by simp only [E.ev]; exact ((E.le a g).bind fun _ => .refl).bind fun _ => .refl
  | .comp tg own it c e, g => by
    simp only [E.ev]
    refine (It.le it g).bind fun ds => .ite ((compL_le (fun d => ?_) ds).bind fun _ => .refl) .refl
    exact R.le.refl.bind fun g1 => (Oe.let c g1).bind fun k => .ite (((E.le e g1).bind fun _ => .refl).bind fun _ => .refl) .refl
  | .sset a, g => by simp only [E.ev]; exact (E.le a g).bind fun _ => .refl
  | .cmp3 o p q a b c d, g => by
    simp only [E.ev]
    refine ((E.le a g).bind fun _ => .refl).bind fun _ => ((E.le b g).bind fun _ => .refl).bind fun _ => R.le.refl.bind fun _ => .ite ?_ .refl
    exact ((E.le c g).bind fun _ => .refl).bind fun _ => R.le.refl.bind fun _ => .ite (((E.le d g).bind fun _ => .refl).bind fun _ => .refl) .refl
  | .rev t a, g => by simp only [E.ev]; exact ((E.le a g).bind fun _ => .refl).bind fun _ => .refl
  | .idx i b, g => by simp only [E.ev]; exact R.le.refl.bind fun _ => ((E.le b g).bind fun _ => .refl).bind fun _ => .refl
  | .rg1 t a, g => by simp only [E.ev]; exact ((E.le a g).bind fun _ => .refl).bind fun _ => .refl
  | .rg2 t a b, g => by simp only [E.ev]; exact ((E.le a g).bind fun _ => .refl).bind fun _ => R.le.refl.bind fun _ => ((E.le b g).bind fun _ => .refl).bind fun _ => .refl
theorem Es.le : ∀ (es : Es) (g : Env), R.le (Es.evo cd es g) (Es.evo cd' es g)
  | .nil, g => .refl
  | .cons e es, g => by simp only [Es.evo]; exact (E.le e g).bind fun _ => (Es.le es g).bind fun _ => .refl
theorem Oe.lei : ∀ (o : Oe) (g : Env), R.le (Oe.evi cd o g) (Oe.evi cd' o g)
  | .no, g => .refl
  | .so e, g => by simp only [Oe.evi]; exact ((E.le e g).bind fun _ => .refl).bind fun _ => .refl
theorem Oe.let : ∀ (o : Oe) (g : Env), R.le (Oe.evt cd o g) (Oe.evt cd' o g)
  | .no, g => .refl
  | .so e, g => by simp only [Oe.evt]; exact (E.le e g).bind fun _ => .refl
theorem It.le : ∀ (it : It) (g : Env), R.le (It.evi cd it g) (It.evi cd' it g)
  | .seqo e, g => by simp only [It.evi]; exact (E.le e g).bind fun _ => .refl
  | .seq e, g => by simp only [It.evi]; exact ((E.le e g).bind fun _ => .refl).bind fun _ => .refl
  | .rng1 a, g => by simp only [It.evi]; exact ((E.le a g).bind fun _ => .refl).bind fun _ => .refl
  | .rng2 a b, g => by simp only [It.evi]; exact ((E.le a g).bind fun _ => .refl).bind fun _ => R.le.refl.bind fun _ => ((E.le b g).bind fun _ => .refl).bind fun _ => .refl
  | .enum a, g => by simp only [It.evi]; exact ((E.le a g).bind fun _ => .refl).bind fun _ => .refl
  | .zip a b, g => by simp only [It.evi]; exact ((E.le a g).bind fun _ => .refl).bind fun _ => ((E.le b g).bind fun _ => .refl).bind fun _ => .refl
end
theorem E.leD (e : E) (g : Env) : R.le (E.ev cd e g >>= O.asD) (E.ev cd' e g >>= O.asD) := (E.le h e g).bind fun _ => .refl
theorem E.leI (e : E) (g : Env) : R.le ((E.ev cd e g >>= O.asD) >>= asInt) ((E.ev cd' e g >>= O.asD) >>= asInt) := (E.leD h e g).bind fun _ => .refl
variable {N : Nat}
mutual
theorem S.le : ∀ (s : S) (g : Env), SO.le (S.ex cd N s g) (S.ex cd' N s g)
  | .set i f e, g => by simp only [S.ex]; exact (E.leD h e g).thn fun _ => .refl
  | .setT t e, g => by simp only [S.ex]; exact (E.leD h e g).thn fun _ => .refl
  | .setI i b e, g => by simp only [S.ex]; exact (E.leD h e g).thn fun _ => R.le.refl.thn fun _ => (E.leI h b g).thn fun _ => .refl
  | .setJ i a b e, g => by simp only [S.ex]; exact (E.leD h e g).thn fun _ => R.le.refl.thn fun _ => (E.leI h a g).thn fun _ => R.le.refl.thn fun _ => (E.leI h b g).thn fun _ => .refl
  | .app i f e, g => by simp only [S.ex]; exact R.le.refl.thn fun _ => (E.leD h e g).thn fun _ => .refl
  | .ext i e, g => by simp only [S.ex]; exact R.le.refl.thn fun _ => (E.leD h e g).thn fun _ => .refl
  | .ret e, g => by simp only [S.ex]; exact (E.leD h e g).thn fun _ => .refl
  | .ite c a b, g => by simp only [S.ex]; exact ((E.le h c g).bind fun _ => .refl).thn fun _ => .ite (Ss.le a g) (Ss.le b g)
  | .for_ t it b clr, g => by
    simp only [S.ex]
    exact (It.le h it g).thn fun ds => forL_le (fun d g => R.le.refl.thn fun g => Ss.le b g) ds g
  | .while_ c b clr, g => by
    simp only [S.ex]
    exact whileL_le (fun g => (E.le h c g).bind fun _ => .refl) (fun g => Ss.le b g) N g
  | .exp e, g => by simp only [S.ex]; exact (E.le h e g).thn fun _ => .refl
  | .pass, g => .refl
  | .brk, g => .refl
  | .cnt, g => .refl
  | .rais c, g => .refl
  | .popc t i x tg own it, g => by
    simp only [S.ex]
    exact (It.le h it g).thn fun ds => .ite (R.le.refl.thn fun os => R.le.refl.thn fun xs => .ite ((popL_le (fun d g => R.le.refl.bind fun g1 => E.leI h x g1) ds xs _).thn fun _ => .refl) .refl) .refl
theorem Ss.le : ∀ (ss : Ss) (g : Env), SO.le (Ss.exs cd N ss g) (Ss.exs cd' N ss g)
  | .nil, g => .refl
  | .cons s ss, g => by simp only [Ss.exs]; exact (S.le s g).thn fun g => Ss.le ss g
  | .frz i ss, g => by simp only [Ss.exs]; exact R.le.refl.thn fun _ => Ss.le ss _
end
theorem Fn.le (F : Fn) (ds : List D) : R.le (F.run cd N ds) (F.run cd' N ds) := by
  unfold Fn.run
  by_cases hl : ds.length = F.np
  · rw [if_pos hl, if_pos hl]
    rcases Ss.le h (N := N) F.body (ds.map (fun d => some (O.fz d)) ++ List.replicate (F.names.length - ds.length) none) with a | a
    · left; rw [a]
    · right; rw [a]
  · rw [if_neg hl, if_neg hl]
    exact .refl
end
/-- deeper calls answer no less -/
theorem callD_le {T : String → Option Fn} {N : Nat} : ∀ n k, n ≤ k → CLe (callD T N n) (callD T N k)
  | 0, k, _ => fun f ds => .inl rfl
  | n + 1, 0, h => absurd h (by omega)
  | n + 1, k + 1, h => fun f ds => by
    unfold callD
    cases T f with
    | none => exact .refl
    | some F => exact Fn.le (callD_le n k (by omega)) F ds
/-- calls with answers known ahead (n: how deep) -/
def callO (T : String → Option Fn) (N : Nat) (or : Nat → String → List D → Option D) : Nat → String → List D → R D
  | 0, _, _ => .bad
  | n + 1, f, ds => match or (n + 1) f ds with
    | some d => .ok d
    | none => match T f with
      | some F => F.run (callO T N or n) N ds
      | none => .bad
theorem callO_le {T : String → Option Fn} {N : Nat} {or : Nat → String → List D → Option D} (h : ∀ n f ds d, or n f ds = some d → callD T N n f ds = .ok d) : ∀ n, CLe (callO T N or n) (callD T N n)
  | 0 => fun f ds => .inl rfl
  | n + 1 => fun f ds => by
    cases e : or (n + 1) f ds with
    | some d =>
      right
      rw [h _ _ _ _ e]
      unfold callO
      rw [e]
    | none =>
      unfold callO callD
      rw [e]
      cases T f with
      | none => exact .refl
      | some F => exact Fn.le (callO_le h n) F ds
theorem le_ok {α : Type} {x y : R α} {a : α} (h : R.le x y) (e : x = .ok a) : y = .ok a := by
  rcases h with h | h
  · rw [h] at e; cases e
  · rw [← h, e]
theorem le_nx {x y : SO} {g : Env} (h : SO.le x y) (e : x = .nx g) : y = .nx g := by
  rcases h with h | h
  · rw [h] at e; cases e
  · rw [← h, e]
end Q

set_option Elab.async false
set_option linter.all false
set_option maxRecDepth 100000
set_option maxHeartbeats 1000000
/-! P8: calls of the program's defs, by how deep; answers known ahead. -/
namespace Q
open PySem
theorem itW_I {β : Type} {cond : β → Bool} {step : β → β} {I : β → Prop} (h : ∀ s, I s → cond s = true → I (step s)) : ∀ (n : Nat) (s s' : β), I s → itW cond step n s = some s' → I s' ∧ cond s' = false
  | 0, s, s', _, e => nomatch e
  | n + 1, s, s', i, e => by
    unfold itW at e
    cases hc : cond s with
    | false =>
      rw [hc] at e
      cases e
      exact ⟨i, hc⟩
    | true =>
      rw [hc] at e
      exact itW_I h n (step s) s' (h s i hc) e
theorem bfs_len {w : Web} (h : okW w) {p : Nat} (hp : p < w.1) : (bfs w p).length = w.1 := by
  obtain ⟨s', h1, h2⟩ := bfs_it h hp (Nat.le_refl _)
  have := (itW_I (I := fun s => BI w.1 s.1) (fun s i _ => i.bf h) _ _ _ (bf0_BI hp) h1).1
  rw [h2, this.len]
structure TB (T : String → Option Fn) : Prop where
  nb : T "neighbours" = some f_neighbours
  st : T "steps_from" = some f_steps_from
structure TL (T : String → Option Fn) : Prop extends TB T where
  all : T "all_steps" = some f_all_steps
  row : T "row_in" = some f_row_in
  bl : T "blurred_in" = some f_blurred_in
  ch : T "choose" = some f_choose
  am : T "all_marks" = some f_all_marks
  lm : T "least_marks" = some f_least_marks
section
variable {T : String → Option Fn} {N n : Nat} {w : Web}
theorem TB.nbs (t : TB T) (h : okW w) (hn : 1 ≤ n) (p : Nat) : callD T N n "neighbours" [webD w, nD p] = .ok (tupN (Q.nb w.2 p)) := by
  obtain ⟨n, rfl⟩ : ∃ k, n = k + 1 := ⟨n - 1, by omega⟩
  rw [callD_run t.nb]
  exact nb_run h.2.1
theorem TB.steps (t : TB T) (h : okW w) (hn : 2 ≤ n) (hN : 1001 ≤ N) {p : Nat} (hp : p < w.1) : callD T N n "steps_from" [webD w, nD p] = .ok (.tuple ((bfs w p).map optD)) := by
  obtain ⟨n, rfl⟩ : ∃ k, n = k + 1 := ⟨n - 1, by omega⟩
  rw [callD_run t.st]
  exact steps_run h hp (by have := h.1; omega) fun q => t.nbs h (by omega) q
theorem TB.far (t : TB T) (tf : T "how_far" = some f_how_far) (h : okW w) (hn : 3 ≤ n) (hN : 1001 ≤ N) {p q : Nat} {x : Option Nat} (hp : p < w.1) (hx : (bfs w p)[q]? = some x) : callD T N n "how_far" [webD w, nD p, nD q] = .ok (optD x) := by
  obtain ⟨n, rfl⟩ : ∃ k, n = k + 1 := ⟨n - 1, by omega⟩
  rw [callD_run tf]
  exact far_run (t.steps h (by omega) hN hp) hx
theorem TL.steps' (t : TL T) (h : okW w) (hn : 3 ≤ n) (hN : 1001 ≤ N) : callD T N n "all_steps" [webD w] = .ok (stD (allSteps w)) := by
  obtain ⟨n, rfl⟩ : ∃ k, n = k + 1 := ⟨n - 1, by omega⟩
  rw [callD_run t.all]
  exact allSteps_run h fun p hp => t.toTB.steps h (by omega) hN hp
theorem TL.blur (t : TL T) {m : Nat} {st : List (List (Option Nat))} {ms : List Nat} (h : okS m st) (hm : ∀ x ∈ ms, x < m) (hl : ms.length ≤ 1000) (hn : 2 ≤ n) : callD T N n "blurred_in" [stD st, tupN ms] = .ok (.list ((blurredIn m st ms).map prD)) := by
  obtain ⟨n, rfl⟩ : ∃ k, n = k + 1 := ⟨n - 1, by omega⟩
  rw [callD_run t.bl]
  refine blurred_run h hm hl fun p hp => ?_
  obtain ⟨n, rfl⟩ : ∃ k, n = k + 1 := ⟨n - 1, by omega⟩
  rw [callD_run t.row]
  exact row_run h hm hl hp
theorem TL.least (t : TL T) (h : okW w) (h14 : w.1 ≤ 14) (hn : w.1 + 4 ≤ n) (hN : 1001 ≤ N) : callD T N n "least_marks" [webD w] = .ok (optM (leastMarks w)) := by
  obtain ⟨n, rfl⟩ : ∃ k, n = k + 1 := ⟨n - 1, by omega⟩
  rw [callD_run t.lm]
  refine least_run h14 (t.steps' h (by omega) hN) ?_ fun ms hms => ?_
  · obtain ⟨n, rfl⟩ : ∃ k, n = k + 1 := ⟨n - 1, by omega⟩
    rw [callD_run t.am]
    exact allMarks_run h14 fun m hm => choose_run (fun n ds => callD_run t.ch ds) m _ n (by rw [List.length_range]; exact h14) (by omega) (by omega)
  · obtain ⟨h1, h2⟩ := mem_allMarks hms
    exact t.blur (okS_all h fun p hp => bfs_len h hp) h1 (by omega) (by omega)
end
/-! ### read back -/
def decN : D → Option Nat
  | .int (.ofNat n) => some n
  | _ => none
theorem decN_ok {d : D} {n : Nat} (h : decN d = some n) : d = nD n := by
  unfold decN at h
  split at h
  · cases h; rfl
  · cases h
def decP : D → Option (Nat × Nat)
  | .tuple [a, b] => match decN a, decN b with
    | some x, some y => some (x, y)
    | _, _ => none
  | _ => none
theorem decP_ok {d : D} {p : Nat × Nat} (h : decP d = some p) : d = prD p := by
  unfold decP at h
  split at h
  · split at h
    · next h1 h2 =>
      cases h
      rw [decN_ok h1, decN_ok h2]
      rfl
    · cases h
  · cases h
def decPs : List D → Option (List (Nat × Nat))
  | [] => some []
  | d :: ds => match decP d, decPs ds with
    | some x, some y => some (x :: y)
    | _, _ => none
theorem decPs_ok : ∀ {ds : List D} {ps : List (Nat × Nat)}, decPs ds = some ps → ds = ps.map prD
  | [], ps, h => by cases h; rfl
  | d :: ds, ps, h => by
    unfold decPs at h
    split at h
    · next h1 h2 =>
      cases h
      rw [decP_ok h1, decPs_ok h2]
      rfl
    · cases h
def decW : D → Option Web
  | .tuple [n, .tuple ts] => match decN n, decPs ts with
    | some x, some y => some (x, y)
    | _, _ => none
  | _ => none
theorem decW_ok {d : D} {w : Web} (h : decW d = some w) : d = webD w := by
  unfold decW at h
  split at h
  · split at h
    · next h1 h2 =>
      cases h
      rw [decN_ok h1, decPs_ok h2]
      rfl
    · cases h
  · cases h
def okWB (w : Web) : Bool := decide (w.1 ≤ 1000) && decide (w.2.length ≤ 400000) && w.2.all fun t => decide (t.1 < w.1) && decide (t.2 < w.1)
theorem okWB_ok {w : Web} (h : okWB w = true) : okW w := by
  unfold okWB at h
  simp only [Bool.and_eq_true, decide_eq_true_eq, List.all_eq_true] at h
  exact ⟨h.1.1, h.1.2, h.2⟩
def orFar (n : Nat) : List D → Option D
  | [x, a, b] => match decW x, decN a, decN b with
    | some w, some p, some q => if decide (3 ≤ n) && (okWB w && decide (p < w.1)) then ((bfs w p)[q]?).map optD else none
    | _, _, _ => none
  | _ => none
def orLeast (n : Nat) : List D → Option D
  | [x] => match decW x with
    | some w => if okWB w && (decide (w.1 ≤ 14) && decide (w.1 + 4 ≤ n)) then some (optM (leastMarks w)) else none
    | none => none
  | _ => none
def orcK (n : Nat) (f : String) (ds : List D) : Option D := if f == "how_far" then orFar n ds else if f == "least_marks" then orLeast n ds else none
theorem orFar_ok {T : String → Option Fn} {N n : Nat} (t : TB T) (tf : T "how_far" = some f_how_far) (hN : 1001 ≤ N) {ds : List D} {d : D} (h : orFar n ds = some d) : callD T N n "how_far" ds = .ok d := by
  unfold orFar at h
  split at h
  · split at h
    · next h1 h2 h3 =>
      split at h
      · next c =>
        simp only [Bool.and_eq_true, decide_eq_true_eq] at c
        obtain ⟨x, hx, rfl⟩ := Option.map_eq_some_iff.mp h
        rw [decW_ok h1, decN_ok h2, decN_ok h3]
        exact t.far tf (okWB_ok c.2.1) c.1 hN c.2.2 hx
      · cases h
    · cases h
  · cases h
theorem orLeast_ok {T : String → Option Fn} {N n : Nat} (t : TL T) (hN : 1001 ≤ N) {ds : List D} {d : D} (h : orLeast n ds = some d) : callD T N n "least_marks" ds = .ok d := by
  unfold orLeast at h
  split at h
  · split at h
    · next h1 =>
      split at h
      · next c =>
        simp only [Bool.and_eq_true, decide_eq_true_eq] at c
        cases h
        rw [decW_ok h1]
        exact t.least (okWB_ok c.1) c.2.1 c.2.2 hN
      · cases h
    · cases h
  · cases h
theorem orcK_ok {T : String → Option Fn} {N : Nat} (t : TL T) (tf : T "how_far" = some f_how_far) (hN : 1001 ≤ N) (n : Nat) (f : String) (ds : List D) (d : D) (h : orcK n f ds = some d) : callD T N n f ds = .ok d := by
  unfold orcK at h
  split at h
  · next c =>
    rw [beq_iff_eq] at c
    subst c
    exact orFar_ok t.toTB tf hN h
  · split at h
    · next c =>
      rw [beq_iff_eq] at c
      subst c
      exact orLeast_ok t hN h
    · cases h
end Q

set_option Elab.async false
set_option linter.all false
set_option maxRecDepth 100000
set_option maxHeartbeats 1000000
/-! P9: the laws' cells and mixes. -/
namespace Q
open PySem
theorem log2_le_of {n k : Nat} (h : n < 2 ^ k) : n.log2 ≤ k := by
  by_cases h0 : n = 0
  · subst h0
    have : Nat.log2 0 = 0 := by decide
    omega
  · exact Nat.le_of_lt ((Nat.log2_lt h0).mpr h)
theorem mulOk_of {i j : Int} {a b : Nat} (hi : i.natAbs.log2 ≤ a) (hj : j.natAbs.log2 ≤ b) (h : a + b < 100000000) : mulOk i j = true := decide_eq_true (by omega)
theorem bop_mul {i j : Int} (h : mulOk i j = true) : bop .mul (.int i) (.int j) = .ok (.int (i * j)) := by
  show (if mulOk i j then R.ok (PyData.int (i * j)) else .bad) = _
  rw [if_pos h]
theorem bop_mod {i j : Int} (h : 0 < j) : bop .mod (.int i) (.int j) = .ok (.int (i % j)) := by
  show (if decide (0 < j) then R.ok (PyData.int (i % j)) else .bad) = _
  rw [if_pos (decide_eq_true h)]
/-! ### _law_mix -/
def mixI (c p m : Int) : Int := ((c * 48271 % p) * (c * 48271 % p + 7) % p) % m
theorem mixI_lt {c p m : Int} (h : 0 < m) : 0 ≤ mixI c p m ∧ mixI c p m < m := ⟨Int.emod_nonneg _ (by omega), Int.emod_lt_of_pos _ h⟩
theorem small_log {i : Int} (h1 : 0 ≤ i) (h2 : i < 2000000) : i.natAbs.log2 ≤ 21 := by
  refine log2_le_of ?_
  have : (2 : Nat) ^ 21 = 2097152 := by decide
  omega
theorem mix_run {cd : String → List D → R D} {N : Nat} {c p m : Int} (hp : 0 < p) (hp2 : p ≤ 1000000) (hm : 0 < m) (hc : c.natAbs.log2 ≤ 2000000) : f__law_mix.run cd N [.int c, .int p, .int m] = .ok (.int (mixI c p m)) := by
  refine run_of (g := [some (.fz (.int c)), some (.fz (.int p)), some (.fz (.int m)), none]) rfl rfl ?_
  unfold f__law_mix
  have b1 := Int.emod_nonneg (c * 48271) (b := p) (by omega)
  have b2 := Int.emod_lt_of_pos (c * 48271) hp
  have k1 : mulOk c 48271 = true := mulOk_of hc (small_log (by decide) (by decide)) (by decide)
  have k2 : mulOk (c * 48271 % p) (c * 48271 % p + 7) = true := mulOk_of (small_log b1 (by omega)) (small_log (by omega) (by omega)) (by decide)
  have e1 : E.ev cd (.bin .mod (.bin .mul (.var 0) (.int 48271)) (.var 1)) [some (.fz (.int c)), some (.fz (.int p)), some (.fz (.int m)), none] = .ok (.fz (.int (c * 48271 % p))) := by
    have v0 : E.ev cd (.var 0) [some (.fz (.int c)), some (.fz (.int p)), some (.fz (.int m)), none] = .ok (.fz (.int c)) := rfl
    have v1 : E.ev cd (.var 1) [some (.fz (.int c)), some (.fz (.int p)), some (.fz (.int m)), none] = .ok (.fz (.int p)) := rfl
    rw [ev_bin, ev_bin, v0, R.ok_bind, asD_fz, R.ok_bind, ev_int, R.ok_bind, asD_fz, R.ok_bind, bop_mul k1, R.ok_bind, R.ok_bind, asD_fz, R.ok_bind, v1, R.ok_bind, asD_fz, R.ok_bind, bop_mod hp, R.ok_bind]
  have e2 : E.ev cd (.bin .mod (.bin .mod (.bin .mul (.var 3) (.bin .add (.var 3) (.int 7))) (.var 1)) (.var 2)) [some (.fz (.int c)), some (.fz (.int p)), some (.fz (.int m)), some (.fz (.int (c * 48271 % p)))] = .ok (.fz (.int (mixI c p m))) := by
    have v1 : E.ev cd (.var 1) [some (.fz (.int c)), some (.fz (.int p)), some (.fz (.int m)), some (.fz (.int (c * 48271 % p)))] = .ok (.fz (.int p)) := rfl
    have v2 : E.ev cd (.var 2) [some (.fz (.int c)), some (.fz (.int p)), some (.fz (.int m)), some (.fz (.int (c * 48271 % p)))] = .ok (.fz (.int m)) := rfl
    have v3 : E.ev cd (.var 3) [some (.fz (.int c)), some (.fz (.int p)), some (.fz (.int m)), some (.fz (.int (c * 48271 % p)))] = .ok (.fz (.int (c * 48271 % p))) := rfl
    rw [ev_bin, ev_bin, ev_bin, v3, R.ok_bind, asD_fz, R.ok_bind, ev_bin, v3, R.ok_bind, asD_fz, R.ok_bind, ev_int, R.ok_bind, asD_fz, R.ok_bind, bop_add, R.ok_bind, R.ok_bind, asD_fz, R.ok_bind, bop_mul k2, R.ok_bind, R.ok_bind, asD_fz, R.ok_bind, v1, R.ok_bind, asD_fz, R.ok_bind, bop_mod hp,
      R.ok_bind, R.ok_bind, asD_fz, R.ok_bind, v2, R.ok_bind, asD_fz, R.ok_bind, bop_mod hm]
    rfl
  have r1 : S.ex cd N (.set 3 false (.bin .mod (.bin .mul (.var 0) (.int 48271)) (.var 1))) [some (.fz (.int c)), some (.fz (.int p)), some (.fz (.int m)), none] = .nx [some (.fz (.int c)), some (.fz (.int p)), some (.fz (.int m)), some (.fz (.int (c * 48271 % p)))] := by
    rw [ex_setF, e1]; rfl
  rw [exs_cons, r1, SO.thn_nx, exs_cons, ex_ret, e2]
  rfl
/-! ### _law_cell -/
theorem cell_run {cd : String → List D → R D} {N : Nat} {ns : List Int} {k : Nat} : f__law_cell.run cd N [scr ns, nD k] = .ok (.int (ns[k]?.getD 0)) := by
  refine run_of (g := [some (.fz (scr ns)), some (.fz (nD k))]) rfl rfl ?_
  unfold f__law_cell
  have e1 : E.ev cd (.cmp .lt (.var 1) (.bi .len (.cons (.var 0) .nil))) [some (.fz (scr ns)), some (.fz (nD k))] = .ok (.fz (.bool (decide (k < ns.length)))) := by
    have v0 : E.ev cd (.var 0) [some (.fz (scr ns)), some (.fz (nD k))] = .ok (.fz (scr ns)) := rfl
    have v1 : E.ev cd (.var 1) [some (.fz (scr ns)), some (.fz (nD k))] = .ok (.fz (nD k)) := rfl
    have e : decide ((k : Int) < ((ns.length : Nat) : Int)) = decide (k < ns.length) := by
      rw [decide_eq_decide]; omega
    rw [ev_cmp, v1, R.ok_bind, asD_fz, R.ok_bind, ev_bi, evo_cons, v0, R.ok_bind, evo_nil, R.ok_bind, R.ok_bind, bi_lenS, R.ok_bind, R.ok_bind, toD_fz, cop_lt, R.ok_bind, e]
  by_cases h : k < ns.length
  · have hn : ns[k]? = some ns[k] := List.getElem?_eq_getElem h
    have r1 : S.ex cd N (.ite (.cmp .lt (.var 1) (.bi .len (.cons (.var 0) .nil))) (.cons (.ret (.ix (.var 0) (.var 1))) .nil) .nil) [some (.fz (scr ns)), some (.fz (nD k))] = .rt (.int ns[k]) := by
      have v0 : E.ev cd (.var 0) [some (.fz (scr ns)), some (.fz (nD k))] = .ok (.fz (scr ns)) := rfl
      have v1 : E.ev cd (.var 1) [some (.fz (scr ns)), some (.fz (nD k))] = .ok (.fz (nD k)) := rfl
      have a : (O.fz (scr ns)).at ((k : Nat) : Int) = .ok (.fz (.int ns[k])) := by
        show (match L2.atI (ns.map fun n => ((.int n, .none) : D × D)) ((k : Nat) : Int) with
          | some kv => R.ok (O.fz kv.1)
          | none => R.bad) = _
        rw [atI_n (x := ((.int ns[k], .none) : D × D)) (by rw [List.getElem?_map, hn]; rfl)]
      rw [ex_ite, e1, R.ok_bind, toD_fz, truth_bool, R.thn_ok, if_pos (decide_eq_true h), exs_cons, ex_ret, ev_ix, v0, R.ok_bind, v1, R.ok_bind, asD_fz, R.ok_bind, asInt_int, R.ok_bind, a]
      rfl
    rw [exs_cons, r1, hn]
    rfl
  · have r1 : S.ex cd N (.ite (.cmp .lt (.var 1) (.bi .len (.cons (.var 0) .nil))) (.cons (.ret (.ix (.var 0) (.var 1))) .nil) .nil) [some (.fz (scr ns)), some (.fz (nD k))] = .nx [some (.fz (scr ns)), some (.fz (nD k))] := by
      rw [ex_ite, e1, R.ok_bind, toD_fz, truth_bool, R.thn_ok, if_neg (by simpa using h)]
      rfl
    have hn : ns[k]? = none := List.getElem?_eq_none (by omega)
    rw [exs_cons, r1, SO.thn_nx, hn]
    rfl
/-- the script's numbers are not too wide -/
def Bits (ns : List Int) : Prop := ∀ z ∈ ns, Builtin.Int.intBits z ≤ 1048576
theorem bits_lt {z : Int} {B : Nat} (h : Builtin.Int.intBits z ≤ B) : z.natAbs < 2 ^ B := by
  unfold Builtin.Int.intBits at h
  by_cases h0 : z = 0
  · subst h0
    exact Nat.two_pow_pos B
  · rw [if_neg (by simpa using h0)] at h
    have hn : z.natAbs ≠ 0 := by omega
    exact (Nat.log2_lt hn).mp (by omega)
theorem log_add {z d : Int} {B : Nat} (hz : z.natAbs < 2 ^ B) (hd : d.natAbs < 2 ^ 20) (hB : 20 ≤ B) : (z + d).natAbs.log2 ≤ B + 1 := by
  refine log2_le_of ?_
  have h1 : (2 : Nat) ^ 20 ≤ 2 ^ B := Nat.pow_le_pow_right (by decide) hB
  rw [Nat.pow_succ]
  omega
theorem cell_log {ns : List Int} (h : Bits ns) (k : Nat) {d : Int} (hd : d.natAbs < 2 ^ 20) : (ns[k]?.getD 0 + d).natAbs.log2 ≤ 2000000 := by
  have hz : ∃ B, 20 ≤ B ∧ B + 1 ≤ 2000000 ∧ (ns[k]?.getD 0).natAbs < 2 ^ B := by
    refine ⟨1048576, by decide, by decide, ?_⟩
    cases e : ns[k]? with
    | none => exact Nat.two_pow_pos _
    | some z => exact bits_lt (h z (List.mem_of_getElem? e))
  obtain ⟨B, h1, h2, h3⟩ := hz
  exact Nat.le_trans (log_add h3 hd h1) h2
end Q

set_option Elab.async false
set_option linter.all false
set_option maxRecDepth 100000
set_option maxHeartbeats 1000000
/-! P10: the laws' permutations. -/
namespace Q
open PySem
/-- a number of the script, and so much more -/
def Sm (m : Nat) (c : Int) : Prop := ∃ z d : Int, c = z + d ∧ Builtin.Int.intBits z ≤ 1048576 ∧ d.natAbs ≤ m
theorem Sm.add {m k : Nat} {c e : Int} (h : Sm m c) (he : e.natAbs ≤ k) : Sm (m + k) (c + e) := by
  obtain ⟨z, d, h1, h2, h3⟩ := h
  exact ⟨z, d + e, by omega, h2, by omega⟩
theorem Sm.log {m : Nat} {c : Int} (h : Sm m c) (hm : m ≤ 1000000) : c.natAbs.log2 ≤ 2000000 := by
  obtain ⟨z, d, rfl, h2, h3⟩ := h
  have hz : ∃ B, 20 ≤ B ∧ B + 1 ≤ 2000000 ∧ z.natAbs < 2 ^ B := ⟨1048576, by decide, by decide, bits_lt h2⟩
  obtain ⟨B, g1, g2, g3⟩ := hz
  have e20 : (2 : Nat) ^ 20 = 1048576 := by decide
  exact Nat.le_trans (log_add g3 (by omega) g1) g2
theorem Sm.cell {ns : List Int} (h : Bits ns) (k : Nat) : Sm 0 (ns[k]?.getD 0) := by
  refine ⟨ns[k]?.getD 0, 0, by omega, ?_, by decide⟩
  cases e : ns[k]? with
  | none => exact Nat.le_trans (Nat.zero_le _) (Nat.zero_le _)
  | some z => exact h z (List.mem_of_getElem? e)
/-- _law_mix, as called -/
def MixOk (cd : String → List D → R D) : Prop := ∀ c p m : Int, 0 < p → p ≤ 1000000 → 0 < m → c.natAbs.log2 ≤ 2000000 → cd "_law_mix" [.int c, .int p, .int m] = .ok (.int (mixI c p m))
theorem mixOk {T : String → Option Fn} {N n : Nat} (h : T "_law_mix" = some f__law_mix) (hn : 1 ≤ n) : MixOk (callD T N n) := by
  intro c p m h1 h2 h3 h4
  obtain ⟨n, rfl⟩ : ∃ k, n = k + 1 := ⟨n - 1, by omega⟩
  rw [callD_run h]
  exact mix_run h1 h2 h3 h4
theorem perm_at : ∀ (l : List Nat) (i : Nat) (h : i < l.length), (l[i] :: l.eraseIdx i).Perm l
  | [], i, h => absurd h (Nat.not_lt_zero i)
  | x :: xs, 0, _ => .refl _
  | x :: xs, i + 1, h => (List.Perm.swap x (xs[i]'(Nat.lt_of_succ_lt_succ h)) (xs.eraseIdx i)).trans ((perm_at xs i (Nat.lt_of_succ_lt_succ h)).cons x)
theorem erase_map {α β : Type} (f : α → β) : ∀ (l : List α) (i : Nat), (l.map f).eraseIdx i = (l.eraseIdx i).map f
  | [], _ => rfl
  | _ :: _, 0 => rfl
  | x :: xs, i + 1 => congrArg (f x :: ·) (erase_map f xs i)
/-- the def (t: it gives a tuple) -/
def permF (t : Bool) : Fn := ⟨2, ["_law_cell_here", "_law_many", "_law_left", "_law_k"], .cons (.set 2 true (.rg1 false (.var 1))) (.cons (.popc t 2 (.call "_law_mix" (.cons (.bin .add (.var 0) (.bin .mul (.int 5) (.var 3))) (.cons (.int 9929) (.cons (.bin .sub (.var 1) (.var 3)) .nil)))) (.n 3) [("_law_k", 3)] (.rng1 (.var 1))) .nil)⟩
def seqD (t : Bool) (l : List Nat) : D := if t then tupN l else listN l
section
variable {cd : String → List D → R D} {N n : Nat} {c : Int}
theorem perm_f (hm : MixOk cd) (hc : Sm 100000 c) {k : Nat} (hk : k < n) (hn : n ≤ 1000) :
    popF cd (.n 3) [3] (.call "_law_mix" (.cons (.bin .add (.var 0) (.bin .mul (.int 5) (.var 3))) (.cons (.int 9929) (.cons (.bin .sub (.var 1) (.var 3)) .nil)))) (nD k) [some (.fz (.int c)), some (.fz (nD n)), none, none] = .ok (mixI (c + 5 * (k : Int)) 9929 ((n : Int) - (k : Int))) := by
  have v0 : E.ev cd (.var 0) [some (.fz (.int c)), some (.fz (nD n)), none, some (.fz (nD k))] = .ok (.fz (.int c)) := rfl
  have v1 : E.ev cd (.var 1) [some (.fz (.int c)), some (.fz (nD n)), none, some (.fz (nD k))] = .ok (.fz (nD n)) := rfl
  have v3 : E.ev cd (.var 3) [some (.fz (.int c)), some (.fz (nD n)), none, some (.fz (nD k))] = .ok (.fz (nD k)) := rfl
  have k1 : mulOk 5 (k : Int) = true := mulOk_of (small_log (by decide) (by decide)) (small_log (by omega) (by omega)) (by decide)
  have p1 : E.ev cd (.bin .add (.var 0) (.bin .mul (.int 5) (.var 3))) [some (.fz (.int c)), some (.fz (nD n)), none, some (.fz (nD k))] = .ok (.fz (.int (c + 5 * (k : Int)))) := by
    rw [ev_bin, v0, R.ok_bind, asD_fz, R.ok_bind, ev_bin, ev_int, R.ok_bind, asD_fz, R.ok_bind, v3, R.ok_bind, asD_fz, R.ok_bind, bop_mul k1, R.ok_bind, R.ok_bind, asD_fz, R.ok_bind, bop_add, R.ok_bind]
  have p2 : E.ev cd (.bin .sub (.var 1) (.var 3)) [some (.fz (.int c)), some (.fz (nD n)), none, some (.fz (nD k))] = .ok (.fz (.int ((n : Int) - (k : Int)))) := by
    rw [ev_bin, v1, R.ok_bind, asD_fz, R.ok_bind, v3, R.ok_bind, asD_fz, R.ok_bind, bop_sub, R.ok_bind]
  have hl : (c + 5 * (k : Int)).natAbs.log2 ≤ 2000000 := (hc.add (k := 5000) (by omega)).log (by decide)
  unfold popF
  show ((E.ev cd (.call "_law_mix" (.cons (.bin .add (.var 0) (.bin .mul (.int 5) (.var 3))) (.cons (.int 9929) (.cons (.bin .sub (.var 1) (.var 3)) .nil)))) [some (.fz (.int c)), some (.fz (nD n)), none, some (.fz (nD k))] >>= O.asD) >>= asInt) = _
  rw [ev_call, evo_cons, p1, R.ok_bind, evo_cons, ev_int, R.ok_bind, evo_cons, p2, R.ok_bind, evo_nil, R.ok_bind, R.ok_bind, R.ok_bind, R.ok_bind, fzAll_cons, fzAll_cons, fzAll_cons, fzAll_nil, R.ok_bind, R.ok_bind, R.ok_bind, R.ok_bind,
    hm _ _ _ (by decide) (by decide) (by omega) hl, R.ok_bind, R.ok_bind, asD_fz, R.ok_bind, asInt_int]
theorem perm_pop (hm : MixOk cd) (hc : Sm 100000 c) (hn : n ≤ 1000) : ∀ (m j : Nat) (l : List Nat), j + m = n → l.length = m →
    ∃ r : List Nat, popL (popF cd (.n 3) [3] (.call "_law_mix" (.cons (.bin .add (.var 0) (.bin .mul (.int 5) (.var 3))) (.cons (.int 9929) (.cons (.bin .sub (.var 1) (.var 3)) .nil))))) (l.map nD) ((List.range' j m).map nD) [some (.fz (.int c)), some (.fz (nD n)), none, none] = .ok (r.map nD) ∧ r.Perm l
  | 0, j, l, _, hl => by
    have : l = [] := List.eq_nil_of_length_eq_zero hl
    subst this
    refine ⟨[], ?_, .refl _⟩
    simp only [List.range'_zero, List.map_nil, popL]
  | m + 1, j, l, hj, hl => by
    obtain ⟨i, h1, h2⟩ : ∃ i : Nat, i < l.length ∧ mixI (c + 5 * (j : Int)) 9929 ((n : Int) - (j : Int)) = (i : Int) := by
      obtain ⟨a, b⟩ := mixI_lt (c := c + 5 * (j : Int)) (p := 9929) (m := (n : Int) - (j : Int)) (by omega)
      exact ⟨(mixI (c + 5 * (j : Int)) 9929 ((n : Int) - (j : Int))).toNat, by omega, by omega⟩
    obtain ⟨r, h3, h4⟩ := perm_pop hm hc hn m (j + 1) (l.eraseIdx i) (by omega) (by rw [List.length_eraseIdx, if_pos h1]; omega)
    refine ⟨l[i] :: r, ?_, ((h4.cons l[i]).trans (perm_at l i h1))⟩
    rw [List.range'_succ, List.map_cons]
    have e1 : L2.ixN (l.map nD).length ((i : Nat) : Int) = some i := ixN_n (by rw [List.length_map]; exact h1)
    have e2 : (l.map nD)[i]? = some (nD l[i]) := by rw [List.getElem?_map, List.getElem?_eq_getElem h1]; rfl
    have e3 : (l.map nD).eraseIdx i = (l.eraseIdx i).map nD := erase_map nD l i
    simp only [popL, perm_f hm hc (show j < n by omega) hn, h2, e1, e2, e3, h3, R.ok_bind, List.map_cons]
theorem perm_run (t : Bool) (hm : MixOk cd) (hc : Sm 100000 c) (hn : n ≤ 1000) : ∃ l : List Nat, (permF t).run cd N [.int c, nD n] = .ok (seqD t l) ∧ l.Perm (List.range n) := by
  obtain ⟨r, h1, h2⟩ := perm_pop hm hc hn n 0 (List.range n) (by omega) (by simp)
  refine ⟨r, ?_, h2⟩
  refine run_of (g := [some (.fz (.int c)), some (.fz (nD n)), none, none]) rfl rfl ?_
  unfold permF
  have r1 : S.ex cd N (.set 2 true (.rg1 false (.var 1))) [some (.fz (.int c)), some (.fz (nD n)), none, none] = .nx [some (.fz (.int c)), some (.fz (nD n)), some (.ol (oN (List.range n))), none] := by
    rw [ex_setO, ev_rg1_n (n := n) rfl (by omega)]
    rfl
  have q : It.evi cd (.rng1 (.var 1)) [some (.fz (.int c)), some (.fz (nD n)), some (.ol (oN (List.range n))), none] = .ok ((List.range n).map nD) := evi_rng_n rfl (by omega)
  have sl : slotL [some (.fz (.int c)), some (.fz (nD n)), some (.ol (oN (List.range n))), none] 2 = .ok (oN (List.range n)) := rfl
  have e4 : List.range n = List.range' 0 n := List.range_eq_range'
  rw [exs_cons, r1, SO.thn_nx, exs_cons]
  simp only [S.ex]
  rw [q, R.thn_ok, if_pos (sz_le (by simp; omega)), sl, R.thn_ok, fzAll_map, R.thn_ok, if_pos (sz_le (by simp; omega))]
  show SO.thn (R.thn (popL (popF cd (.n 3) [3] _) ((List.range n).map nD) ((List.range n).map nD) [some (.fz (.int c)), some (.fz (nD n)), none, none]) _ _) _ = _
  have e5 : popL (popF cd (.n 3) [3] (.call "_law_mix" (.cons (.bin .add (.var 0) (.bin .mul (.int 5) (.var 3))) (.cons (.int 9929) (.cons (.bin .sub (.var 1) (.var 3)) .nil))))) ((List.range n).map nD) ((List.range n).map nD) [some (.fz (.int c)), some (.fz (nD n)), none, none] = .ok (r.map nD) := by
    rw [← e4] at h1
    exact h1
  rw [e5]
  cases t <;> rfl
end
end Q

set_option Elab.async false
set_option linter.all false
set_option maxRecDepth 100000
set_option maxHeartbeats 1000000
/-! G1: what the search from a place finds: the least number of steps. -/
namespace Q
def Adj (ts : List (Nat × Nat)) (p q : Nat) : Prop := (p, q) ∈ ts ∨ (q, p) ∈ ts
theorem Adj.symm {ts : List (Nat × Nat)} {p q : Nat} (h : Adj ts p q) : Adj ts q p := h.elim .inr .inl
/-- a walk of so many steps -/
inductive Rch (ts : List (Nat × Nat)) : Nat → Nat → Nat → Prop where
  | zero {p : Nat} : Rch ts 0 p p
  | step {k p x q : Nat} (h : Rch ts k p x) (a : Adj ts x q) : Rch ts (k + 1) p q
section
variable {ts : List (Nat × Nat)}
theorem Rch.trans {a b p x q : Nat} (h : Rch ts a p x) (g : Rch ts b x q) : Rch ts (a + b) p q := by
  induction g with
  | zero => exact h
  | step _ e ih => exact .step (ih h) e
theorem Rch.one {p q : Nat} (h : Adj ts p q) : Rch ts 1 p q := .step .zero h
theorem Rch.symm {k p q : Nat} (h : Rch ts k p q) : Rch ts k q p := by
  induction h with
  | zero => exact .zero
  | step _ e ih =>
    have := (Rch.one e.symm).trans ih
    rwa [Nat.add_comm] at this
/-- the least number -/
def IsD (ts : List (Nat × Nat)) (p q d : Nat) : Prop := Rch ts d p q ∧ ∀ k, Rch ts k p q → d ≤ k
theorem IsD.uniq {p q d e : Nat} (h : IsD ts p q d) (g : IsD ts p q e) : d = e := Nat.le_antisymm (h.2 _ g.1) (g.2 _ h.1)
theorem IsD.symm {p q d : Nat} (h : IsD ts p q d) : IsD ts q p d := ⟨h.1.symm, fun k g => h.2 k g.symm⟩
theorem IsD.self {p : Nat} : IsD ts p p 0 := ⟨.zero, fun _ _ => Nat.zero_le _⟩
theorem IsD.tri {p x q a b c : Nat} (h : IsD ts p x a) (g : IsD ts x q b) (e : IsD ts p q c) : c ≤ a + b := e.2 _ (h.1.trans g.1)
theorem IsD.zero_iff {p q d : Nat} (h : IsD ts p q d) : d = 0 ↔ p = q := by
  constructor
  · intro e
    subst e
    cases h.1
    rfl
  · intro e
    subst e
    exact h.uniq .self
theorem IsD.one_iff {p q d : Nat} (h : IsD ts p q d) : d = 1 ↔ Adj ts p q ∧ p ≠ q := by
  constructor
  · intro e
    subst e
    refine ⟨?_, fun z => ?_⟩
    · cases h.1 with
      | step g a => cases g; exact a
    · have := h.zero_iff.mpr z
      omega
  · intro ⟨a, n⟩
    have h1 := h.2 1 (.one a)
    have h2 : d ≠ 0 := fun z => n (h.zero_iff.mp z)
    omega
end
/-! ### the search -/
structure IJ (ts : List (Nat × Nat)) (n p d : Nat) (s0 s : Bf) : Prop where
  bi : BI n s
  lab : ∀ y e : Nat, s.1[y]? = some (some e) → y ∈ s.2
  rch : ∀ y e : Nat, s.1[y]? = some (some e) → Rch ts e p y
  le : ∀ y e : Nat, s.1[y]? = some (some e) → e ≤ d + 1
  srt : s.2.Pairwise fun a b => dOf s.1 a ≤ dOf s.1 b
  keep : ∀ y e : Nat, s0.1[y]? = some (some e) → s.1[y]? = some (some e)
  pre : ∃ t, s.2 = s0.2 ++ t
theorem dOf_of {f : List (Option Nat)} {y e : Nat} (h : f[y]? = some (some e)) : dOf f y = e := by
  unfold dOf
  rw [h]
  rfl
theorem IJ.step {ts : List (Nat × Nat)} {n p d x q : Nat} {s0 s : Bf} (j : IJ ts n p d s0 s) (hq : q < n) (hx : Rch ts d p x) (a : Adj ts x q) : IJ ts n p d s0 (inS d s q) := by
  unfold inS
  by_cases h : s.1[q]? = some none
  · have bi := j.bi.step (d := d) hq
    unfold inS at bi
    rw [if_pos h] at bi
    rw [if_pos h]
    have old : ∀ y e : Nat, s.1[y]? = some (some e) → (s.1.set q (some (d + 1)))[y]? = some (some e) := fun y e g => by
      have hne : q ≠ y := fun z => by subst z; rw [h] at g; cases g
      rw [List.getElem?_set_ne hne]
      exact g
    have inv : ∀ y e : Nat, (s.1.set q (some (d + 1)))[y]? = some (some e) → (y = q ∧ e = d + 1) ∨ s.1[y]? = some (some e) := fun y e g => by
      by_cases z : q = y
      · subst z
        rw [List.getElem?_set_self (by rw [j.bi.len]; exact hq)] at g
        cases g
        exact .inl ⟨rfl, rfl⟩
      · rw [List.getElem?_set_ne z] at g
        exact .inr g
    have eqO : ∀ y ∈ s.2, dOf (s.1.set q (some (d + 1))) y = dOf s.1 y := fun y hy => by
      obtain ⟨e, he⟩ := j.bi.ord y hy
      rw [dOf_of he, dOf_of (old y e he)]
    refine ⟨bi, fun y e g => ?_, fun y e g => ?_, fun y e g => ?_, ?_, fun y e g => old y e (j.keep y e g), ?_⟩
    · rcases inv y e g with ⟨rfl, _⟩ | g
      · simp
      · simp [j.lab y e g]
    · rcases inv y e g with ⟨rfl, rfl⟩ | g
      · exact .step hx a
      · exact j.rch y e g
    · rcases inv y e g with ⟨_, rfl⟩ | g
      · exact Nat.le_refl _
      · exact j.le y e g
    · show (s.2 ++ [q]).Pairwise _
      rw [List.pairwise_append]
      refine ⟨?_, List.pairwise_singleton _ _, fun y hy z hz => ?_⟩
      · refine j.srt.imp_of_mem fun {y z} hy hz g => ?_
        rw [eqO y hy, eqO z hz]
        exact g
      · simp at hz
        subst hz
        obtain ⟨e, he⟩ := j.bi.ord y hy
        rw [eqO y hy, dOf_of he, dOf_of (e := d + 1) (by rw [List.getElem?_set_self (by rw [j.bi.len]; exact hq)])]
        exact j.le y e he
    · obtain ⟨t, ht⟩ := j.pre
      exact ⟨t ++ [q], by show s.2 ++ [q] = _; rw [ht, List.append_assoc]⟩
  · rw [if_neg h]
    exact j
theorem IJ.fold {ts : List (Nat × Nat)} {n p d x : Nat} {s0 : Bf} (hx : Rch ts d p x) : ∀ (l : List Nat) (s : Bf), IJ ts n p d s0 s → (∀ q ∈ l, q < n ∧ Adj ts x q) →
    IJ ts n p d s0 (l.foldl (inS d) s) ∧ ∀ q ∈ l, ∃ e, (l.foldl (inS d) s).1[q]? = some (some e)
  | [], s, j, _ => ⟨j, fun q h => nomatch h⟩
  | q :: l, s, j, h => by
    obtain ⟨h1, h2⟩ := h q (List.mem_cons_self ..)
    have j1 := j.step h1 hx h2
    obtain ⟨j2, k⟩ := IJ.fold hx l (inS d s q) j1 fun y hy => h y (List.mem_cons_of_mem _ hy)
    refine ⟨j2, fun y hy => ?_⟩
    rcases List.mem_cons.mp hy with e | hy
    · subst e
      have : ∃ e, (inS d s y).1[y]? = some (some e) := by
        unfold inS
        by_cases z : s.1[y]? = some none
        · rw [if_pos z]
          exact ⟨d + 1, by simp only; rw [List.getElem?_set_self (by rw [j.bi.len]; exact h1)]⟩
        · rw [if_neg z]
          have hl : y < s.1.length := by rw [j.bi.len]; exact h1
          rw [List.getElem?_eq_getElem hl] at z ⊢
          cases q : s.1[y] with
          | none => rw [q] at z; exact absurd rfl z
          | some e => exact ⟨e, rfl⟩
      obtain ⟨e, he⟩ := this
      have keep : ∀ (l : List Nat) (s : Bf), s.1[y]? = some (some e) → (l.foldl (inS d) s).1[y]? = some (some e) := by
        intro l
        induction l with
        | nil => exact fun s h => h
        | cons a l ih => exact fun s h => ih _ (inS_keep h)
      exact ⟨e, keep l _ he⟩
    · exact k y hy
structure BJ (w : Web) (p : Nat) (s : Bf × Nat) : Prop where
  bi : BI w.1 s.1
  lab : ∀ y e : Nat, s.1.1[y]? = some (some e) → y ∈ s.1.2
  rch : ∀ y e : Nat, s.1.1[y]? = some (some e) → Rch w.2 e p y
  srt : s.1.2.Pairwise fun a b => dOf s.1.1 a ≤ dOf s.1.1 b
  top : ∀ x : Nat, s.1.2[s.2]? = some x → ∀ y e : Nat, s.1.1[y]? = some (some e) → e ≤ dOf s.1.1 x + 1
  dn : ∀ i x : Nat, i < s.2 → s.1.2[i]? = some x → ∀ y : Nat, Adj w.2 x y → ∃ e, s.1.1[y]? = some (some e) ∧ e ≤ dOf s.1.1 x + 1
  root : s.1.1[p]? = some (some 0)
theorem BJ.start {w : Web} {p : Nat} (hp : p < w.1) : BJ w p (bf0 w p) := by
  have inv : ∀ y e : Nat, (bf0 w p).1.1[y]? = some (some e) → y = p ∧ e = 0 := fun y e g => by
    have g : ((List.replicate w.1 none).set p (some 0))[y]? = some (some e) := g
    by_cases z : p = y
    · subst z
      rw [List.getElem?_set_self (by simpa using hp)] at g
      cases g
      exact ⟨rfl, rfl⟩
    · rw [List.getElem?_set_ne z, List.getElem?_replicate] at g
      split at g <;> cases g
  have root : (bf0 w p).1.1[p]? = some (some 0) := by
    show ((List.replicate w.1 none).set p (some 0))[p]? = _
    rw [List.getElem?_set_self (by simpa using hp)]
  refine ⟨bf0_BI hp, fun y e g => ?_, fun y e g => ?_, List.pairwise_singleton _ _, fun x hx y e g => ?_, fun i x hi => absurd hi (Nat.not_lt_zero _), root⟩
  · rw [(inv y e g).1]; exact List.mem_singleton.mpr rfl
  · obtain ⟨rfl, rfl⟩ := inv y e g
    exact .zero
  · rw [(inv y e g).2]; exact Nat.zero_le _
theorem BJ.turn {w : Web} {p : Nat} (h : okW w) {s : Bf × Nat} (j : BJ w p s) (hc : bfCond s = true) : BJ w p (bfStep w.2 s) := by
  obtain ⟨⟨f, o⟩, t⟩ := s
  have hlt : t < o.length := by simpa [bfCond] using hc
  have e1 : o[t]? = some o[t] := List.getElem?_eq_getElem hlt
  obtain ⟨d, hd⟩ := j.bi.ord o[t] (List.getElem_mem hlt)
  have hd : f[o[t]]? = some (some d) := hd
  have eh : hereOf ((f, o), t) = o[t] := by simp [hereOf, e1]
  have ed : dOf f o[t] = d := dOf_of hd
  have rx : Rch w.2 d p o[t] := j.rch _ _ hd
  have le0 : ∀ y e : Nat, f[y]? = some (some e) → e ≤ d + 1 := fun y e g => by
    have := j.top o[t] e1 y e g
    rw [ed] at this
    exact this
  have I0 : IJ w.2 w.1 p d (f, o) (f, o) := ⟨j.bi, j.lab, j.rch, le0, j.srt, fun _ _ g => g, ⟨[], by simp⟩⟩
  obtain ⟨I1, all⟩ := IJ.fold rx (nb w.2 o[t]) (f, o) I0 fun q hq => ⟨nb_lt h hq, mem_nb.mp hq⟩
  have es : bfStep w.2 ((f, o), t) = ((nb w.2 o[t]).foldl (inS d) (f, o), t + 1) := by
    unfold bfStep
    rw [eh, ed]
  rw [es]
  obtain ⟨u, hu⟩ := I1.pre
  have at_old : ∀ i x, i < o.length → ((nb w.2 o[t]).foldl (inS d) (f, o)).2[i]? = some x → o[i]? = some x := fun i x hi g => by
    rw [hu, List.getElem?_append_left hi] at g
    exact g
  have val : ∀ i x, o[i]? = some x → dOf ((nb w.2 o[t]).foldl (inS d) (f, o)).1 x = dOf f x := fun i x g => by
    obtain ⟨e, he⟩ := j.bi.ord x (List.mem_of_getElem? g)
    have he : f[x]? = some (some e) := he
    rw [dOf_of he, dOf_of (I1.keep x e he)]
  refine ⟨I1.bi, I1.lab, I1.rch, I1.srt, fun x hx y e g => ?_, fun i x hi hx y a => ?_, I1.keep _ _ j.root⟩
  · -- the next one is no nearer
    have l1 := I1.le y e g
    have mono : dOf ((nb w.2 o[t]).foldl (inS d) (f, o)).1 o[t] ≤ dOf ((nb w.2 o[t]).foldl (inS d) (f, o)).1 x := by
      have hx : ((nb w.2 o[t]).foldl (inS d) (f, o)).2[t + 1]? = some x := hx
      have q1 : ((nb w.2 o[t]).foldl (inS d) (f, o)).2[t]? = some o[t] := by rw [hu, List.getElem?_append_left hlt, e1]
      rw [List.getElem?_eq_some_iff] at hx q1
      obtain ⟨a1, a2⟩ := hx
      obtain ⟨b1, b2⟩ := q1
      have := List.pairwise_iff_getElem.mp I1.srt t (t + 1) b1 a1 (Nat.lt_succ_self t)
      rw [a2, b2] at this
      exact this
    rw [val t o[t] e1, ed] at mono
    show e ≤ dOf ((nb w.2 o[t]).foldl (inS d) (f, o)).1 x + 1
    omega
  · have hi : i < t + 1 := hi
    have hx2 := at_old i x (by omega) hx
    show ∃ e, ((nb w.2 o[t]).foldl (inS d) (f, o)).1[y]? = some (some e) ∧ e ≤ dOf ((nb w.2 o[t]).foldl (inS d) (f, o)).1 x + 1
    rw [val i x hx2]
    by_cases z : i = t
    · subst z
      rw [e1] at hx2
      cases hx2
      obtain ⟨e, he⟩ := all y (mem_nb.mpr a)
      exact ⟨e, he, by rw [ed]; exact I1.le y e he⟩
    · obtain ⟨e, g1, g2⟩ := j.dn i x (by show i < t; omega) hx2 y a
      exact ⟨e, I1.keep y e g1, g2⟩
/-- a place is told d just where d is the least number of steps -/
theorem bfs_get {w : Web} (h : okW w) {p : Nat} (hp : p < w.1) {q d : Nat} : (bfs w p)[q]? = some (some d) ↔ IsD w.2 p q d := by
  obtain ⟨s', h1, h2⟩ := bfs_it h hp (Nat.le_refl _)
  obtain ⟨j, hc⟩ := itW_I (I := BJ w p) (fun s j hc => j.turn h hc) _ _ _ (BJ.start hp) h1
  have hend : s'.1.2.length ≤ s'.2 := by
    have : ¬ s'.2 < s'.1.2.length := by simpa [bfCond] using hc
    omega
  have low : ∀ k q, Rch w.2 k p q → ∃ e, s'.1.1[q]? = some (some e) ∧ e ≤ k := by
    have gen : ∀ k a b, Rch w.2 k a b → a = p → ∃ e, s'.1.1[b]? = some (some e) ∧ e ≤ k := by
     intro k a b r
     induction r with
     | zero => exact fun z => ⟨0, by rw [z]; exact j.root, Nat.le_refl _⟩
     | step r a ih =>
      intro z
      obtain ⟨e, g1, g2⟩ := ih z
      obtain ⟨i, hi⟩ := List.mem_iff_getElem?.mp (j.lab _ e g1)
      have hl : i < s'.1.2.length := by
        rw [List.getElem?_eq_some_iff] at hi
        exact hi.1
      obtain ⟨e', g3, g4⟩ := j.dn i _ (by omega) hi _ a
      rw [dOf_of g1] at g4
      exact ⟨e', g3, by omega⟩
    exact fun k q r => gen k p q r rfl
  rw [h2]
  constructor
  · intro g
    refine ⟨j.rch q d g, fun k r => ?_⟩
    obtain ⟨e, g1, g2⟩ := low k q r
    rw [g] at g1
    cases g1
    exact g2
  · intro ⟨r, m⟩
    obtain ⟨e, g1, g2⟩ := low d q r
    have := m e (j.rch q e g1)
    have : e = d := by omega
    rw [this] at g1
    exact g1
end Q

set_option Elab.async false
set_option linter.all false
set_option maxRecDepth 100000
set_option maxHeartbeats 1000000
/-! P11: sorted pairs; the webs that the laws draw. -/
namespace Q
open PySem
/-! ### sorted pairs -/
def ltP (p q : Nat × Nat) : Prop := p.1 < q.1 ∨ (p.1 = q.1 ∧ p.2 < q.2)
instance (p q : Nat × Nat) : Decidable (ltP p q) := inferInstanceAs (Decidable (_ ∨ _))
def insP (x : Nat × Nat) : List (Nat × Nat) → List (Nat × Nat)
  | [] => [x]
  | y :: ys => if ltP y x then y :: insP x ys else x :: y :: ys
def sortP : List (Nat × Nat) → List (Nat × Nat)
  | [] => []
  | x :: xs => insP x (sortP xs)
def rowI (p : Nat × Nat) : List Int := [(p.1 : Int), (p.2 : Int)]
theorem lex_row (p q : Nat × Nat) : lexLt (rowI p) (rowI q) = decide (ltP p q) := by
  obtain ⟨a, b⟩ := p
  obtain ⟨c, d⟩ := q
  unfold rowI ltP
  simp only [lexLt]
  by_cases h : a = c
  · subst h
    by_cases h2 : b = d
    · subst h2; simp
    · have : ¬ ((b : Int) = d) := by omega
      simp [this]
  · have : ¬ ((a : Int) = c) := by omega
    simp [h, this]
theorem insR_row (x : Nat × Nat) : ∀ l : List (Nat × Nat), insR (rowI x) (l.map rowI) = (insP x l).map rowI
  | [] => rfl
  | y :: ys => by
    simp only [List.map_cons, insR, insP, lex_row]
    by_cases h : ltP y x
    · simp only [h, decide_true, if_true, List.map_cons, insR_row x ys]
    · simp [h]
theorem sortR_row : ∀ l : List (Nat × Nat), sortR (l.map rowI) = (sortP l).map rowI
  | [] => rfl
  | x :: xs => by simp only [List.map_cons, sortR, sortP, sortR_row xs, insR_row]
theorem rowsP_of : ∀ l : List (Nat × Nat), intRows? (l.map prD) = some (l.map rowI)
  | [] => rfl
  | x :: xs => by
    have e : intRows? (prD x :: xs.map prD) = (match ints? [nD x.1, nD x.2], intRows? (xs.map prD) with
      | some x, some y => some (x :: y)
      | _, _ => none) := rfl
    rw [List.map_cons, e, rowsP_of xs]
    rfl
theorem sortD_p (l : List (Nat × Nat)) : sortD (l.map prD) = .ok ((sortP l).map prD) := by
  cases l with
  | nil => rfl
  | cons x xs =>
    have e1 : ints? ((x :: xs).map prD) = none := rfl
    have al : ((x :: xs).map rowI).all (fun r => r.length == 2) = true := by
      rw [List.all_eq_true]
      intro r hr
      obtain ⟨p, _, rfl⟩ := List.mem_map.mp hr
      rfl
    unfold sortD
    rw [e1, rowsP_of]
    show (if ((x :: xs).map rowI).all (fun r => r.length == 2) then R.ok ((sortR ((x :: xs).map rowI)).map fun r => PyData.tuple (r.map .int)) else .bad) = _
    rw [if_pos al, sortR_row, List.map_map]
    rfl
theorem insP_perm (x : Nat × Nat) : ∀ l : List (Nat × Nat), (insP x l).Perm (x :: l)
  | [] => .refl _
  | y :: ys => by
    unfold insP
    by_cases h : ltP y x
    · rw [if_pos h]
      exact ((insP_perm x ys).cons y).trans (.swap x y ys)
    · rw [if_neg h]
theorem sortP_perm : ∀ l : List (Nat × Nat), (sortP l).Perm l
  | [] => .refl _
  | x :: xs => (insP_perm x (sortP xs)).trans ((sortP_perm xs).cons x)
theorem ltP.trans {a b c : Nat × Nat} (h : ltP a b) (g : ltP b c) : ltP a c := by
  unfold ltP at *
  omega
theorem ltP.total {a b : Nat × Nat} (h : ¬ ltP a b) : ltP b a ∨ a = b := by
  unfold ltP at *
  by_cases h1 : a.1 = b.1
  · by_cases h2 : a.2 = b.2
    · right; exact Prod.ext h1 h2
    · left; omega
  · left; omega
theorem insP_lt {x : Nat × Nat} : ∀ {l : List (Nat × Nat)}, l.Pairwise ltP → x ∉ l → (insP x l).Pairwise ltP
  | [], _, _ => List.pairwise_singleton _ _
  | y :: ys, h, hx => by
    have h' := List.pairwise_cons.mp h
    unfold insP
    by_cases c : ltP y x
    · rw [if_pos c, List.pairwise_cons]
      refine ⟨fun z hz => ?_, insP_lt h'.2 fun q => hx (List.mem_cons_of_mem _ q)⟩
      rcases List.mem_cons.mp ((insP_perm x ys).mem_iff.mp hz) with e | hz
      · rw [e]; exact c
      · exact h'.1 z hz
    · rw [if_neg c, List.pairwise_cons]
      have xy : ltP x y := (ltP.total c).resolve_right fun e => hx (by rw [e]; exact List.mem_cons_self ..)
      refine ⟨fun z hz => ?_, h⟩
      rcases List.mem_cons.mp hz with e | hz
      · rw [e]; exact xy
      · exact xy.trans (h'.1 z hz)
theorem sortP_lt : ∀ {l : List (Nat × Nat)}, l.Nodup → (sortP l).Pairwise ltP
  | [], _ => .nil
  | x :: xs, h => by
    have h' := List.nodup_cons.mp h
    exact insP_lt (sortP_lt h'.2) fun q => h'.1 ((sortP_perm xs).mem_iff.mp q)
/-! ### a web that is one -/
structure GoodW (w : Web) : Prop where
  pos : 1 ≤ w.1
  lt : ∀ t ∈ w.2, t.1 < t.2 ∧ t.2 < w.1
  srt : w.2.Pairwise ltP
  con : ∀ p q, p < w.1 → q < w.1 → ∃ k, Rch w.2 k p q
/-- the ties with other names -/
def ren (l : List Nat) (t : Nat × Nat) : Nat × Nat := (min (l[t.1]?.getD 0) (l[t.2]?.getD 0), max (l[t.1]?.getD 0) (l[t.2]?.getD 0))
def renW (l : List Nat) (w : Web) : Web := (w.1, sortP (w.2.map (ren l)))
theorem adj_sort {l : List (Nat × Nat)} {p q : Nat} : Adj (sortP l) p q ↔ Adj l p q := by
  unfold Adj
  rw [(sortP_perm l).mem_iff, (sortP_perm l).mem_iff]
section
variable {n : Nat} {l : List Nat} (hl : l.Perm (List.range n))
include hl
theorem nm_len : l.length = n := by rw [hl.length_eq, List.length_range]
theorem nm_get {i : Nat} (hi : i < n) : ∃ x, l[i]? = some x ∧ x < n := by
  have h : i < l.length := by rw [nm_len hl]; exact hi
  exact ⟨l[i], List.getElem?_eq_getElem h, List.mem_range.mp (hl.mem_iff.mp (List.getElem_mem h))⟩
theorem nm_inj {i j x : Nat} (h1 : l[i]? = some x) (h2 : l[j]? = some x) : i = j := by
  have nd : l.Nodup := hl.nodup_iff.mpr List.nodup_range
  rw [List.getElem?_eq_some_iff] at h1 h2
  obtain ⟨a1, a2⟩ := h1
  obtain ⟨b1, b2⟩ := h2
  exact (List.getElem_inj nd).mp (a2.trans b2.symm)
theorem nm_surj {x : Nat} (hx : x < n) : ∃ i, i < n ∧ l[i]? = some x := by
  obtain ⟨i, hi⟩ := List.mem_iff_getElem?.mp (hl.mem_iff.mpr (List.mem_range.mpr hx))
  have : i < l.length := by
    rw [List.getElem?_eq_some_iff] at hi
    exact hi.1
  exact ⟨i, by rw [nm_len hl] at this; exact this, hi⟩
end
end Q

set_option Elab.async false
set_option linter.all false
set_option maxRecDepth 100000
set_option maxHeartbeats 1000000
/-! P12: other names. -/
namespace Q
open PySem
theorem Rch.mono {ts us : List (Nat × Nat)} (h : ∀ p q, Adj ts p q → Adj us p q) {k p q : Nat} (r : Rch ts k p q) : Rch us k p q := by
  induction r with
  | zero => exact .zero
  | step _ a ih => exact .step ih (h _ _ a)
def RngF (n : Nat) (F : List (Nat × Nat)) : Prop := ∀ t ∈ F, t.1 < t.2 ∧ t.2 < n
theorem RngF.adj {n : Nat} {F : List (Nat × Nat)} (h : RngF n F) {p q : Nat} (a : Adj F p q) : p < n ∧ q < n ∧ p ≠ q := by
  rcases a with a | a
  · have := h _ a
    simp only at this
    omega
  · have := h _ a
    simp only at this
    omega
theorem Rch.lt {n : Nat} {F : List (Nat × Nat)} (h : RngF n F) {k p q : Nat} (r : Rch F k p q) (hp : p < n) : q < n := by
  cases r with
  | zero => exact hp
  | step _ a => exact (h.adj a).2.1
section
variable {n : Nat} {l : List Nat} (hl : l.Perm (List.range n)) {F : List (Nat × Nat)} (hF : RngF n F)
include hl hF
theorem ren_is {t : Nat × Nat} (ht : t ∈ F) : ∃ x y, l[t.1]? = some x ∧ l[t.2]? = some y ∧ x < n ∧ y < n ∧ x ≠ y ∧ ren l t = (min x y, max x y) := by
  obtain ⟨h1, h2⟩ := hF t ht
  obtain ⟨x, hx, hx2⟩ := nm_get hl (i := t.1) (by omega)
  obtain ⟨y, hy, hy2⟩ := nm_get hl (i := t.2) h2
  refine ⟨x, y, hx, hy, hx2, hy2, fun e => ?_, ?_⟩
  · subst e
    have := nm_inj hl hx hy
    omega
  · unfold ren
    rw [hx, hy]
    rfl
theorem ren_rng : RngF n (F.map (ren l)) := by
  intro t ht
  obtain ⟨u, hu, rfl⟩ := List.mem_map.mp ht
  obtain ⟨x, y, _, _, h3, h4, h5, h6⟩ := ren_is hl hF hu
  rw [h6]
  simp only
  omega
theorem ren_adj {i j x y : Nat} (hi : l[i]? = some x) (hj : l[j]? = some y) : Adj (F.map (ren l)) x y ↔ Adj F i j := by
  constructor
  · intro a
    have key : ∀ x y i j, l[i]? = some x → l[j]? = some y → (x, y) ∈ F.map (ren l) → Adj F i j := by
      intro x y i j hi hj a
      obtain ⟨t, ht, e⟩ := List.mem_map.mp a
      obtain ⟨u, v, h1, h2, _, _, h5, h6⟩ := ren_is hl hF ht
      rw [h6] at e
      simp only [Prod.mk.injEq] at e
      by_cases c : u ≤ v
      · have e1 : u = x := by omega
        have e2 : v = y := by omega
        subst e1 e2
        have q1 := nm_inj hl h1 hi
        have q2 := nm_inj hl h2 hj
        subst q1 q2
        exact .inl ht
      · have e1 : v = x := by omega
        have e2 : u = y := by omega
        subst e1 e2
        have q1 := nm_inj hl h1 hj
        have q2 := nm_inj hl h2 hi
        subst q1 q2
        exact .inr ht
    rcases a with a | a
    · exact key x y i j hi hj a
    · exact (key y x j i hj hi a).symm
  · intro a
    have key : ∀ x y i j, l[i]? = some x → l[j]? = some y → (i, j) ∈ F → Adj (F.map (ren l)) x y := by
      intro x y i j hi hj a
      obtain ⟨u, v, h1, h2, _, _, h5, h6⟩ := ren_is hl hF a
      simp only at h1 h2
      rw [hi] at h1
      rw [hj] at h2
      cases h1
      cases h2
      have m : ren l (i, j) ∈ F.map (ren l) := List.mem_map_of_mem a
      rw [h6] at m
      by_cases c : x ≤ y
      · rw [Nat.min_eq_left c, Nat.max_eq_right c] at m
        exact .inl m
      · rw [Nat.min_eq_right (by omega), Nat.max_eq_left (by omega)] at m
        exact .inr m
    rcases a with a | a
    · exact key x y i j hi hj a
    · exact (key y x j i hj hi a).symm
theorem ren_rch {k i j x y : Nat} (hi : l[i]? = some x) (hj : l[j]? = some y) : Rch (F.map (ren l)) k x y ↔ Rch F k i j := by
  constructor
  · intro r
    induction r generalizing j with
    | zero =>
      have := nm_inj hl hi hj
      subst this
      exact .zero
    | step r a ih =>
      obtain ⟨h1, _, _⟩ := (ren_rng hl hF).adj a
      obtain ⟨m, _, hm2⟩ := nm_surj hl h1
      exact .step (ih hi hm2) ((ren_adj hl hF hm2 hj).mp a)
  · intro r
    induction r generalizing y with
    | zero =>
      rw [hi] at hj
      cases hj
      exact .zero
    | step r a ih =>
      obtain ⟨h1, _, _⟩ := hF.adj a
      obtain ⟨m, hm, _⟩ := nm_get hl h1
      exact .step (ih hi hm) ((ren_adj hl hF hm hj).mpr a)
theorem ren_isD {d i j x y : Nat} (hi : l[i]? = some x) (hj : l[j]? = some y) : IsD (F.map (ren l)) x y d ↔ IsD F i j d := by
  unfold IsD
  rw [ren_rch hl hF hi hj]
  constructor
  · exact fun ⟨a, b⟩ => ⟨a, fun k r => b k ((ren_rch hl hF hi hj).mpr r)⟩
  · exact fun ⟨a, b⟩ => ⟨a, fun k r => b k ((ren_rch hl hF hi hj).mp r)⟩
theorem ren_nodup (nd : F.Nodup) : (F.map (ren l)).Nodup := by
  refine List.Pairwise.map (ren l) (S := (· ≠ ·)) (R := fun a b => a ∈ F ∧ b ∈ F ∧ a ≠ b) (fun a b ⟨ha, hb, ne⟩ e => ne ?_) ?_
  · obtain ⟨x, y, h1, h2, _, _, h5, h6⟩ := ren_is hl hF ha
    obtain ⟨u, v, g1, g2, _, _, g5, g6⟩ := ren_is hl hF hb
    rw [h6, g6] at e
    simp only [Prod.mk.injEq] at e
    have c1 := hF a ha
    have c2 := hF b hb
    by_cases c : x = u
    · have e2 : y = v := by omega
      subst c e2
      exact Prod.ext (nm_inj hl h1 g1) (nm_inj hl h2 g2)
    · have e1 : x = v := by omega
      have e2 : y = u := by omega
      subst e1 e2
      have q1 := nm_inj hl h1 g2
      have q2 := nm_inj hl h2 g1
      omega
  · exact List.Pairwise.imp_of_mem (fun ha hb h => ⟨ha, hb, h⟩) nd
/-- a web of such ties, with other names -/
theorem ren_good (hn : 1 ≤ n) (nd : F.Nodup) (con : ∀ p q, p < n → q < n → ∃ k, Rch F k p q) : GoodW (n, sortP (F.map (ren l))) where
  pos := hn
  lt := fun t ht => ren_rng hl hF t ((sortP_perm _).mem_iff.mp ht)
  srt := sortP_lt (ren_nodup hl hF nd)
  con := fun x y hx hy => by
    obtain ⟨i, hi, hi2⟩ := nm_surj hl hx
    obtain ⟨j, hj, hj2⟩ := nm_surj hl hy
    obtain ⟨k, r⟩ := con i j hi hj
    exact ⟨k, ((ren_rch hl hF hi2 hj2).mpr r).mono fun _ _ a => adj_sort.mpr a⟩
end
theorem isD_sort {l : List (Nat × Nat)} {p q d : Nat} : IsD (sortP l) p q d ↔ IsD l p q d := by
  have h : ∀ k, Rch (sortP l) k p q ↔ Rch l k p q := fun k => ⟨fun r => r.mono fun _ _ a => adj_sort.mp a, fun r => r.mono fun _ _ a => adj_sort.mpr a⟩
  unfold IsD
  simp only [h]
end Q

set_option Elab.async false
set_option linter.all false
set_option maxRecDepth 100000
set_option maxHeartbeats 1000000
/-! P13: the webs that the laws draw. -/
namespace Q
open PySem
section
variable {cd : String → List D → R D} {N : Nat} {g : Env}
theorem mix_ev (hm : MixOk cd) {e1 e3 : E} {a p m : Int} (h1 : E.ev cd e1 g = .ok (.fz (.int a))) (h3 : E.ev cd e3 g = .ok (.fz (.int m))) (hp : 0 < p) (hp2 : p ≤ 1000000) (h0 : 0 < m) (hl : a.natAbs.log2 ≤ 2000000) :
    E.ev cd (.call "_law_mix" (.cons e1 (.cons (.int p) (.cons e3 .nil)))) g = .ok (.fz (.int (mixI a p m))) := by
  rw [ev_call, evo_cons, h1, R.ok_bind, evo_cons, ev_int, R.ok_bind, evo_cons, h3, R.ok_bind, evo_nil, R.ok_bind, R.ok_bind, R.ok_bind, R.ok_bind, fzAll_cons, fzAll_cons, fzAll_cons, fzAll_nil, R.ok_bind, R.ok_bind, R.ok_bind, R.ok_bind, hm _ _ _ hp hp2 h0 hl, R.ok_bind]
/-- .. as a number -/
theorem mix_evN (hm : MixOk cd) {e1 e3 : E} {a p : Int} {m : Nat} (h1 : E.ev cd e1 g = .ok (.fz (.int a))) (h3 : E.ev cd e3 g = .ok (.fz (nD m))) (hp : 0 < p) (hp2 : p ≤ 1000000) (h0 : 0 < m) (hl : a.natAbs.log2 ≤ 2000000) :
    E.ev cd (.call "_law_mix" (.cons e1 (.cons (.int p) (.cons e3 .nil)))) g = .ok (.fz (nD (mixI a p (m : Int)).toNat)) ∧ (mixI a p (m : Int)).toNat < m := by
  obtain ⟨b1, b2⟩ := mixI_lt (c := a) (p := p) (m := (m : Int)) (by omega)
  have e : (((mixI a p (m : Int)).toNat : Nat) : Int) = mixI a p (m : Int) := by omega
  refine ⟨?_, by omega⟩
  rw [mix_ev hm h1 h3 hp hp2 (by omega) hl, nD, e]
theorem lin_ev {a : E} {i k : Nat} {c q : Int} (h0 : E.ev cd a g = .ok (.fz (.int c))) (hi : E.ev cd (.var i) g = .ok (.fz (nD k))) (hq : 0 ≤ q) (hq2 : q ≤ 1000000) (hk : k ≤ 1000000) : E.ev cd (.bin .add a (.bin .mul (.int q) (.var i))) g = .ok (.fz (.int (c + q * (k : Int)))) := by
  have k1 : mulOk q (k : Int) = true := mulOk_of (small_log hq (by omega)) (small_log (by omega) (by omega)) (by decide)
  rw [ev_bin, h0, R.ok_bind, asD_fz, R.ok_bind, ev_bin, ev_int, R.ok_bind, asD_fz, R.ok_bind, hi, R.ok_bind, asD_fz, R.ok_bind, bop_mul k1, R.ok_bind, R.ok_bind, asD_fz, R.ok_bind, bop_add, R.ok_bind]
theorem pair_ev {a b : E} {x y : Nat} (ha : E.ev cd a g = .ok (.fz (nD x))) (hb : E.ev cd b g = .ok (.fz (nD y))) : E.ev cd (.tup (.cons a (.cons b .nil))) g = .ok (.fz (prD (x, y))) := by
  rw [ev_tup, evo_cons, ha, R.ok_bind, evo_cons, hb, R.ok_bind, evo_nil, R.ok_bind, R.ok_bind, R.ok_bind, fzAll_cons, fzAll_cons, fzAll_nil, R.ok_bind, R.ok_bind, R.ok_bind]
  rfl
theorem eqe_pr : EqE prD := fun a b => by
  obtain ⟨a1, a2⟩ := a
  obtain ⟨b1, b2⟩ := b
  have e : PyData.eqv (prD (a1, a2)) (prD (b1, b2)) = (PyData.eqv (nD a1) (nD b1) && (PyData.eqv (nD a2) (nD b2) && true)) := rfl
  rw [e, eqe_n, eqe_n]
  by_cases h1 : a1 = b1 <;> by_cases h2 : a2 = b2 <;> simp [h1, h2]
theorem pl_pr (p : Nat × Nat) : Pl 1 (prD p) := pl_tup (by
  intro d hd
  rcases List.mem_cons.mp hd with e | hd
  · rw [e]; exact pl_n _
  · rw [List.mem_singleton.mp hd]; exact pl_n _)
theorem any_pr {α : Type} [DecidableEq α] {enc : α → D} (h : EqE enc) (x : α) : ∀ l : List α, ((l.map enc).any fun z => PyData.eqv z (enc x)) = decide (x ∈ l)
  | [] => by simp
  | y :: l => by
    rw [List.map_cons, List.any_cons, h y x, any_pr h x l]
    by_cases e : x = y
    · subst e; simp
    · have e2 : ¬ y = x := fun z => e z.symm
      simp [e, e2]
theorem cop_nin {α : Type} [DecidableEq α] {enc : α → D} (h : EqE enc) {k : Nat} (hp : ∀ a, Pl k (enc a)) (hk : k + 1 ≤ 64) (x : α) (l : List α) : cop .nin (enc x) (.list (l.map enc)) = .ok (!decide (x ∈ l)) := by
  have e : cop .nin (enc x) (.list (l.map enc)) = if SeqAt.shaped (enc x) && SeqAt.shaped (.list (l.map enc)) then .ok (!(l.map enc).any fun z => PyData.eqv z (enc x)) else .bad := by
    cases enc x <;> rfl
  rw [e, (hp x).sh (by omega), (pl_lst (pl_map hp l)).sh hk, any_pr h]
  rfl
/-! ### the two loops -/
abbrev wG (c M n : D) (s : List (Nat × Nat)) (x5 : Option O) : Env := [some (.fz c), some (.fz M), some (.fz n), some (.ol (oP s)), none, x5, none, none, none, none, none]
variable {c : Int} {n : Nat} {M : D}
theorem web_one (hm : MixOk cd) (hc : Sm 10000 c) (hn : 1 ≤ n) (hn2 : n ≤ 1000) : ∃ r : Nat → Nat, (∀ k, 1 ≤ k → k < n → r k < k) ∧
    S.ex cd N (.for_ (.n 4) (.rng2 (.int 1) (.var 2)) (.cons (.app 3 false (.tup (.cons (.call "_law_mix" (.cons (.bin .add (.var 0) (.bin .mul (.int 7) (.var 4))) (.cons (.int 9967) (.cons (.var 4) .nil)))) (.cons (.var 4) .nil)))) .nil) [4]) (wG (.int c) M (nD n) [] none) =
      .nx (wG (.int c) M (nD n) ((List.range' 1 (n - 1)).map fun k => (r k, k)) none) := by
  refine ⟨fun k => (mixI (c + 7 * (k : Int)) 9967 (k : Int)).toNat, fun k h1 h2 => ?_, ?_⟩
  · obtain ⟨b1, b2⟩ := mixI_lt (c := c + 7 * (k : Int)) (p := 9967) (m := (k : Int)) (by omega)
    show (mixI (c + 7 * (k : Int)) 9967 (k : Int)).toNat < k
    omega
  · rw [ex_for, evi_rng2_n (i := 1) (j := n) rfl rfl (by decide) (by omega), R.thn_ok]
    have lp := (forL_foldN (body := fun d g => ((Tg.n 4).put d g).thn g fun g => Ss.exs cd N (.cons (.app 3 false (.tup (.cons (.call "_law_mix" (.cons (.bin .add (.var 0) (.bin .mul (.int 7) (.var 4))) (.cons (.int 9967) (.cons (.var 4) .nil)))) (.cons (.var 4) .nil)))) .nil) g) (clr := [4])
      nD (fun s => wG (.int c) M (nD n) s none) (fun s k => s ++ [((mixI (c + 7 * (k : Int)) 9967 (k : Int)).toNat, k)]) (fun i s => s.length = i) (List.range' 1 (n - 1)) 0 [] rfl fun i s hi I k hk => ?_).1
    · rw [lp, foldl_app (fun k : Nat => [((mixI (c + 7 * (k : Int)) 9967 (k : Int)).toNat, k)]), List.nil_append, ← List.map_eq_flatMap]
    · rw [List.mem_range'_1] at hk
      rw [List.length_range'] at hi
      have p4 : (Tg.n 4).put (nD k) (wG (.int c) M (nD n) s none) = .ok [some (.fz (.int c)), some (.fz M), some (.fz (nD n)), some (.ol (oP s)), some (.fz (nD k)), none, none, none, none, none, none] := rfl
      have sl : slotL [some (.fz (.int c)), some (.fz M), some (.fz (nD n)), some (.ol (oP s)), some (.fz (nD k)), none, none, none, none, none, none] 3 = .ok (oP s) := rfl
      have ev := (mix_evN (g := [some (.fz (.int c)), some (.fz M), some (.fz (nD n)), some (.ol (oP s)), some (.fz (nD k)), none, none, none, none, none, none]) hm (lin_ev (a := .var 0) (i := 4) (k := k) (c := c) (q := 7) rfl rfl (by decide) (by decide) (by omega)) (m := k) (e3 := .var 4) rfl (p := 9967) (by decide) (by decide) (by omega) ((hc.add (k := 7000) (by omega)).log (by decide))).1
      have et := pair_ev ev (b := .var 4) (y := k) rfl
      have e : oP s ++ [.fz (prD ((mixI (c + 7 * (k : Int)) 9967 (k : Int)).toNat, k))] = oP (s ++ [((mixI (c + 7 * (k : Int)) 9967 (k : Int)).toNat, k)]) := by simp
      refine ⟨by simp [I], [some (.fz (.int c)), some (.fz M), some (.fz (nD n)), some (.ol (oP (s ++ [((mixI (c + 7 * (k : Int)) 9967 (k : Int)).toNat, k)]))), some (.fz (nD k)), none, none, none, none, none, none], .inl ?_, rfl⟩
      rw [p4, R.thn_ok, exs_cons, ex_app, sl, R.thn_ok, et, R.ok_bind, asD_fz, R.thn_ok]
      show SO.thn (if szOk (oP s).length then putS _ 3 (.ol (oP s ++ [.fz (prD _)])) else .bad) _ = _
      rw [if_pos (sz_le (by simp only [List.length_map]; omega)), e]
      rfl
def exStep (a b : Nat → Nat) (s : List (Nat × Nat)) (k : Nat) : List (Nat × Nat) := if a k ≠ b k ∧ (min (a k) (b k), max (a k) (b k)) ∉ s then s ++ [(min (a k) (b k), max (a k) (b k))] else s
theorem min_ev {a b : E} {x y : Nat} (ha : E.ev cd a g = .ok (.fz (nD x))) (hb : E.ev cd b g = .ok (.fz (nD y))) : E.ev cd (.bi .min2 (.cons a (.cons b .nil))) g = .ok (.fz (nD (min x y))) := by
  have e : bi .min2 [.fz (nD x), .fz (nD y)] = .ok (.int (if (y : Int) < (x : Int) then (y : Int) else (x : Int))) := rfl
  have e2 : (if (y : Int) < (x : Int) then (y : Int) else (x : Int)) = ((min x y : Nat) : Int) := by split <;> omega
  rw [ev_bi, evo_cons, ha, R.ok_bind, evo_cons, hb, R.ok_bind, evo_nil, R.ok_bind, R.ok_bind, R.ok_bind, e, R.ok_bind, e2]
theorem max_ev {a b : E} {x y : Nat} (ha : E.ev cd a g = .ok (.fz (nD x))) (hb : E.ev cd b g = .ok (.fz (nD y))) : E.ev cd (.bi .max2 (.cons a (.cons b .nil))) g = .ok (.fz (nD (max x y))) := by
  have e : bi .max2 [.fz (nD x), .fz (nD y)] = .ok (.int (if (y : Int) > (x : Int) then (y : Int) else (x : Int))) := rfl
  have e2 : (if (y : Int) > (x : Int) then (y : Int) else (x : Int)) = ((max x y : Nat) : Int) := by split <;> omega
  rw [ev_bi, evo_cons, ha, R.ok_bind, evo_cons, hb, R.ok_bind, evo_nil, R.ok_bind, R.ok_bind, R.ok_bind, e, R.ok_bind, e2]
end
end Q

set_option Elab.async false
set_option linter.all false
set_option maxRecDepth 100000
set_option maxHeartbeats 1000000
/-! P14: the webs that the laws draw, their second loop and the whole. -/
namespace Q
open PySem
section
variable {cd : String → List D → R D} {N : Nat} {c : Int} {n : Nat} {M : D}
abbrev wH (c M n e : D) (s : List (Nat × Nat)) (k x7 x8 x9 : Option O) : Env := [some (.fz c), some (.fz M), some (.fz n), some (.ol (oP s)), none, some (.fz e), k, x7, x8, x9, none]
theorem ex_turn (hm : MixOk cd) (hc : Sm 10000 c) (hn : 1 ≤ n) (hn2 : n ≤ 1000) {e : D} {s : List (Nat × Nat)} {k : Nat} (hk : k < 100) (hs : s.length ≤ 10000) :
    ∃ g', Ss.exs cd N (.cons (.set 7 false (.call "_law_mix" (.cons (.bin .add (.var 0) (.bin .mul (.int 11) (.var 6))) (.cons (.int 9941) (.cons (.var 2) .nil))))) (.cons (.set 8 false (.call "_law_mix" (.cons (.bin .add (.bin .add (.var 0) (.bin .mul (.int 13) (.var 6))) (.int 1)) (.cons (.int 9931) (.cons (.var 2) .nil)))))
      (.cons (.set 9 false (.tup (.cons (.bi .min2 (.cons (.var 7) (.cons (.var 8) .nil))) (.cons (.bi .max2 (.cons (.var 7) (.cons (.var 8) .nil))) .nil)))) (.cons (.ite (.and (.cmp .ne (.var 7) (.var 8)) (.cmp .nin (.var 9) (.var 3))) (.cons (.app 3 false (.var 9)) .nil) .nil) .nil)))) (wH (.int c) M (nD n) e s (some (.fz (nD k))) none none none) = .nx g' ∧
      wipe g' [6, 7, 8, 9] = wH (.int c) M (nD n) e (exStep (fun k => (mixI (c + 11 * (k : Int)) 9941 (n : Int)).toNat) (fun k => (mixI (c + 13 * (k : Int) + 1) 9931 (n : Int)).toNat) s k) none none none none := by
  generalize ha : (mixI (c + 11 * (k : Int)) 9941 (n : Int)).toNat = a
  generalize hb : (mixI (c + 13 * (k : Int) + 1) 9931 (n : Int)).toNat = b
  have r1 : S.ex cd N (.set 7 false (.call "_law_mix" (.cons (.bin .add (.var 0) (.bin .mul (.int 11) (.var 6))) (.cons (.int 9941) (.cons (.var 2) .nil))))) (wH (.int c) M (nD n) e s (some (.fz (nD k))) none none none) = .nx (wH (.int c) M (nD n) e s (some (.fz (nD k))) (some (.fz (nD a))) none none) := by
    have ev := (mix_evN (g := wH (.int c) M (nD n) e s (some (.fz (nD k))) none none none) hm (lin_ev (a := .var 0) (i := 6) (k := k) (c := c) (q := 11) rfl rfl (by decide) (by decide) (by omega)) (m := n) (e3 := .var 2) rfl (p := 9941) (by decide) (by decide) (by omega) ((hc.add (k := 7000) (by omega)).log (by decide))).1
    rw [ha] at ev
    rw [ex_setF, ev]
    rfl
  have r2 : S.ex cd N (.set 8 false (.call "_law_mix" (.cons (.bin .add (.bin .add (.var 0) (.bin .mul (.int 13) (.var 6))) (.int 1)) (.cons (.int 9931) (.cons (.var 2) .nil))))) (wH (.int c) M (nD n) e s (some (.fz (nD k))) (some (.fz (nD a))) none none) = .nx (wH (.int c) M (nD n) e s (some (.fz (nD k))) (some (.fz (nD a))) (some (.fz (nD b))) none) := by
    have e1 := lin_ev (cd := cd) (g := wH (.int c) M (nD n) e s (some (.fz (nD k))) (some (.fz (nD a))) none none) (a := .var 0) (i := 6) (k := k) (c := c) (q := 13) rfl rfl (by decide) (by decide) (by omega)
    have e2 : E.ev cd (.bin .add (.bin .add (.var 0) (.bin .mul (.int 13) (.var 6))) (.int 1)) (wH (.int c) M (nD n) e s (some (.fz (nD k))) (some (.fz (nD a))) none none) = .ok (.fz (.int (c + 13 * (k : Int) + 1))) := by
      rw [ev_bin, e1, R.ok_bind, asD_fz, R.ok_bind, ev_int, R.ok_bind, asD_fz, R.ok_bind, bop_add, R.ok_bind]
    have hl : (c + 13 * (k : Int) + 1).natAbs.log2 ≤ 2000000 := ((hc.add (e := 13 * (k : Int)) (k := 7000) (by omega)).add (e := 1) (k := 1) (by decide)).log (by decide)
    have ev := (mix_evN hm e2 (m := n) (e3 := .var 2) rfl (p := 9931) (by decide) (by decide) (by omega) hl).1
    rw [hb] at ev
    rw [ex_setF, ev]
    rfl
  have r3 : S.ex cd N (.set 9 false (.tup (.cons (.bi .min2 (.cons (.var 7) (.cons (.var 8) .nil))) (.cons (.bi .max2 (.cons (.var 7) (.cons (.var 8) .nil))) .nil)))) (wH (.int c) M (nD n) e s (some (.fz (nD k))) (some (.fz (nD a))) (some (.fz (nD b))) none) = .nx (wH (.int c) M (nD n) e s (some (.fz (nD k))) (some (.fz (nD a))) (some (.fz (nD b))) (some (.fz (prD (min a b, max a b))))) := by
    have ev := pair_ev (min_ev (cd := cd) (g := wH (.int c) M (nD n) e s (some (.fz (nD k))) (some (.fz (nD a))) (some (.fz (nD b))) none) (a := .var 7) (b := .var 8) (x := a) (y := b) rfl rfl) (max_ev (a := .var 7) (b := .var 8) (x := a) (y := b) rfl rfl)
    rw [ex_setF, ev]
    rfl
  have ec : E.ev cd (.and (.cmp .ne (.var 7) (.var 8)) (.cmp .nin (.var 9) (.var 3))) (wH (.int c) M (nD n) e s (some (.fz (nD k))) (some (.fz (nD a))) (some (.fz (nD b))) (some (.fz (prD (min a b, max a b))))) = .ok (.fz (.bool (decide (a ≠ b ∧ (min a b, max a b) ∉ s)))) := by
    have v7 : E.ev cd (.var 7) (wH (.int c) M (nD n) e s (some (.fz (nD k))) (some (.fz (nD a))) (some (.fz (nD b))) (some (.fz (prD (min a b, max a b))))) = .ok (.fz (nD a)) := rfl
    have v8 : E.ev cd (.var 8) (wH (.int c) M (nD n) e s (some (.fz (nD k))) (some (.fz (nD a))) (some (.fz (nD b))) (some (.fz (prD (min a b, max a b))))) = .ok (.fz (nD b)) := rfl
    have v9 : E.ev cd (.var 9) (wH (.int c) M (nD n) e s (some (.fz (nD k))) (some (.fz (nD a))) (some (.fz (nD b))) (some (.fz (prD (min a b, max a b))))) = .ok (.fz (prD (min a b, max a b))) := rfl
    have v3 : E.ev cd (.var 3) (wH (.int c) M (nD n) e s (some (.fz (nD k))) (some (.fz (nD a))) (some (.fz (nD b))) (some (.fz (prD (min a b, max a b))))) = .ok (.ol (oP s)) := rfl
    have c1 : E.ev cd (.cmp .ne (.var 7) (.var 8)) (wH (.int c) M (nD n) e s (some (.fz (nD k))) (some (.fz (nD a))) (some (.fz (nD b))) (some (.fz (prD (min a b, max a b))))) = .ok (.fz (.bool (!decide (a = b)))) := by
      rw [ev_cmp, v7, R.ok_bind, asD_fz, R.ok_bind, v8, R.ok_bind, toD_fz, cop_ne eqe_n (k := 0) (fun a => pl_n a) (by decide), R.ok_bind]
    have c2 : E.ev cd (.cmp .nin (.var 9) (.var 3)) (wH (.int c) M (nD n) e s (some (.fz (nD k))) (some (.fz (nD a))) (some (.fz (nD b))) (some (.fz (prD (min a b, max a b))))) = .ok (.fz (.bool (!decide ((min a b, max a b) ∈ s)))) := by
      rw [ev_cmp, v9, R.ok_bind, asD_fz, R.ok_bind, v3, R.ok_bind, toD_ol, cop_nin eqe_pr pl_pr (by decide), R.ok_bind]
      refine congrArg (fun z => R.ok (O.fz (PyData.bool (!z)))) ?_
      rw [decide_eq_decide]
    rw [ev_andS, c1, R.ok_bind, asD_fz, R.ok_bind]
    by_cases h : a = b
    · rw [decide_eq_true h]
      have : decide (a ≠ b ∧ (min a b, max a b) ∉ s) = false := decide_eq_false fun z => z.1 h
      rw [this]
      rfl
    · rw [decide_eq_false h]
      show E.ev cd (.cmp .nin (.var 9) (.var 3)) _ = _
      rw [c2]
      refine congrArg (fun z => R.ok (O.fz (PyData.bool z))) ?_
      by_cases z : (min a b, max a b) ∈ s
      · rw [decide_eq_true z, decide_eq_false fun q => q.2 z]; rfl
      · rw [decide_eq_false z, decide_eq_true ⟨h, z⟩]; rfl
  by_cases h : a ≠ b ∧ (min a b, max a b) ∉ s
  · refine ⟨wH (.int c) M (nD n) e (s ++ [(min a b, max a b)]) (some (.fz (nD k))) (some (.fz (nD a))) (some (.fz (nD b))) (some (.fz (prD (min a b, max a b)))), ?_, ?_⟩
    · have sl : slotL (wH (.int c) M (nD n) e s (some (.fz (nD k))) (some (.fz (nD a))) (some (.fz (nD b))) (some (.fz (prD (min a b, max a b))))) 3 = .ok (oP s) := rfl
      have v9 : E.ev cd (.var 9) (wH (.int c) M (nD n) e s (some (.fz (nD k))) (some (.fz (nD a))) (some (.fz (nD b))) (some (.fz (prD (min a b, max a b))))) = .ok (.fz (prD (min a b, max a b))) := rfl
      have eo : oP s ++ [.fz (prD (min a b, max a b))] = oP (s ++ [(min a b, max a b)]) := by simp
      rw [exs_cons, r1, SO.thn_nx, exs_cons, r2, SO.thn_nx, exs_cons, r3, SO.thn_nx, exs_cons, ex_ite, ec, R.ok_bind, toD_fz, truth_bool, R.thn_ok, if_pos (decide_eq_true h), exs_cons, ex_app, sl, R.thn_ok, v9, R.ok_bind, asD_fz, R.thn_ok]
      rw [if_pos (sz_le (by simp only [List.length_map]; omega)), eo]
      rfl
    · unfold exStep
      simp only [ha, hb]
      rw [if_pos h]
      rfl
  · refine ⟨wH (.int c) M (nD n) e s (some (.fz (nD k))) (some (.fz (nD a))) (some (.fz (nD b))) (some (.fz (prD (min a b, max a b)))), ?_, ?_⟩
    · rw [exs_cons, r1, SO.thn_nx, exs_cons, r2, SO.thn_nx, exs_cons, r3, SO.thn_nx, exs_cons, ex_ite, ec, R.ok_bind, toD_fz, truth_bool, R.thn_ok, if_neg (by simpa using h)]
      rfl
    · unfold exStep
      simp only [ha, hb]
      rw [if_neg h]
      rfl
theorem ex_len {a b : Nat → Nat} {s : List (Nat × Nat)} {k : Nat} : (exStep a b s k).length ≤ s.length + 1 := by
  unfold exStep
  split
  · simp
  · omega
theorem web_two (hm : MixOk cd) (hc : Sm 10000 c) (hn : 1 ≤ n) (hn2 : n ≤ 1000) {m : Nat} (he : m < 100) {s : List (Nat × Nat)} (hs : s.length ≤ 1000) :
    S.ex cd N (.for_ (.n 6) (.rng1 (.var 5)) (.cons (.set 7 false (.call "_law_mix" (.cons (.bin .add (.var 0) (.bin .mul (.int 11) (.var 6))) (.cons (.int 9941) (.cons (.var 2) .nil))))) (.cons (.set 8 false (.call "_law_mix" (.cons (.bin .add (.bin .add (.var 0) (.bin .mul (.int 13) (.var 6))) (.int 1)) (.cons (.int 9931) (.cons (.var 2) .nil)))))
      (.cons (.set 9 false (.tup (.cons (.bi .min2 (.cons (.var 7) (.cons (.var 8) .nil))) (.cons (.bi .max2 (.cons (.var 7) (.cons (.var 8) .nil))) .nil)))) (.cons (.ite (.and (.cmp .ne (.var 7) (.var 8)) (.cmp .nin (.var 9) (.var 3))) (.cons (.app 3 false (.var 9)) .nil) .nil) .nil)))) [6, 7, 8, 9]) (wH (.int c) M (nD n) (nD m) s none none none none) =
    .nx (wH (.int c) M (nD n) (nD m) ((List.range m).foldl (exStep (fun k => (mixI (c + 11 * (k : Int)) 9941 (n : Int)).toNat) (fun k => (mixI (c + 13 * (k : Int) + 1) 9931 (n : Int)).toNat)) s) none none none none) := by
  rw [ex_for, evi_rng_n (n := m) rfl (by omega), R.thn_ok]
  refine (forL_foldN nD (fun s => wH (.int c) M (nD n) (nD m) s none none none none) (exStep (fun k => (mixI (c + 11 * (k : Int)) 9941 (n : Int)).toNat) (fun k => (mixI (c + 13 * (k : Int) + 1) 9931 (n : Int)).toNat)) (fun i s => s.length ≤ 1000 + i) (List.range m) 0 s (by omega) fun i s hi I k hk => ?_).1
  rw [List.length_range] at hi
  obtain ⟨g', h1, h2⟩ := ex_turn (N := N) (M := M) hm hc hn hn2 (e := nD m) (s := s) (k := k) (by have := List.mem_range.mp hk; omega) (by omega)
  exact ⟨by have := ex_len (a := fun k => (mixI (c + 11 * (k : Int)) 9941 (n : Int)).toNat) (b := fun k => (mixI (c + 13 * (k : Int) + 1) 9931 (n : Int)).toNat) (s := s) (k := k); omega, g', .inl h1, h2⟩
end
/-! ### what the loops make -/
theorem ex_ok {n : Nat} {a b : Nat → Nat} (ha : ∀ k, a k < n) (hb : ∀ k, b k < n) : ∀ (l : List Nat) (s : List (Nat × Nat)), RngF n s → s.Nodup → RngF n (l.foldl (exStep a b) s) ∧ (l.foldl (exStep a b) s).Nodup ∧ ∀ t ∈ s, t ∈ l.foldl (exStep a b) s
  | [], s, h1, h2 => ⟨h1, h2, fun t h => h⟩
  | k :: l, s, h1, h2 => by
    have st : RngF n (exStep a b s k) ∧ (exStep a b s k).Nodup ∧ ∀ t ∈ s, t ∈ exStep a b s k := by
      unfold exStep
      split
      · next h =>
        refine ⟨fun t ht => ?_, ?_, fun t ht => List.mem_append_left _ ht⟩
        · rcases List.mem_append.mp ht with ht | ht
          · exact h1 t ht
          · rw [List.mem_singleton.mp ht]
            have := ha k
            have := hb k
            have := h.1
            simp only
            omega
        · rw [List.nodup_append]
          refine ⟨h2, by simp, fun x hx y hy e => ?_⟩
          rw [List.mem_singleton.mp hy] at e
          rw [e] at hx
          exact h.2 hx
      · exact ⟨h1, h2, fun t h => h⟩
    obtain ⟨g1, g2, g3⟩ := ex_ok ha hb l _ st.1 st.2.1
    exact ⟨g1, g2, fun t ht => g3 t (st.2.2 t ht)⟩
/-- each place but the first is tied to an earlier one: all hang together -/
theorem con_of {n : Nat} {F : List (Nat × Nat)} {r : Nat → Nat} (h : ∀ k, 1 ≤ k → k < n → r k < k ∧ (r k, k) ∈ F) : ∀ p q, p < n → q < n → ∃ k, Rch F k p q := by
  have root : ∀ p, p < n → ∃ k, Rch F k 0 p := by
    intro p
    induction p using Nat.strongRecOn with
    | ind p ih =>
      intro hp
      by_cases z : p = 0
      · subst z; exact ⟨0, .zero⟩
      · obtain ⟨h1, h2⟩ := h p (by omega) hp
        obtain ⟨k, rk⟩ := ih (r p) h1 (by omega)
        exact ⟨k + 1, .step rk (.inl h2)⟩
  intro p q hp hq
  obtain ⟨a, ra⟩ := root p hp
  obtain ⟨b, rb⟩ := root q hq
  exact ⟨a + b, ra.symm.trans rb⟩
end Q

set_option Elab.async false
set_option linter.all false
set_option maxRecDepth 100000
set_option maxHeartbeats 1000000
/-! P15: _law_web gives a good web; renamed. -/
namespace Q
open PySem
theorem sort_two (x y : Nat) : sortN [x, y] = [min x y, max x y] := by
  show insN x [y] = _
  unfold insN
  by_cases h : x ≤ y
  · rw [if_pos h, Nat.min_eq_left h, Nat.max_eq_right h]
  · rw [if_neg h, Nat.min_eq_right (by omega), Nat.max_eq_left (by omega)]
    rfl
section
variable {cd : String → List D → R D} {N : Nat} {g : Env}
theorem at_seq {t : Bool} {l : List Nat} {i x : Nat} (h : l[i]? = some x) : (O.fz (seqD t l)).at ((i : Nat) : Int) = .ok (.fz (nD x)) := by
  cases t with
  | true => exact at_tup (by simp [h])
  | false => exact at_list (by simp [h])
theorem ix_ev {a b : E} {t : Bool} {l : List Nat} {i x : Nat} (ha : E.ev cd a g = .ok (.fz (seqD t l))) (hb : E.ev cd b g = .ok (.fz (nD i))) (h : l[i]? = some x) : E.ev cd (.ix a b) g = .ok (.fz (nD x)) := by
  rw [ev_ix, ha, R.ok_bind, hb, R.ok_bind, asD_fz, R.ok_bind, asInt_int, R.ok_bind, at_seq h]
theorem two_ev {a b : E} {x y : Nat} (ha : E.ev cd a g = .ok (.fz (nD x))) (hb : E.ev cd b g = .ok (.fz (nD y))) : E.ev cd (.bi .tuple (.cons (.bi .sorted (.cons (.lst (.cons a (.cons b .nil))) .nil)) .nil)) g = .ok (.fz (prD (min x y, max x y))) := by
  have e : bi .sorted [.fz (.list [nD x, nD y])] = .ok (.list ([min x y, max x y].map nD)) := by
    have := sortD_n [x, y]
    rw [sort_two] at this
    show (sortD [nD x, nD y] >>= fun es => R.ok (PyData.list es)) = _
    rw [show [nD x, nD y] = [x, y].map nD from rfl, this]
    rfl
  rw [ev_bi, evo_cons, ev_bi, evo_cons, ev_lst, evo_cons, ha, R.ok_bind, evo_cons, hb, R.ok_bind, evo_nil, R.ok_bind, R.ok_bind, R.ok_bind, fzAll_cons, fzAll_cons, fzAll_nil, R.ok_bind, R.ok_bind, R.ok_bind]
  simp only [R.ok_bind, e]
  rfl
theorem tupS_ev {a : E} {F : List (Nat × Nat)} (ha : E.ev cd a g = .ok (.fz (.list (F.map prD)))) : E.ev cd (.bi .tuple (.cons (.bi .sorted (.cons a .nil)) .nil)) g = .ok (.fz (.tuple ((sortP F).map prD))) := by
  have e : bi .sorted [.fz (.list (F.map prD))] = .ok (.list ((sortP F).map prD)) := by
    show (sortD (F.map prD) >>= fun es => R.ok (PyData.list es)) = _
    rw [sortD_p]
    rfl
  rw [ev_bi, evo_cons, ev_bi, evo_cons, ha, R.ok_bind, evo_nil, R.ok_bind, R.ok_bind, e]
  simp only [R.ok_bind]
  rfl
end
/-- _law_perm, as called -/
def PermOk (t : Bool) (cd : String → List D → R D) : Prop := ∀ (c : Int) (n : Nat), Sm 100000 c → n ≤ 1000 → ∃ l : List Nat, cd "_law_perm" [.int c, nD n] = .ok (seqD t l) ∧ l.Perm (List.range n)
section
variable {cd : String → List D → R D} {N : Nat} {c : Int} {n : Nat}
theorem web_comp {x0 x1 x2 x4 x5 x6 x7 x8 x9 : Option O} {t : Bool} {l : List Nat} (hl : l.Perm (List.range n)) {F : List (Nat × Nat)} (hF : RngF n F) (hs : F.length ≤ 1000000) :
    E.ev cd (.comp (.cons (.n 7) (.cons (.n 8) .nil)) [("_law_one", 7), ("_law_other", 8)] (.seq (.var 3)) .no (.bi .tuple (.cons (.bi .sorted (.cons (.lst (.cons (.ix (.var 10) (.var 7)) (.cons (.ix (.var 10) (.var 8)) .nil))) .nil)) .nil)))
      [x0, x1, x2, some (.fz (.list (F.map prD))), x4, x5, x6, x7, x8, x9, some (.fz (seqD t l))] = .ok (.fz (.list ((F.map (ren l)).map prD))) := by
  have q : It.evi cd (.seq (.var 3)) [x0, x1, x2, some (.fz (.list (F.map prD))), x4, x5, x6, x7, x8, x9, some (.fz (seqD t l))] = .ok (F.map prD) := rfl
  rw [ev_compS, q, R.ok_bind, if_pos (sz_le (by rw [List.length_map]; exact hs)), compL_all prD (fun u => prD (ren l u)) F fun u hu => ?_, R.ok_bind, List.map_map]
  · rfl
  · obtain ⟨x, y, h1, h2, _, _, _, h6⟩ := ren_is hl hF hu
    have e : turnE cd (.cons (.n 7) (.cons (.n 8) .nil)) ([("_law_one", 7), ("_law_other", 8)].map (·.2)) .no (.bi .tuple (.cons (.bi .sorted (.cons (.lst (.cons (.ix (.var 10) (.var 7)) (.cons (.ix (.var 10) (.var 8)) .nil))) .nil)) .nil)) [x0, x1, x2, some (.fz (.list (F.map prD))), x4, x5, x6, x7, x8, x9, some (.fz (seqD t l))] (prD u) =
        ((E.ev cd (.bi .tuple (.cons (.bi .sorted (.cons (.lst (.cons (.ix (.var 10) (.var 7)) (.cons (.ix (.var 10) (.var 8)) .nil))) .nil)) .nil)) [x0, x1, x2, some (.fz (.list (F.map prD))), x4, x5, x6, some (.fz (nD u.1)), some (.fz (nD u.2)), x9, some (.fz (seqD t l))]) >>= O.asD) >>= fun x => R.ok (some x) := rfl
    have ev := two_ev (cd := cd) (g := [x0, x1, x2, some (.fz (.list (F.map prD))), x4, x5, x6, some (.fz (nD u.1)), some (.fz (nD u.2)), x9, some (.fz (seqD t l))]) (a := .ix (.var 10) (.var 7)) (b := .ix (.var 10) (.var 8)) (ix_ev (i := u.1) rfl rfl h1) (ix_ev (i := u.2) rfl rfl h2)
    rw [e, ev, h6]
    rfl
theorem web_run {M : Nat} {t : Bool} (hm : MixOk cd) (hp : PermOk t cd) (hc : Sm 10000 c) (hM : 1 ≤ M) (hM2 : M ≤ 100) : ∃ w : Web, f__law_web.run cd N [.int c, nD M] = .ok (webD w) ∧ GoodW w ∧ w.1 ≤ M ∧ w.2.length ≤ 2000 := by
  have hl0 : c.natAbs.log2 ≤ 2000000 := hc.log (by decide)
  -- how many places
  obtain ⟨e1, h1⟩ := mix_evN (cd := cd) (g := [some (.fz (.int c)), some (.fz (nD M)), none, none, none, none, none, none, none, none, none]) hm (e1 := .var 0) (a := c) (p := 9973) rfl (e3 := .var 1) (m := M) rfl (by decide) (by decide) (by omega) hl0
  generalize hr : (mixI c 9973 (M : Int)).toNat = r at e1 h1
  have hn1 : 1 ≤ 1 + r := by omega
  generalize hn : 1 + r = n at hn1
  have hnM : n ≤ M := by omega
  have r0 : S.ex cd N (.set 2 false (.bin .add (.int 1) (.call "_law_mix" (.cons (.var 0) (.cons (.int 9973) (.cons (.var 1) .nil)))))) [some (.fz (.int c)), some (.fz (nD M)), none, none, none, none, none, none, none, none, none] = .nx [some (.fz (.int c)), some (.fz (nD M)), some (.fz (nD n)), none, none, none, none, none, none, none, none] := by
    have e : (1 : Int) + (r : Int) = (n : Int) := by omega
    rw [ex_setF, ev_bin, ev_int, R.ok_bind, asD_fz, R.ok_bind, e1, R.ok_bind, asD_fz, R.ok_bind, bop_add, e]
    rfl
  have r1 : S.ex cd N (.set 3 true (.lst .nil)) [some (.fz (.int c)), some (.fz (nD M)), some (.fz (nD n)), none, none, none, none, none, none, none, none] = .nx (wG (.int c) (nD M) (nD n) [] none) := by
    rw [ex_setO, ev_lst]; rfl
  obtain ⟨rr, h2, r2⟩ := web_one (N := N) (M := nD M) hm hc hn1 (by omega)
  generalize hF : (List.range' 1 (n - 1)).map (fun k => (rr k, k)) = F1 at r2
  have len1 : F1.length ≤ 100 := by rw [← hF, List.length_map, List.length_range']; omega
  have rng1 : RngF n F1 := by
    intro u hu
    rw [← hF] at hu
    obtain ⟨k, hk, rfl⟩ := List.mem_map.mp hu
    rw [List.mem_range'_1] at hk
    have := h2 k hk.1 (by omega)
    simp only
    omega
  have nd1 : F1.Nodup := by
    rw [← hF]
    refine List.Pairwise.map _ (R := (· ≠ ·)) (fun a b h e => h (Prod.mk.inj e).2) List.nodup_range'
  have con1 : ∀ k, 1 ≤ k → k < n → rr k < k ∧ (rr k, k) ∈ F1 := fun k h3 h4 => by
    refine ⟨h2 k h3 h4, ?_⟩
    rw [← hF]
    exact List.mem_map_of_mem (f := fun k => (rr k, k)) (List.mem_range'_1.mpr ⟨h3, by omega⟩)
  -- how many ties more
  obtain ⟨e3, h3⟩ := mix_evN (cd := cd) (g := wG (.int c) (nD M) (nD n) F1 none) hm (e1 := .var 0) (a := c) (p := 9949) rfl (e3 := .int 6) (m := 6) rfl (by decide) (by decide) (by decide) hl0
  obtain ⟨m, hm2, hm3⟩ : ∃ m : Nat, ([0, 0, 1, 2, 4, 9] : List Nat)[(mixI c 9949 ((6 : Nat) : Int)).toNat]? = some m ∧ m < 100 := by
    have hlt : (mixI c 9949 ((6 : Nat) : Int)).toNat < ([0, 0, 1, 2, 4, 9] : List Nat).length := h3
    refine ⟨_, List.getElem?_eq_getElem hlt, ?_⟩
    have all : ∀ x ∈ ([0, 0, 1, 2, 4, 9] : List Nat), x < 100 := by decide
    exact all _ (List.getElem_mem hlt)
  have r3 : S.ex cd N (.set 5 false (.ix (.lst (.cons (.int 0) (.cons (.int 0) (.cons (.int 1) (.cons (.int 2) (.cons (.int 4) (.cons (.int 9) .nil))))))) (.call "_law_mix" (.cons (.var 0) (.cons (.int 9949) (.cons (.int 6) .nil)))))) (wG (.int c) (nD M) (nD n) F1 none) = .nx (wH (.int c) (nD M) (nD n) (nD m) F1 none none none none) := by
    have el : E.ev cd (.lst (.cons (.int 0) (.cons (.int 0) (.cons (.int 1) (.cons (.int 2) (.cons (.int 4) (.cons (.int 9) .nil))))))) (wG (.int c) (nD M) (nD n) F1 none) = .ok (.fz (seqD false [0, 0, 1, 2, 4, 9])) := by
      rw [ev_lst]; rfl
    have ev := ix_ev el e3 hm2
    rw [ex_setF, ev]
    rfl
  have r4 := web_two (cd := cd) (N := N) (M := nD M) hm hc hn1 (by omega) hm3 (s := F1) (by omega)
  generalize hF2 : (List.range m).foldl (exStep (fun k => (mixI (c + 11 * (k : Int)) 9941 (n : Int)).toNat) (fun k => (mixI (c + 13 * (k : Int) + 1) 9931 (n : Int)).toNat)) F1 = F at r4
  have lt9 : ∀ x p : Int, (mixI x p (n : Int)).toNat < n := fun x p => by
    obtain ⟨b1, b2⟩ := mixI_lt (c := x) (p := p) (m := (n : Int)) (by omega)
    omega
  obtain ⟨rng2, nd2, sub2⟩ := ex_ok (a := fun k => (mixI (c + 11 * (k : Int)) 9941 (n : Int)).toNat) (b := fun k => (mixI (c + 13 * (k : Int) + 1) 9931 (n : Int)).toNat) (fun k => lt9 _ _) (fun k => lt9 _ _) (List.range m) F1 rng1 nd1
  have len2 : F.length ≤ 1000 := by
    have gen : ∀ (l : List Nat) (s : List (Nat × Nat)), (l.foldl (exStep (fun k => (mixI (c + 11 * (k : Int)) 9941 (n : Int)).toNat) (fun k => (mixI (c + 13 * (k : Int) + 1) 9931 (n : Int)).toNat)) s).length ≤ s.length + l.length := by
      intro l
      induction l with
      | nil => exact fun s => Nat.le_refl _
      | cons k l ih =>
        intro s
        have := ih (exStep (fun k => (mixI (c + 11 * (k : Int)) 9941 (n : Int)).toNat) (fun k => (mixI (c + 13 * (k : Int) + 1) 9931 (n : Int)).toNat) s k)
        have := ex_len (a := fun k => (mixI (c + 11 * (k : Int)) 9941 (n : Int)).toNat) (b := fun k => (mixI (c + 13 * (k : Int) + 1) 9931 (n : Int)).toNat) (s := s) (k := k)
        simp only [List.foldl_cons, List.length_cons]
        omega
    have := gen (List.range m) F1
    rw [hF2, List.length_range] at this
    omega
  rw [hF2] at rng2 nd2 sub2
  obtain ⟨l, h5, h6⟩ := hp c n (by obtain ⟨z, d, q1, q2, q3⟩ := hc; exact ⟨z, d, q1, q2, by omega⟩) (by omega)
  refine ⟨(n, sortP (F.map (ren l))), ?_, ren_good h6 rng2 hn1 nd2 (con_of fun k h3 h4 => ⟨(con1 k h3 h4).1, sub2 _ (con1 k h3 h4).2⟩), hnM, ?_⟩
  · refine run_of (g := [some (.fz (.int c)), some (.fz (nD M)), none, none, none, none, none, none, none, none, none]) rfl rfl ?_
    unfold f__law_web
    rw [exs_cons, r0, SO.thn_nx, exs_cons, r1, SO.thn_nx, exs_cons, r2, SO.thn_nx, exs_cons, r3, SO.thn_nx, exs_cons, r4, SO.thn_nx, exs_frz]
    show (R.ok (O.ol (oP F))).thn _ _ = _
    rw [R.thn_ok, toD_ol, exs_cons]
    have r5 : S.ex cd N (.set 10 false (.call "_law_perm" (.cons (.var 0) (.cons (.var 2) .nil)))) [some (.fz (.int c)), some (.fz (nD M)), some (.fz (nD n)), some (.fz (.list (F.map prD))), none, some (.fz (nD m)), none, none, none, none, none] =
        .nx [some (.fz (.int c)), some (.fz (nD M)), some (.fz (nD n)), some (.fz (.list (F.map prD))), none, some (.fz (nD m)), none, none, none, none, some (.fz (seqD t l))] := by
      have v0 : E.ev cd (.var 0) [some (.fz (.int c)), some (.fz (nD M)), some (.fz (nD n)), some (.fz (.list (F.map prD))), none, some (.fz (nD m)), none, none, none, none, none] = .ok (.fz (.int c)) := rfl
      have v2 : E.ev cd (.var 2) [some (.fz (.int c)), some (.fz (nD M)), some (.fz (nD n)), some (.fz (.list (F.map prD))), none, some (.fz (nD m)), none, none, none, none, none] = .ok (.fz (nD n)) := rfl
      rw [ex_setF, ev_call, evo_cons, v0, R.ok_bind, evo_cons, v2, R.ok_bind, evo_nil, R.ok_bind, R.ok_bind, R.ok_bind, fzAll_cons, fzAll_cons, fzAll_nil, R.ok_bind, R.ok_bind, R.ok_bind, h5]
      rfl
    have es : (List.set (wH (.int c) (nD M) (nD n) (nD m) F none none none none) 3 (some (O.fz (PyData.list (F.map prD))))) = [some (.fz (.int c)), some (.fz (nD M)), some (.fz (nD n)), some (.fz (.list (F.map prD))), none, some (.fz (nD m)), none, none, none, none, none] := rfl
    rw [es, r5, SO.thn_nx, exs_cons, ex_ret, ev_tup]
    have v2 : E.ev cd (.var 2) [some (.fz (.int c)), some (.fz (nD M)), some (.fz (nD n)), some (.fz (.list (F.map prD))), none, some (.fz (nD m)), none, none, none, none, some (.fz (seqD t l))] = .ok (.fz (nD n)) := rfl
    have ev := tupS_ev (web_comp (cd := cd) (x0 := some (.fz (.int c))) (x1 := some (.fz (nD M))) (x2 := some (.fz (nD n))) (x4 := none) (x5 := some (.fz (nD m))) (x6 := none) (x7 := none) (x8 := none) (x9 := none) (t := t) h6 rng2 (by omega))
    rw [evo_cons, v2, R.ok_bind, evo_cons, ev, R.ok_bind, evo_nil, R.ok_bind, R.ok_bind, R.ok_bind, fzAll_cons, fzAll_cons, fzAll_nil, R.ok_bind, R.ok_bind, R.ok_bind]
    rfl
  · show (sortP (F.map (ren l))).length ≤ 2000
    rw [(sortP_perm _).length_eq, List.length_map]
    omega
end
end Q

set_option Elab.async false
set_option linter.all false
set_option maxRecDepth 100000
set_option maxHeartbeats 1000000
/-! G2: how far places are in a good web; neighbours; a leaf. -/
namespace Q
open PySem
theorem least_of {P : Nat → Prop} : ∀ k, P k → ∃ d, P d ∧ ∀ m, P m → d ≤ m := by
  intro k
  induction k using Nat.strongRecOn with
  | ind k ih =>
    intro h
    by_cases z : ∃ m, m < k ∧ P m
    · obtain ⟨m, h1, h2⟩ := z
      exact ih m h1 h2
    · exact ⟨k, h, fun m hm => Nat.le_of_not_lt fun q => z ⟨m, q, hm⟩⟩
def dis (w : Web) (a b : Nat) : Nat := ((bfs w a)[b]?.join).getD 0
structure SmW (w : Web) : Prop extends GoodW w where
  few : w.1 ≤ 1000
  fews : w.2.length ≤ 400000
section
variable {w : Web} (h : SmW w)
include h
theorem SmW.ok : okW w := ⟨h.few, h.fews, fun t ht => by have := h.lt t ht; omega⟩
theorem SmW.rng : RngF w.1 w.2 := h.lt
theorem SmW.isD {a b : Nat} (ha : a < w.1) (hb : b < w.1) : IsD w.2 a b (dis w a b) := by
  obtain ⟨k, r⟩ := h.con a b ha hb
  obtain ⟨d, h1, h2⟩ := least_of (P := fun k => Rch w.2 k a b) k r
  have e := (bfs_get h.ok ha (q := b) (d := d)).mpr ⟨h1, h2⟩
  have : dis w a b = d := by
    unfold dis
    rw [e]
    rfl
  rw [this]
  exact ⟨h1, h2⟩
theorem SmW.get {a b : Nat} (ha : a < w.1) (hb : b < w.1) : (bfs w a)[b]? = some (some (dis w a b)) := (bfs_get h.ok ha).mpr (h.isD ha hb)
theorem SmW.bfs {a : Nat} (ha : a < w.1) : bfs w a = (List.range w.1).map fun b => some (dis w a b) := by
  refine List.ext_getElem? fun i => ?_
  by_cases hi : i < w.1
  · rw [h.get ha hi, List.getElem?_map, List.getElem?_range hi]
    rfl
  · rw [List.getElem?_eq_none (by rw [bfs_len h.ok ha]; omega), List.getElem?_eq_none (by simp; omega)]
theorem SmW.symm {a b : Nat} (ha : a < w.1) (hb : b < w.1) : dis w a b = dis w b a := (h.isD ha hb).uniq (h.isD hb ha).symm
theorem SmW.zero {a b : Nat} (ha : a < w.1) (hb : b < w.1) : dis w a b = 0 ↔ a = b := (h.isD ha hb).zero_iff
theorem SmW.tri {a b x : Nat} (ha : a < w.1) (hb : b < w.1) (hx : x < w.1) : dis w a b ≤ dis w a x + dis w x b := IsD.tri (h.isD ha hx) (h.isD hx hb) (h.isD ha hb)
theorem SmW.one {a b : Nat} (ha : a < w.1) (hb : b < w.1) : dis w a b = 1 ↔ Adj w.2 a b := by
  rw [(h.isD ha hb).one_iff]
  exact ⟨fun q => q.1, fun q => ⟨q, (h.rng.adj q).2.2⟩⟩
theorem SmW.okS : okS w.1 (allSteps w) := okS_all h.ok fun p hp => bfs_len h.ok hp
theorem SmW.at {a b : Nat} (ha : a < w.1) (hb : b < w.1) : stAt (allSteps w) a b = some (dis w a b) := by
  have e : (allSteps w)[a]? = some (Q.bfs w a) := by
    unfold allSteps
    rw [List.getElem?_map, List.getElem?_range ha]
    rfl
  unfold stAt
  rw [e, Option.getD_some, h.get ha hb]
  rfl
end
/-! ### rising lists -/
theorem up_ext : ∀ {a b : List Nat}, a.Pairwise (· < ·) → b.Pairwise (· < ·) → (∀ x, x ∈ a ↔ x ∈ b) → a = b
  | [], [], _, _, _ => rfl
  | [], y :: ys, _, _, h => absurd ((h y).mpr (List.mem_cons_self ..)) (by simp)
  | x :: xs, [], _, _, h => absurd ((h x).mp (List.mem_cons_self ..)) (by simp)
  | x :: xs, y :: ys, h1, h2, h => by
    have h1' := List.pairwise_cons.mp h1
    have h2' := List.pairwise_cons.mp h2
    have e : x = y := by
      rcases List.mem_cons.mp ((h x).mp (List.mem_cons_self ..)) with e | q
      · exact e
      · rcases List.mem_cons.mp ((h y).mpr (List.mem_cons_self ..)) with e | p
        · exact e.symm
        · have := h1'.1 y p
          have := h2'.1 x q
          omega
    subst e
    refine congrArg (x :: ·) (up_ext h1'.2 h2'.2 fun z => ?_)
    constructor
    · intro q
      rcases List.mem_cons.mp ((h z).mp (List.mem_cons_of_mem _ q)) with e | p
      · have := h1'.1 z q
        omega
      · exact p
    · intro q
      rcases List.mem_cons.mp ((h z).mpr (List.mem_cons_of_mem _ q)) with e | p
      · have := h2'.1 z q
        omega
      · exact p
theorem insN_up {x : Nat} : ∀ {l : List Nat}, l.Pairwise (· < ·) → x ∉ l → (insN x l).Pairwise (· < ·)
  | [], _, _ => List.pairwise_singleton _ _
  | y :: ys, h, hx => by
    have h' := List.pairwise_cons.mp h
    have ne : x ≠ y := fun e => hx (by rw [e]; exact List.mem_cons_self ..)
    unfold insN
    by_cases c : x ≤ y
    · rw [if_pos c, List.pairwise_cons]
      refine ⟨fun z hz => ?_, h⟩
      rcases List.mem_cons.mp hz with e | hz
      · omega
      · have := h'.1 z hz
        omega
    · rw [if_neg c, List.pairwise_cons]
      refine ⟨fun z hz => ?_, insN_up h'.2 fun q => hx (List.mem_cons_of_mem _ q)⟩
      rcases mem_insN.mp hz with e | hz
      · omega
      · exact h'.1 z hz
theorem sortN_up : ∀ {l : List Nat}, l.Nodup → (sortN l).Pairwise (· < ·)
  | [], _ => .nil
  | x :: xs, h => by
    have h' := List.nodup_cons.mp h
    exact insN_up (sortN_up h'.2) fun q => h'.1 (mem_sortN.mp q)
theorem nbf_nodup {n p : Nat} : ∀ (ts : List (Nat × Nat)) (acc : List Nat), RngF n ts → ts.Nodup → acc.Nodup → (∀ y ∈ acc, (p, y) ∉ ts ∧ (y, p) ∉ ts) → (ts.foldl (nbStep p) acc).Nodup
  | [], acc, _, _, h, _ => h
  | (a, b) :: ts, acc, hr, hn, h, hd => by
    have hn' := List.nodup_cons.mp hn
    have lt := hr (a, b) (List.mem_cons_self ..)
    simp only at lt
    refine nbf_nodup ts _ (fun t ht => hr t (List.mem_cons_of_mem _ ht)) hn'.2 ?_ ?_
    · unfold nbStep
      by_cases h1 : p = a
      · by_cases h2 : p = b
        · omega
        · simp only [h1, if_true]
          rw [if_neg (by rw [← h1]; exact h2), List.append_nil, List.nodup_append]
          refine ⟨h, by simp, fun x hx y hy e => ?_⟩
          rw [List.mem_singleton.mp hy] at e
          rw [e] at hx
          exact (hd b hx).1 (by rw [h1]; exact List.mem_cons_self ..)
      · by_cases h2 : p = b
        · rw [if_neg h1, if_pos h2, List.append_nil, List.nodup_append]
          refine ⟨h, by simp, fun x hx y hy e => ?_⟩
          rw [List.mem_singleton.mp hy] at e
          rw [e] at hx
          exact (hd a hx).2 (by rw [h2]; exact List.mem_cons_self ..)
        · simp only [h1, h2, if_false, List.append_nil]
          exact h
    · intro y hy
      have hy' : y ∈ acc ∨ (p = a ∧ y = b) ∨ (p = b ∧ y = a) := by
        unfold nbStep at hy
        rcases List.mem_append.mp hy with hy | hy
        · rcases List.mem_append.mp hy with hy | hy
          · exact .inl hy
          · split at hy
            · next h1 => exact .inr (.inl ⟨h1, List.mem_singleton.mp hy⟩)
            · cases hy
        · split at hy
          · next h1 => exact .inr (.inr ⟨h1, List.mem_singleton.mp hy⟩)
          · cases hy
      rcases hy' with hy | ⟨rfl, rfl⟩ | ⟨rfl, rfl⟩
      · exact ⟨fun q => (hd y hy).1 (List.mem_cons_of_mem _ q), fun q => (hd y hy).2 (List.mem_cons_of_mem _ q)⟩
      · refine ⟨hn'.1, fun q => ?_⟩
        have := hr _ (List.mem_cons_of_mem _ q)
        simp only at this
        omega
      · refine ⟨fun q => ?_, hn'.1⟩
        have := hr _ (List.mem_cons_of_mem _ q)
        simp only at this
        omega
theorem nb_up {n p : Nat} {ts : List (Nat × Nat)} (hr : RngF n ts) (hn : ts.Nodup) : (nb ts p).Pairwise (· < ·) := sortN_up (nbf_nodup ts [] hr hn List.nodup_nil fun y h => nomatch h)
theorem GoodW.nodup {w : Web} (h : GoodW w) : w.2.Nodup := h.srt.imp fun {a b} q e => by
  subst e
  unfold ltP at q
  omega
theorem range_up (n : Nat) : (List.range n).Pairwise (· < ·) := List.pairwise_lt_range
theorem SmW.near {w : Web} (h : SmW w) {a : Nat} (ha : a < w.1) : nb w.2 a = (List.range w.1).filter fun b => decide (dis w a b = 1) := by
  refine up_ext (nb_up h.rng h.nodup) (List.Pairwise.filter _ (range_up _)) fun y => ?_
  rw [mem_nb, List.mem_filter, List.mem_range, decide_eq_true_eq]
  constructor
  · intro q
    have hy := (h.rng.adj q).2.1
    exact ⟨hy, (h.one ha hy).mpr q⟩
  · intro ⟨hy, q⟩
    exact (h.one ha hy).mp q
/-! ### other names -/
theorem ren_sm {w : Web} (h : SmW w) {l : List Nat} (hl : l.Perm (List.range w.1)) : SmW (renW l w) := by
  refine { ren_good hl h.rng h.pos h.nodup h.con with few := h.few, fews := ?_ }
  show (sortP (w.2.map (ren l))).length ≤ 400000
  rw [(sortP_perm _).length_eq, List.length_map]
  exact h.fews
theorem ren_dis {w : Web} (h : SmW w) {l : List Nat} (hl : l.Perm (List.range w.1)) {i j x y : Nat} (hi : l[i]? = some x) (hj : l[j]? = some y) (hi2 : i < w.1) (hj2 : j < w.1) : dis (renW l w) x y = dis w i j := by
  obtain ⟨x', e1, h1⟩ := nm_get hl hi2
  obtain ⟨y', e2, h2⟩ := nm_get hl hj2
  rw [hi] at e1
  rw [hj] at e2
  cases e1
  cases e2
  have a := (ren_sm h hl).isD (a := x) (b := y) h1 h2
  have b : IsD (sortP (w.2.map (ren l))) x y (dis w i j) := isD_sort.mpr ((ren_isD hl h.rng hi hj).mpr (h.isD hi2 hj2))
  exact IsD.uniq a b
/-! ### a leaf -/
def leafW (w : Web) (p : Nat) : Web := (w.1 + 1, sortP (w.2 ++ [(p, w.1)]))
theorem leaf_adj {w : Web} {p x y : Nat} : Adj (w.2 ++ [(p, w.1)]) x y ↔ Adj w.2 x y ∨ (x = p ∧ y = w.1) ∨ (x = w.1 ∧ y = p) := by
  unfold Adj
  simp only [List.mem_append, List.mem_singleton, Prod.mk.injEq]
  constructor
  · rintro ((a | a) | (a | a))
    · exact .inl (.inl a)
    · exact .inr (.inl a)
    · exact .inl (.inr a)
    · exact .inr (.inr ⟨a.2, a.1⟩)
  · rintro ((a | a) | a | a)
    · exact .inl (.inl a)
    · exact .inr (.inl a)
    · exact .inl (.inr a)
    · exact .inr (.inr ⟨a.2, a.1⟩)
section
variable {w : Web} (h : SmW w) {p : Nat} (hp : p < w.1)
include h hp
theorem leaf_rng : RngF (w.1 + 1) (w.2 ++ [(p, w.1)]) := by
  intro t ht
  rcases List.mem_append.mp ht with ht | ht
  · have := h.lt t ht
    omega
  · rw [List.mem_singleton.mp ht]
    simp only
    omega
theorem leaf_nodup : (w.2 ++ [(p, w.1)]).Nodup := by
  rw [List.nodup_append]
  refine ⟨h.nodup, by simp, fun x hx y hy e => ?_⟩
  rw [List.mem_singleton.mp hy] at e
  rw [e] at hx
  have := h.lt _ hx
  simp only at this
  omega
theorem leaf_down {k a y : Nat} (r : Rch (w.2 ++ [(p, w.1)]) k a y) (ha : a < w.1) : (y < w.1 ∧ ∃ m, m ≤ k ∧ Rch w.2 m a y) ∨ (y = w.1 ∧ ∃ m, m + 1 ≤ k ∧ Rch w.2 m a p) := by
  induction r with
  | zero => exact .inl ⟨ha, 0, Nat.le_refl _, .zero⟩
  | step r q ih =>
    rcases leaf_adj.mp q with q | ⟨e1, e2⟩ | ⟨e1, e2⟩
    · obtain ⟨q1, q2, _⟩ := h.rng.adj q
      rcases ih ha with ⟨_, m, hm, rm⟩ | ⟨e, _⟩
      · exact .inl ⟨q2, m + 1, by omega, .step rm q⟩
      · omega
    · subst e1
      rcases ih ha with ⟨_, m, hm, rm⟩ | ⟨e, _⟩
      · exact .inr ⟨e2, m, by omega, rm⟩
      · omega
    · rcases ih ha with ⟨e, _⟩ | ⟨_, m, hm, rm⟩
      · omega
      · subst e2
        exact .inl ⟨hp, m, by omega, rm⟩
theorem leaf_up {k a y : Nat} (r : Rch w.2 k a y) : Rch (w.2 ++ [(p, w.1)]) k a y := r.mono fun _ _ q => leaf_adj.mpr (.inl q)
theorem leaf_isD {a b d : Nat} (ha : a < w.1) (hb : b < w.1) (g : IsD w.2 a b d) : IsD (w.2 ++ [(p, w.1)]) a b d := by
  refine ⟨leaf_up h hp g.1, fun k r => ?_⟩
  rcases leaf_down h hp r ha with ⟨_, m, h1, h2⟩ | ⟨e, _⟩
  · have := g.2 m h2
    omega
  · omega
theorem leaf_isD1 {a d : Nat} (ha : a < w.1) (g : IsD w.2 a p d) : IsD (w.2 ++ [(p, w.1)]) a w.1 (d + 1) := by
  refine ⟨.step (leaf_up h hp g.1) (leaf_adj.mpr (.inr (.inl ⟨rfl, rfl⟩))), fun k r => ?_⟩
  rcases leaf_down h hp r ha with ⟨e, _⟩ | ⟨_, m, h1, h2⟩
  · omega
  · have := g.2 m h2
    omega
theorem leaf_sm (hf : w.1 < 1000) (hf2 : w.2.length < 400000) : SmW (leafW w p) where
  pos := by show 1 ≤ w.1 + 1; omega
  lt := fun t ht => leaf_rng h hp t ((sortP_perm _).mem_iff.mp ht)
  srt := sortP_lt (leaf_nodup h hp)
  con := fun x y hx hy => by
    have key : ∀ x, x < w.1 + 1 → ∃ k, Rch (w.2 ++ [(p, w.1)]) k p x := fun x hx => by
      by_cases e : x = w.1
      · subst e
        exact ⟨_, (leaf_isD1 h hp hp .self).1⟩
      · obtain ⟨k, r⟩ := h.con p x hp (by omega)
        exact ⟨k, leaf_up h hp r⟩
    obtain ⟨a, ra⟩ := key x hx
    obtain ⟨b, rb⟩ := key y hy
    exact ⟨a + b, (ra.symm.trans rb).mono fun _ _ q => adj_sort.mpr q⟩
  few := by show w.1 + 1 ≤ 1000; omega
  fews := by
    show (sortP (w.2 ++ [(p, w.1)])).length ≤ 400000
    rw [(sortP_perm _).length_eq, List.length_append]
    simp only [List.length_cons, List.length_nil]
    omega
theorem leaf_dis (hf : w.1 < 1000) (hf2 : w.2.length < 400000) {a b : Nat} (ha : a < w.1) (hb : b < w.1) : dis (leafW w p) a b = dis w a b :=
  IsD.uniq ((leaf_sm h hp hf hf2).isD (a := a) (b := b) (by show a < w.1 + 1; omega) (by show b < w.1 + 1; omega)) (isD_sort.mpr (leaf_isD h hp ha hb (h.isD ha hb)))
theorem leaf_dis1 (hf : w.1 < 1000) (hf2 : w.2.length < 400000) {a : Nat} (ha : a < w.1) : dis (leafW w p) a w.1 = dis w a p + 1 :=
  IsD.uniq ((leaf_sm h hp hf hf2).isD (a := a) (b := w.1) (by show a < w.1 + 1; omega) (by show w.1 < w.1 + 1; omega)) (isD_sort.mpr (leaf_isD1 h hp ha (h.isD ha hp)))
theorem leaf_nb : nb (leafW w p).2 w.1 = [p] := by
  refine up_ext (nb_up (n := w.1 + 1) (fun t ht => leaf_rng h hp t ((sortP_perm _).mem_iff.mp ht)) (((sortP_perm _).nodup_iff).mpr (leaf_nodup h hp))) (List.pairwise_singleton _ _) fun y => ?_
  rw [mem_nb, List.mem_singleton]
  have e : ((w.1, y) ∈ (leafW w p).2 ∨ (y, w.1) ∈ (leafW w p).2) ↔ Adj (w.2 ++ [(p, w.1)]) w.1 y := adj_sort
  rw [e, leaf_adj]
  constructor
  · rintro (q | ⟨e1, e2⟩ | ⟨_, e2⟩)
    · have := (h.rng.adj q).1
      omega
    · omega
    · exact e2
  · exact fun e => .inr (.inr ⟨rfl, e⟩)
end
end Q

set_option Elab.async false
set_option linter.all false
set_option maxRecDepth 100000
set_option maxHeartbeats 1000000
/-! P16: expressions put together. -/
namespace Q
open PySem
section
variable {cd : String → List D → R D} {N : Nat} {g : Env}
theorem cmpE {o : COp} {a b : E} {x y : D} {z : Bool} (ha : E.ev cd a g = .ok (.fz x)) (hb : E.ev cd b g = .ok (.fz y)) (h : cop o x y = .ok z) : E.ev cd (.cmp o a b) g = .ok (.fz (.bool z)) := by
  rw [ev_cmp, ha, R.ok_bind, asD_fz, R.ok_bind, hb, R.ok_bind, toD_fz, h, R.ok_bind]
theorem orF {a b : E} (ha : E.ev cd a g = .ok (.fz (.bool false))) (hb : E.ev cd b g = .ok (.fz (.bool false))) : E.ev cd (.or a b) g = .ok (.fz (.bool false)) := by
  rw [ev_orS, ha, R.ok_bind, asD_fz, R.ok_bind]
  exact hb
theorem notT {a : E} {b : Bool} (ha : E.ev cd a g = .ok (.fz (.bool b))) : E.ev cd (.not a) g = .ok (.fz (.bool (!b))) := by
  rw [ev_notS, ha, R.ok_bind, toD_fz, truth_bool, R.ok_bind]
theorem call1 {f : String} {a : E} {x d : D} (ha : E.ev cd a g = .ok (.fz x)) (h : cd f [x] = .ok d) : E.ev cd (.call f (.cons a .nil)) g = .ok (.fz d) := by
  rw [ev_call, evo_cons, ha, R.ok_bind, evo_nil, R.ok_bind, R.ok_bind, fzAll_cons, fzAll_nil, R.ok_bind, R.ok_bind, h, R.ok_bind]
theorem call2 {f : String} {a b : E} {x y d : D} (ha : E.ev cd a g = .ok (.fz x)) (hb : E.ev cd b g = .ok (.fz y)) (h : cd f [x, y] = .ok d) : E.ev cd (.call f (.cons a (.cons b .nil))) g = .ok (.fz d) := by
  rw [ev_call, evo_cons, ha, R.ok_bind, evo_cons, hb, R.ok_bind, evo_nil, R.ok_bind, R.ok_bind, R.ok_bind, fzAll_cons, fzAll_cons, fzAll_nil, R.ok_bind, R.ok_bind, R.ok_bind, h, R.ok_bind]
theorem call3 {f : String} {a b c : E} {x y z d : D} (ha : E.ev cd a g = .ok (.fz x)) (hb : E.ev cd b g = .ok (.fz y)) (hc : E.ev cd c g = .ok (.fz z)) (h : cd f [x, y, z] = .ok d) : E.ev cd (.call f (.cons a (.cons b (.cons c .nil)))) g = .ok (.fz d) := by
  rw [ev_call, evo_cons, ha, R.ok_bind, evo_cons, hb, R.ok_bind, evo_cons, hc, R.ok_bind, evo_nil, R.ok_bind, R.ok_bind, R.ok_bind, R.ok_bind, fzAll_cons, fzAll_cons, fzAll_cons, fzAll_nil, R.ok_bind, R.ok_bind, R.ok_bind, R.ok_bind, h, R.ok_bind]
theorem ixE {a b : E} {o x : O} {i : Int} (ha : E.ev cd a g = .ok o) (hb : E.ev cd b g = .ok (.fz (.int i))) (h : o.at i = .ok x) : E.ev cd (.ix a b) g = .ok x := by
  rw [ev_ix, ha, R.ok_bind, hb, R.ok_bind, asD_fz, R.ok_bind, asInt_int, R.ok_bind, h]
theorem bi1 {b : Bi} {a : E} {o : O} {d : D} (ha : E.ev cd a g = .ok o) (h : bi b [o] = .ok d) : E.ev cd (.bi b (.cons a .nil)) g = .ok (.fz d) := by
  rw [ev_bi, evo_cons, ha, R.ok_bind, evo_nil, R.ok_bind, R.ok_bind, h, R.ok_bind]
theorem addE {a b : E} {i j : Int} (ha : E.ev cd a g = .ok (.fz (.int i))) (hb : E.ev cd b g = .ok (.fz (.int j))) : E.ev cd (.bin .add a b) g = .ok (.fz (.int (i + j))) := by
  rw [ev_bin, ha, R.ok_bind, asD_fz, R.ok_bind, hb, R.ok_bind, asD_fz, R.ok_bind, bop_add, R.ok_bind]
theorem addN {a b : E} {i j : Nat} (ha : E.ev cd a g = .ok (.fz (nD i))) (hb : E.ev cd b g = .ok (.fz (nD j))) : E.ev cd (.bin .add a b) g = .ok (.fz (nD (i + j))) := by
  have e : ((i : Int) + (j : Int)) = ((i + j : Nat) : Int) := by omega
  rw [addE ha hb, e]
theorem subE {a b : E} {i j : Int} (ha : E.ev cd a g = .ok (.fz (.int i))) (hb : E.ev cd b g = .ok (.fz (.int j))) : E.ev cd (.bin .sub a b) g = .ok (.fz (.int (i - j))) := by
  rw [ev_bin, ha, R.ok_bind, asD_fz, R.ok_bind, hb, R.ok_bind, asD_fz, R.ok_bind, bop_sub, R.ok_bind]
theorem comp_map {tg : Tg} {own : List (String × Nat)} {it : It} {c : Oe} {e : E} {α : Type} {enc r : α → D} {p : α → Bool} {xs : List α} (hq : It.evi cd it g = .ok (xs.map enc)) (hz : xs.length ≤ 1000000)
    (ht : ∀ x ∈ xs, turnE cd tg (own.map (·.2)) c e g (enc x) = .ok (if p x then some (r x) else none)) : E.ev cd (.comp tg own it c e) g = .ok (.fz (.list ((xs.filter p).map r))) := by
  rw [ev_compS, hq, R.ok_bind, if_pos (sz_le (by rw [List.length_map]; exact hz)), compL_map enc p r xs ht, R.ok_bind]
theorem comp_all {tg : Tg} {own : List (String × Nat)} {it : It} {c : Oe} {e : E} {α : Type} {enc r : α → D} {xs : List α} (hq : It.evi cd it g = .ok (xs.map enc)) (hz : xs.length ≤ 1000000)
    (ht : ∀ x ∈ xs, turnE cd tg (own.map (·.2)) c e g (enc x) = .ok (some (r x))) : E.ev cd (.comp tg own it c e) g = .ok (.fz (.list (xs.map r))) := by
  rw [ev_compS, hq, R.ok_bind, if_pos (sz_le (by rw [List.length_map]; exact hz)), compL_all enc r xs ht, R.ok_bind]
theorem turn_if {tg : Tg} {vs : List Nat} {c e : E} {d d' : D} {g1 : Env} {b : Bool} (hp : tg.put d (wipe g vs) = .ok g1) (hc : E.ev cd c g1 = .ok (.fz (.bool b))) (he : E.ev cd e g1 = .ok (.fz d')) : turnE cd tg vs (.so c) e g d = .ok (if b then some d' else none) := by
  unfold turnE
  rw [hp, R.ok_bind, evt_so, hc, R.ok_bind, toD_fz, truth_bool, R.ok_bind]
  cases b
  · rfl
  · rw [if_pos rfl, he]; rfl
theorem turn_on {tg : Tg} {vs : List Nat} {e : E} {d d' : D} {g1 : Env} (hp : tg.put d (wipe g vs) = .ok g1) (he : E.ev cd e g1 = .ok (.fz d')) : turnE cd tg vs .no e g d = .ok (some d') := by
  unfold turnE
  rw [hp, R.ok_bind, evt_no, R.ok_bind, if_pos rfl, he]
  rfl
theorem ite_no {c : E} {a : Ss} (h : E.ev cd c g = .ok (.fz (.bool false))) : S.ex cd N (.ite c a .nil) g = .nx g := by
  rw [ex_ite, h, R.ok_bind, toD_fz, truth_bool, R.thn_ok, if_neg (by decide), exs_nil]
theorem seqL {e : E} {ds : List D} (h : E.ev cd e g = .ok (.fz (.list ds))) : It.evi cd (.seq e) g = .ok ds := by
  rw [evi_seq, h, R.ok_bind, asD_fz, R.ok_bind]
theorem seqT {e : E} {ds : List D} (h : E.ev cd e g = .ok (.fz (.tuple ds))) : It.evi cd (.seq e) g = .ok ds := by
  rw [evi_seq, h, R.ok_bind, asD_fz, R.ok_bind]
theorem tup2 {a b : E} {x y : D} (ha : E.ev cd a g = .ok (.fz x)) (hb : E.ev cd b g = .ok (.fz y)) : E.ev cd (.tup (.cons a (.cons b .nil))) g = .ok (.fz (.tuple [x, y])) := by
  rw [ev_tup, evo_cons, ha, R.ok_bind, evo_cons, hb, R.ok_bind, evo_nil, R.ok_bind, R.ok_bind, R.ok_bind, fzAll_cons, fzAll_cons, fzAll_nil, R.ok_bind, R.ok_bind, R.ok_bind]
theorem tup1 {a : E} {x : D} (ha : E.ev cd a g = .ok (.fz x)) : E.ev cd (.tup (.cons a .nil)) g = .ok (.fz (.tuple [x])) := by
  rw [ev_tup, evo_cons, ha, R.ok_bind, evo_nil, R.ok_bind, R.ok_bind, fzAll_cons, fzAll_nil, R.ok_bind, R.ok_bind]
theorem lst0 : E.ev cd (.lst .nil) g = .ok (.fz (.list [])) := by rw [ev_lst]; rfl
theorem set_is {i : Nat} {e : E} {d : D} (h : E.ev cd e g = .ok (.fz d)) (hi : i < g.length) : S.ex cd N (.set i false e) g = .nx (g.set i (some (.fz d))) := by
  rw [ex_setF, h, R.ok_bind, asD_fz, R.thn_ok]
  unfold putS
  rw [if_pos (decide_eq_true hi)]
theorem eqe_bool : EqE PyData.bool := fun a b => by cases a <;> cases b <;> rfl
theorem pl_b (b : Bool) : Pl 0 (.bool b) := pl_bool
theorem cop_neB (a b : Bool) : cop .ne (.bool a) (.bool b) = .ok (!decide (a = b)) := cop_ne eqe_bool pl_b (by decide) a b
theorem eqe_tn : EqE tupN := eqe_tup eqe_n
theorem pl_tn (l : List Nat) : Pl 1 (tupN l) := pl_tup (pl_map pl_n l)
theorem cop_neT (a b : List Nat) : cop .ne (tupN a) (tupN b) = .ok (!decide (a = b)) := cop_ne eqe_tn pl_tn (by decide) a b
theorem cop_neN (a b : Nat) : cop .ne (nD a) (nD b) = .ok (!decide (a = b)) := cop_ne eqe_n (k := 0) (fun a => pl_n a) (by decide) a b
theorem cop_eqN (a b : Nat) : cop .eq (nD a) (nD b) = .ok (decide (a = b)) := cop_eq eqe_n (k := 0) (fun a => pl_n a) (by decide) a b
theorem ne_nil : cop .ne (.list []) (.list []) = .ok false := by
  have := cop_ne (eqe_lst eqe_n) (k := 1) (fun a => pl_lst (pl_map pl_n a)) (by decide) [] []
  simpa using this
end
/-! ### renamed, with_leaf -/
section
variable {cd : String → List D → R D} {N : Nat} {w : Web}
theorem ren_run {t : Bool} {l : List Nat} (h : SmW w) (hl : l.Perm (List.range w.1)) : (⟨2, ["web", "names", "one", "other"], .cons (.ret (.tup (.cons (.ix (.var 0) (.int 0)) (.cons (.bi .tuple (.cons (.bi .sorted (.cons (.comp (.cons (.n 2) (.cons (.n 3) .nil)) [("one", 2), ("other", 3)] (.seq (.ix (.var 0) (.int 1))) .no (.bi .tuple (.cons (.bi .sorted (.cons (.lst (.cons (.ix (.var 1) (.var 2)) (.cons (.ix (.var 1) (.var 3)) .nil))) .nil)) .nil))) .nil)) .nil)) .nil)))) .nil⟩ : Fn).run cd N [webD w, seqD t l] = .ok (webD (renW l w)) := by
  refine run_of (g := [some (.fz (webD w)), some (.fz (seqD t l)), none, none]) rfl rfl ?_
  have ec : E.ev cd (.comp (.cons (.n 2) (.cons (.n 3) .nil)) [("one", 2), ("other", 3)] (.seq (.ix (.var 0) (.int 1))) .no (.bi .tuple (.cons (.bi .sorted (.cons (.lst (.cons (.ix (.var 1) (.var 2)) (.cons (.ix (.var 1) (.var 3)) .nil))) .nil)) .nil))) [some (.fz (webD w)), some (.fz (seqD t l)), none, none] = .ok (.fz (.list (w.2.map fun u => prD (ren l u)))) := by
    refine comp_all (enc := prD) (seqT (ixE (o := .fz (webD w)) rfl rfl web_t)) (by have := h.fews; omega) fun u hu => ?_
    obtain ⟨x, y, h1, h2, _, _, _, h6⟩ := ren_is hl h.rng hu
    refine turn_on (g1 := [some (.fz (webD w)), some (.fz (seqD t l)), some (.fz (nD u.1)), some (.fz (nD u.2))]) rfl ?_
    rw [h6]
    exact two_ev (ix_ev (t := t) (i := u.1) rfl rfl h1) (ix_ev (t := t) (i := u.2) rfl rfl h2)
  have es := tupS_ev (F := w.2.map (ren l)) (ec.trans (by rw [List.map_map]; rfl))
  rw [exs_cons, ex_ret, tup2 (ixE (o := .fz (webD w)) (i := 0) rfl rfl web_n) es]
  rfl
theorem leaf_run {p : Nat} (h : w.2.length ≤ 400000) : (⟨2, ["web", "place"], .cons (.ret (.tup (.cons (.bin .add (.ix (.var 0) (.int 0)) (.int 1)) (.cons (.bi .tuple (.cons (.bi .sorted (.cons (.bin .add (.ix (.var 0) (.int 1)) (.tup (.cons (.tup (.cons (.var 1) (.cons (.ix (.var 0) (.int 0)) .nil))) .nil))) .nil)) .nil)) .nil)))) .nil⟩ : Fn).run cd N [webD w, nD p] = .ok (webD (leafW w p)) := by
  refine run_of (g := [some (.fz (webD w)), some (.fz (nD p))]) rfl rfl ?_
  have e0 : E.ev cd (.ix (.var 0) (.int 0)) [some (.fz (webD w)), some (.fz (nD p))] = .ok (.fz (nD w.1)) := ixE (o := .fz (webD w)) (i := 0) rfl rfl web_n
  have e1 : E.ev cd (.ix (.var 0) (.int 1)) [some (.fz (webD w)), some (.fz (nD p))] = .ok (.fz (.tuple (w.2.map prD))) := ixE (o := .fz (webD w)) (i := 1) rfl rfl web_t
  have e2 : E.ev cd (.tup (.cons (.tup (.cons (.var 1) (.cons (.ix (.var 0) (.int 0)) .nil))) .nil)) [some (.fz (webD w)), some (.fz (nD p))] = .ok (.fz (.tuple [prD (p, w.1)])) := tup1 (pair_ev (x := p) rfl e0)
  have e3 : E.ev cd (.bin .add (.ix (.var 0) (.int 1)) (.tup (.cons (.tup (.cons (.var 1) (.cons (.ix (.var 0) (.int 0)) .nil))) .nil))) [some (.fz (webD w)), some (.fz (nD p))] = .ok (.fz (.tuple ((w.2 ++ [(p, w.1)]).map prD))) := by
    have eb : bop .add (.tuple (w.2.map prD)) (.tuple [prD (p, w.1)]) = .ok (.tuple ((w.2 ++ [(p, w.1)]).map prD)) := by
      show (if szOk ((w.2.map prD).length + [prD (p, w.1)].length) then R.ok (PyData.tuple (w.2.map prD ++ [prD (p, w.1)])) else .bad) = _
      rw [if_pos (sz_le (by simp only [List.length_map, List.length_cons, List.length_nil]; omega)), List.map_append]
      rfl
    rw [ev_bin, e1, R.ok_bind, asD_fz, R.ok_bind, e2, R.ok_bind, asD_fz, R.ok_bind, eb, R.ok_bind]
  have es : bi .sorted [.fz (.tuple ((w.2 ++ [(p, w.1)]).map prD))] = .ok (.list ((sortP (w.2 ++ [(p, w.1)])).map prD)) := by
    show (sortD ((w.2 ++ [(p, w.1)]).map prD) >>= fun es => R.ok (PyData.list es)) = _
    rw [sortD_p]
    rfl
  rw [exs_cons, ex_ret, tup2 (addN (j := 1) e0 rfl) (bi1 (bi1 e3 es) bi_tuple)]
  rfl
end
end Q

set_option Elab.async false
set_option linter.all false
set_option maxRecDepth 100000
set_option maxHeartbeats 1000000
/-! P17: blurred, tells, parters, _law_some, over good webs. -/
namespace Q
open PySem
def f_blurred : Fn := ⟨2, ["web", "marks"], .cons (.ret (.bi .tuple (.cons (.call "blurred_in" (.cons (.call "all_steps" (.cons (.var 0) .nil)) (.cons (.var 1) .nil))) .nil))) .nil⟩
def f_tells : Fn := ⟨2, ["web", "marks"], .cons (.ret (.cmp .eq (.call "blurred" (.cons (.var 0) (.cons (.var 1) .nil))) (.tup .nil))) .nil⟩
def f_parters : Fn := ⟨3, ["web", "one", "other", "place", "steps"], .cons (.ret (.bi .tuple (.cons (.comp (.cons (.n 3) (.cons (.n 4) .nil)) [("place", 3), ("steps", 4)] (.enum (.call "all_steps" (.cons (.var 0) .nil))) (.so (.cmp .ne (.ix (.var 4) (.var 1)) (.ix (.var 4) (.var 2)))) (.var 3)) .nil))) .nil⟩
def f__law_some : Fn := ⟨2, ["_law_cell_here", "_law_many", "_law_place"], .cons (.ret (.bi .tuple (.cons (.comp (.n 2) [("_law_place", 2)] (.rng1 (.var 1)) (.so (.cmp .eq (.call "_law_mix" (.cons (.bin .add (.var 0) (.bin .mul (.int 7) (.var 2))) (.cons (.int 9697) (.cons (.int 2) .nil)))) (.int 0))) (.var 2)) .nil))) .nil⟩
/-! ### rows by distance -/
def same (w : Web) (ms : List Nat) (a b : Nat) : Bool := ms.all fun m => decide (dis w m a = dis w m b)
def blW (w : Web) (ms : List Nat) : List (Nat × Nat) := (List.range w.1).flatMap fun a => ((List.range' (a + 1) (w.1 - (a + 1))).filter (same w ms a)).map fun b => (a, b)
def parW (w : Web) (a b : Nat) : List Nat := (List.range w.1).filter fun p => !decide (dis w p a = dis w p b)
theorem row_dis {w : Web} (h : SmW w) {ms : List Nat} (hm : ∀ m ∈ ms, m < w.1) {p : Nat} (hp : p < w.1) : rowIn (allSteps w) ms p = ms.map fun m => some (dis w m p) := List.map_congr_left fun m q => h.at (hm m q) hp
theorem same_row {w : Web} (h : SmW w) {ms : List Nat} (hm : ∀ m ∈ ms, m < w.1) {a b : Nat} (ha : a < w.1) (hb : b < w.1) : decide (rowIn (allSteps w) ms a = rowIn (allSteps w) ms b) = same w ms a b := by
  rw [row_dis h hm ha, row_dis h hm hb]
  unfold same
  clear hm
  induction ms with
  | nil => simp
  | cons m ms ih =>
    rw [List.all_cons, ← ih]
    by_cases e : dis w m a = dis w m b <;> simp [e]
theorem bl_is {w : Web} (h : SmW w) {ms : List Nat} (hm : ∀ m ∈ ms, m < w.1) : blurredIn w.1 (allSteps w) ms = blW w ms := by
  unfold blurredIn blW
  rw [List.flatMap_def, List.flatMap_def]
  refine congrArg List.flatten (List.map_congr_left fun a ha => ?_)
  have ha := List.mem_range.mp ha
  unfold blRow
  refine congrArg (List.map _) (List.filter_congr fun b hb => ?_)
  rw [List.mem_range'_1] at hb
  exact same_row h hm ha (by omega)
theorem mem_blW {w : Web} {ms : List Nat} {a b : Nat} : (a, b) ∈ blW w ms ↔ a < b ∧ b < w.1 ∧ ∀ m ∈ ms, dis w m a = dis w m b := by
  unfold blW same
  simp only [List.mem_flatMap, List.mem_range, List.mem_map, List.mem_filter, List.mem_range'_1, List.all_eq_true, decide_eq_true_eq, Prod.mk.injEq]
  constructor
  · rintro ⟨x, hx, y, ⟨hy, hs⟩, rfl, rfl⟩
    exact ⟨by omega, by omega, hs⟩
  · rintro ⟨h1, h2, h3⟩
    exact ⟨a, by omega, b, ⟨by omega, h3⟩, rfl, rfl⟩
theorem mem_parW {w : Web} {a b p : Nat} : p ∈ parW w a b ↔ p < w.1 ∧ dis w p a ≠ dis w p b := by
  unfold parW
  simp [List.mem_filter]
theorem parW_symm {w : Web} {a b : Nat} : parW w a b = parW w b a := by
  unfold parW
  refine List.filter_congr fun p _ => ?_
  by_cases e : dis w p a = dis w p b
  · simp [e]
  · have e2 : ¬ dis w p b = dis w p a := fun z => e z.symm
    simp [e, e2]
section
variable {cd : String → List D → R D} {N : Nat} {w : Web}
theorem blurredW_run {ms : List Nat} (h1 : cd "all_steps" [webD w] = .ok (stD (allSteps w))) (h2 : cd "blurred_in" [stD (allSteps w), tupN ms] = .ok (.list ((blW w ms).map prD))) : f_blurred.run cd N [webD w, tupN ms] = .ok (.tuple ((blW w ms).map prD)) := by
  refine run_of (g := [some (.fz (webD w)), some (.fz (tupN ms))]) rfl rfl ?_
  unfold f_blurred
  rw [exs_cons, ex_ret, bi1 (call2 (call1 (a := .var 0) rfl h1) (b := .var 1) rfl h2) bi_tuple]
  rfl
abbrev prsD (l : List (Nat × Nat)) : D := .tuple (l.map prD)
theorem eqe_prs : EqE prsD := eqe_tup eqe_pr
theorem pl_prs (l : List (Nat × Nat)) : Pl 2 (prsD l) := pl_tup (pl_map pl_pr l)
theorem prs_nil (l : List (Nat × Nat)) : cop .eq (prsD l) (.tuple []) = .ok l.isEmpty := by
  have e := cop_eq eqe_prs pl_prs (by decide) l []
  have e2 : decide (l = []) = l.isEmpty := by cases l <;> rfl
  rw [e2] at e
  exact e
theorem tells_run {ms : List Nat} (h1 : cd "blurred" [webD w, tupN ms] = .ok (prsD (blW w ms))) : f_tells.run cd N [webD w, tupN ms] = .ok (.bool (blW w ms).isEmpty) := by
  refine run_of (g := [some (.fz (webD w)), some (.fz (tupN ms))]) rfl rfl ?_
  unfold f_tells
  have e0 : E.ev cd (.tup .nil) [some (.fz (webD w)), some (.fz (tupN ms))] = .ok (.fz (.tuple [])) := by rw [ev_tup]; rfl
  rw [exs_cons, ex_ret, cmpE (call2 (a := .var 0) (b := .var 1) rfl rfl h1) e0 (prs_nil _)]
  rfl
theorem enum_range {f : Nat → D} : ∀ m j : Nat, enumD j ((List.range' j m).map f) = (List.range' j m).map fun k => .tuple [nD k, f k]
  | 0, _ => rfl
  | m + 1, j => by
    rw [List.range'_succ, List.map_cons, List.map_cons, enumD, enum_range m (j + 1)]
theorem parters_run (h : SmW w) {a b : Nat} (ha : a < w.1) (hb : b < w.1) (h1 : cd "all_steps" [webD w] = .ok (stD (allSteps w))) : f_parters.run cd N [webD w, nD a, nD b] = .ok (tupN (parW w a b)) := by
  refine run_of (g := [some (.fz (webD w)), some (.fz (nD a)), some (.fz (nD b)), none, none]) rfl rfl ?_
  unfold f_parters
  have few := h.few
  have q : It.evi cd (.enum (.call "all_steps" (.cons (.var 0) .nil))) [some (.fz (webD w)), some (.fz (nD a)), some (.fz (nD b)), none, none] = .ok ((List.range w.1).map fun k => .tuple [nD k, .tuple ((bfs w k).map optD)]) := by
    have e1 : E.ev cd (.call "all_steps" (.cons (.var 0) .nil)) [some (.fz (webD w)), some (.fz (nD a)), some (.fz (nD b)), none, none] = .ok (.fz (stD (allSteps w))) := call1 (a := .var 0) rfl h1
    have e2 : enumD 0 ((allSteps w).map fun r => PyData.tuple (r.map optD)) = (List.range w.1).map fun k => .tuple [nD k, .tuple ((bfs w k).map optD)] := by
      unfold allSteps
      rw [List.map_map, List.range_eq_range', enum_range]
      rfl
    rw [evi_enum, e1, R.ok_bind, asD_fz, R.ok_bind]
    show R.ok (enumD 0 ((allSteps w).map fun r => PyData.tuple (r.map optD))) = _
    rw [e2]
  have ec : E.ev cd (.comp (.cons (.n 3) (.cons (.n 4) .nil)) [("place", 3), ("steps", 4)] (.enum (.call "all_steps" (.cons (.var 0) .nil))) (.so (.cmp .ne (.ix (.var 4) (.var 1)) (.ix (.var 4) (.var 2)))) (.var 3)) [some (.fz (webD w)), some (.fz (nD a)), some (.fz (nD b)), none, none] = .ok (.fz (.list ((parW w a b).map nD))) := by
    refine comp_map (r := nD) (p := fun p => !decide (dis w p a = dis w p b)) q (by simp; omega) fun k hk => ?_
    have hk := List.mem_range.mp hk
    refine turn_if (g1 := [some (.fz (webD w)), some (.fz (nD a)), some (.fz (nD b)), some (.fz (nD k)), some (.fz (.tuple ((bfs w k).map optD)))]) rfl (cmpE (x := nD (dis w k a)) (y := nD (dis w k b)) (ixE (a := .var 4) (b := .var 1) (i := (a : Int)) rfl rfl (at_tup ?_)) (ixE (a := .var 4) (b := .var 2) (i := (b : Int)) rfl rfl (at_tup ?_)) (cop_neN _ _)) rfl
    · rw [List.getElem?_map, h.get hk ha]; rfl
    · rw [List.getElem?_map, h.get hk hb]; rfl
  rw [exs_cons, ex_ret, bi1 ec bi_tuple]
  rfl
theorem some_run {c : Int} {n : Nat} (hm : MixOk cd) (hc : Sm 10000 c) (hn : n ≤ 1000) : ∃ ms : List Nat, f__law_some.run cd N [.int c, nD n] = .ok (tupN ms) ∧ (∀ m ∈ ms, m < n) ∧ ms.Pairwise (· < ·) ∧ ms.length ≤ n := by
  refine ⟨(List.range n).filter fun (k : Nat) => decide ((mixI (c + 7 * (k : Int)) 9697 ((2 : Nat) : Int)).toNat = 0), ?_, fun m q => List.mem_range.mp (List.mem_filter.mp q).1, List.Pairwise.filter _ (range_up n), Nat.le_trans (List.length_filter_le _ _) (by simp)⟩
  refine run_of (g := [some (.fz (.int c)), some (.fz (nD n)), none]) rfl rfl ?_
  unfold f__law_some
  have ec : E.ev cd (.comp (.n 2) [("_law_place", 2)] (.rng1 (.var 1)) (.so (.cmp .eq (.call "_law_mix" (.cons (.bin .add (.var 0) (.bin .mul (.int 7) (.var 2))) (.cons (.int 9697) (.cons (.int 2) .nil)))) (.int 0))) (.var 2)) [some (.fz (.int c)), some (.fz (nD n)), none] = .ok (.fz (.list (((List.range n).filter fun (k : Nat) => decide ((mixI (c + 7 * (k : Int)) 9697 ((2 : Nat) : Int)).toNat = 0)).map nD))) := by
    refine comp_map (evi_rng_n (n := n) rfl (by omega)) (by simp; omega) fun k hk => ?_
    have hk := List.mem_range.mp hk
    have ev := (mix_evN (g := [some (.fz (.int c)), some (.fz (nD n)), some (.fz (nD k))]) hm (lin_ev (a := .var 0) (i := 2) (k := k) (c := c) (q := 7) rfl rfl (by decide) (by decide) (by omega)) (m := 2) (e3 := .int 2) rfl (p := 9697) (by decide) (by decide) (by decide) ((hc.add (k := 7000) (by omega)).log (by decide))).1
    exact turn_if (g1 := [some (.fz (.int c)), some (.fz (nD n)), some (.fz (nD k))]) rfl (cmpE ev rfl (cop_eqN _ 0)) rfl
  rw [exs_cons, ex_ret, bi1 ec bi_tuple]
  rfl
end
end Q

set_option Elab.async false
set_option linter.all false
set_option maxRecDepth 100000
set_option maxHeartbeats 1000000
/-! P18: in, not in; parters with other names; a mark left out. -/
namespace Q
open PySem
theorem dec_is {p : Prop} [Decidable p] {b : Bool} (h : p ↔ b = true) : decide p = b := by
  cases b
  · exact decide_eq_false fun q => nomatch h.mp q
  · exact decide_eq_true (h.mpr rfl)
theorem dec_not {p : Prop} [Decidable p] {b : Bool} (h : p ↔ b = false) : (!decide p) = b := by
  cases b
  · rw [decide_eq_true (h.mpr rfl)]; rfl
  · rw [decide_eq_false fun q => nomatch h.mp q]; rfl
section
variable {α : Type} [DecidableEq α] {enc : α → D} (h : EqE enc) {k : Nat} (hp : ∀ a, Pl k (enc a)) (hk : k + 1 ≤ 64) (x : α) (l : List α)
include h hp hk
theorem cop_inT : cop .in_ (enc x) (.tuple (l.map enc)) = .ok (decide (x ∈ l)) := by
  have e : cop .in_ (enc x) (.tuple (l.map enc)) = if SeqAt.shaped (enc x) && SeqAt.shaped (.tuple (l.map enc)) then .ok ((l.map enc).any fun z => PyData.eqv z (enc x)) else .bad := by
    cases enc x <;> rfl
  rw [e, (hp x).sh (by omega), (pl_tup (pl_map hp l)).sh hk, any_pr h]
  rfl
theorem cop_ninT : cop .nin (enc x) (.tuple (l.map enc)) = .ok (!decide (x ∈ l)) := by
  have e : cop .nin (enc x) (.tuple (l.map enc)) = if SeqAt.shaped (enc x) && SeqAt.shaped (.tuple (l.map enc)) then .ok (!(l.map enc).any fun z => PyData.eqv z (enc x)) else .bad := by
    cases enc x <;> rfl
  rw [e, (hp x).sh (by omega), (pl_tup (pl_map hp l)).sh hk, any_pr h]
  rfl
theorem cop_inTb {b : Bool} (hb : x ∈ l ↔ b = true) : cop .in_ (enc x) (.tuple (l.map enc)) = .ok b := by
  rw [cop_inT h hp hk, dec_is hb]
theorem cop_ninTb {b : Bool} (hb : x ∈ l ↔ b = false) : cop .nin (enc x) (.tuple (l.map enc)) = .ok b := by
  rw [cop_ninT h hp hk, dec_not hb]
theorem cop_inL : cop .in_ (enc x) (.list (l.map enc)) = .ok (decide (x ∈ l)) := by
  have e : cop .in_ (enc x) (.list (l.map enc)) = if SeqAt.shaped (enc x) && SeqAt.shaped (.list (l.map enc)) then .ok ((l.map enc).any fun z => PyData.eqv z (enc x)) else .bad := by
    cases enc x <;> rfl
  rw [e, (hp x).sh (by omega), (pl_lst (pl_map hp l)).sh hk, any_pr h]
  rfl
end
theorem inN (x : Nat) (l : List Nat) : cop .in_ (nD x) (tupN l) = .ok (decide (x ∈ l)) := cop_inT eqe_n (k := 0) (fun a => pl_n a) (by decide) x l
theorem ninN (x : Nat) (l : List Nat) : cop .nin (nD x) (tupN l) = .ok (!decide (x ∈ l)) := cop_ninT eqe_n (k := 0) (fun a => pl_n a) (by decide) x l
theorem inP (x : Nat × Nat) (l : List (Nat × Nat)) {b : Bool} (hb : x ∈ l ↔ b = true) : cop .in_ (prD x) (prsD l) = .ok b := cop_inTb eqe_pr pl_pr (by decide) x l hb
theorem ninP (x : Nat × Nat) (l : List (Nat × Nat)) {b : Bool} (hb : x ∈ l ↔ b = false) : cop .nin (prD x) (prsD l) = .ok b := cop_ninTb eqe_pr pl_pr (by decide) x l hb
/-- lists of pairs, of numbers, against the empty one -/
theorem neP_nil (l : List (Nat × Nat)) : cop .ne (.list (l.map prD)) (.list []) = .ok (!l.isEmpty) := by
  have e := cop_ne (eqe_lst eqe_pr) (k := 2) (fun a => pl_lst (pl_map pl_pr a)) (by decide) l []
  have e2 : decide (l = []) = l.isEmpty := by cases l <;> rfl
  rw [e2] at e
  exact e
theorem neN_nil (l : List Nat) : cop .ne (listN l) (.list []) = .ok (!l.isEmpty) := by
  have e := cop_ne (eqe_lst eqe_n) (k := 1) (fun a => pl_lst (pl_map pl_n a)) (by decide) l []
  have e2 : decide (l = []) = l.isEmpty := by cases l <;> rfl
  rw [e2] at e
  exact e
theorem eqN_nil (l : List Nat) : cop .eq (listN l) (.list []) = .ok l.isEmpty := by
  have e := cop_eq (eqe_lst eqe_n) (k := 1) (fun a => pl_lst (pl_map pl_n a)) (by decide) l []
  have e2 : decide (l = []) = l.isEmpty := by cases l <;> rfl
  rw [e2] at e
  exact e
/-! ### parters -/
section
variable {w : Web} (h : SmW w)
include h
theorem par_one {a b : Nat} (ha : a < w.1) (hb : b < w.1) (n : a ≠ b) : a ∈ parW w a b := by
  rw [mem_parW]
  refine ⟨ha, fun e => ?_⟩
  have e1 := (h.zero ha ha).mpr rfl
  rw [e1] at e
  exact n ((h.zero ha hb).mp e.symm)
theorem par_two {a b : Nat} (ha : a < w.1) (hb : b < w.1) (n : a ≠ b) : b ∈ parW w a b := by
  rw [parW_symm]
  exact par_one h hb ha fun e => n e.symm
theorem par_ren {l : List Nat} (hl : l.Perm (List.range w.1)) {a b x y : Nat} (ha : a < w.1) (hb : b < w.1) (hx : l[a]? = some x) (hy : l[b]? = some y) : parW (renW l w) x y = sortN ((parW w a b).map fun p => l[p]?.getD 0) := by
  have val : ∀ p, p < w.1 → ∃ z, l[p]? = some z ∧ z < w.1 ∧ l[p]?.getD 0 = z := fun p hp => by
    obtain ⟨z, h1, h2⟩ := nm_get hl hp
    exact ⟨z, h1, h2, by rw [h1]; rfl⟩
  refine up_ext (List.Pairwise.filter _ (range_up _)) (sortN_up ?_) fun z => ?_
  · refine List.Pairwise.map _ (R := fun p q => p < w.1 ∧ q < w.1 ∧ p ≠ q) (fun p q ⟨h1, h2, h3⟩ e => ?_) ?_
    · obtain ⟨u, u1, _, u3⟩ := val p h1
      obtain ⟨v, v1, _, v3⟩ := val q h2
      rw [u3, v3] at e
      subst e
      exact h3 (nm_inj hl u1 v1)
    · refine List.Pairwise.imp_of_mem (R := (· < ·)) (fun {p q} hp hq e => ⟨(mem_parW.mp hp).1, (mem_parW.mp hq).1, by omega⟩) (List.Pairwise.filter _ (range_up _))
  · rw [mem_parW, mem_sortN, List.mem_map]
    constructor
    · intro ⟨h1, h2⟩
      obtain ⟨p, hp, hp2⟩ := nm_surj hl (x := z) h1
      refine ⟨p, mem_parW.mpr ⟨hp, ?_⟩, by rw [hp2]; rfl⟩
      rw [ren_dis h hl hp2 hx hp ha, ren_dis h hl hp2 hy hp hb] at h2
      exact h2
    · rintro ⟨p, hp, rfl⟩
      obtain ⟨h1, h2⟩ := mem_parW.mp hp
      obtain ⟨u, u1, u2, u3⟩ := val p h1
      rw [u3]
      refine ⟨u2, ?_⟩
      rw [ren_dis h hl u1 hx h1 ha, ren_dis h hl u1 hy h1 hb]
      exact h2
end
/-- blurred: no mark parts them -/
theorem bl_par {w : Web} {ms : List Nat} (hm : ∀ m ∈ ms, m < w.1) {a b : Nat} (hab : a < b) (hb : b < w.1) : (a, b) ∈ blW w ms ↔ (ms.filter fun m => decide (m ∈ parW w a b)).isEmpty = true := by
  rw [mem_blW, List.isEmpty_iff, List.filter_eq_nil_iff]
  constructor
  · intro ⟨_, _, h⟩ m q
    rw [decide_eq_true_eq, mem_parW]
    exact fun z => z.2 (h m q)
  · intro h
    refine ⟨hab, hb, fun m q => Classical.byContradiction fun z => h m q ?_⟩
    rw [decide_eq_true_eq, mem_parW]
    exact ⟨hm m q, z⟩
end Q

set_option Elab.async false
set_option linter.all false
set_option maxRecDepth 100000
set_option maxHeartbeats 1000000
/-! G3: all distances by middles. -/
namespace Q
/-- a walk of so many steps whose places between are below k -/
inductive Via (ts : List (Nat × Nat)) (k : Nat) : Nat → Nat → Nat → Prop where
  | zero {a : Nat} : Via ts k 0 a a
  | one {a b : Nat} (h : Adj ts a b) : Via ts k 1 a b
  | cat {m l a c b : Nat} (hc : c < k) (h : Via ts k m a c) (g : Via ts k l c b) : Via ts k (m + l) a b
theorem via_of {ts : List (Nat × Nat)} {n : Nat} (hr : RngF n ts) {k a b : Nat} (r : Rch ts k a b) : Via ts n k a b := by
  induction r with
  | zero => exact .zero
  | step r q ih => exact .cat (hr.adj q).1 ih (.one q)
theorem via_rch {ts : List (Nat × Nat)} {k m a b : Nat} (v : Via ts k m a b) : Rch ts m a b := by
  induction v with
  | zero => exact .zero
  | one h => exact .one h
  | cat _ _ _ h g => exact h.trans g
/-- one middle more: without it, or by it once -/
theorem via_succ {ts : List (Nat × Nat)} {k m a b : Nat} (v : Via ts (k + 1) m a b) : (∃ l, l ≤ m ∧ Via ts k l a b) ∨ ∃ x y, x + y ≤ m ∧ Via ts k x a k ∧ Via ts k y k b := by
  induction v with
  | zero => exact .inl ⟨0, Nat.le_refl _, .zero⟩
  | one h => exact .inl ⟨1, Nat.le_refl _, .one h⟩
  | @cat m l a c b hc _ _ ih1 ih2 =>
    by_cases e : c = k
    · subst e
      have left : ∃ x, x ≤ m ∧ Via ts c x a c := by
        rcases ih1 with ⟨x, h1, h2⟩ | ⟨x, y, h1, h2, _⟩
        · exact ⟨x, h1, h2⟩
        · exact ⟨x, by omega, h2⟩
      have right : ∃ y, y ≤ l ∧ Via ts c y c b := by
        rcases ih2 with ⟨x, h1, h2⟩ | ⟨x, y, h1, _, h2⟩
        · exact ⟨x, h1, h2⟩
        · exact ⟨y, by omega, h2⟩
      obtain ⟨x, h1, h2⟩ := left
      obtain ⟨y, h3, h4⟩ := right
      exact .inr ⟨x, y, by omega, h2, h4⟩
    · have hk : c < k := by omega
      rcases ih1 with ⟨x, h1, h2⟩ | ⟨x, y, h1, h2, h3⟩
      · rcases ih2 with ⟨z, g1, g2⟩ | ⟨z, u, g1, g2, g3⟩
        · exact .inl ⟨x + z, by omega, .cat hk h2 g2⟩
        · exact .inr ⟨x + z, u, by omega, .cat hk h2 g2, g3⟩
      · rcases ih2 with ⟨z, g1, g2⟩ | ⟨z, u, g1, g2, g3⟩
        · exact .inr ⟨x, y + z, by omega, h2, .cat hk h3 g2⟩
        · exact .inr ⟨x, u, by omega, h2, g3⟩
end Q

set_option Elab.async false
set_option linter.all false
set_option maxRecDepth 100000
set_option maxHeartbeats 1000000
/-! P19: a square of numbers in one's own lists. -/
namespace Q
open PySem
abbrev Mx := Nat → Nat → Nat
def rowO (n : Nat) (r : Nat → Nat) : List O := (List.range n).map fun b => .fz (nD (r b))
def mxO (n : Nat) (M : Mx) : List O := (List.range n).map fun a => .ol (rowO n (M a))
def upM (M : Mx) (i j v : Nat) : Mx := fun a b => if a = i ∧ b = j then v else M a b
theorem rowO_len {n : Nat} {r : Nat → Nat} : (rowO n r).length = n := by simp [rowO]
theorem mxO_len {n : Nat} {M : Mx} : (mxO n M).length = n := by simp [mxO]
theorem mx_row {n : Nat} {M : Mx} {i : Nat} (hi : i < n) : (O.ol (mxO n M)).at ((i : Nat) : Int) = .ok (.ol (rowO n (M i))) := at_ol (by unfold mxO; rw [List.getElem?_map, List.getElem?_range hi]; rfl)
theorem row_at {n : Nat} {r : Nat → Nat} {j : Nat} (hj : j < n) : (O.ol (rowO n r)).at ((j : Nat) : Int) = .ok (.fz (nD (r j))) := at_ol (by unfold rowO; rw [List.getElem?_map, List.getElem?_range hj]; rfl)
theorem map_set {α : Type} {f : Nat → α} {x : α} : ∀ (m s i : Nat), (((List.range' s m).map f).set i x) = (List.range' s m).map fun a => if a = s + i then x else f a
  | 0, s, i => rfl
  | m + 1, s, 0 => by
    rw [List.range'_succ, List.map_cons, List.map_cons, List.set_cons_zero, if_pos (by omega)]
    refine congrArg (x :: ·) (List.map_congr_left fun a ha => ?_)
    rw [List.mem_range'_1] at ha
    rw [if_neg (by omega)]
  | m + 1, s, i + 1 => by
    rw [List.range'_succ, List.map_cons, List.map_cons, List.set_cons_succ, map_set m (s + 1) i, if_neg (by omega)]
    refine congrArg (f s :: ·) (List.map_congr_left fun a _ => ?_)
    have e : (a = s + 1 + i) = (a = s + (i + 1)) := by rw [show s + 1 + i = s + (i + 1) by omega]
    simp only [e]
theorem range_set {α : Type} {f : Nat → α} {x : α} {n i : Nat} : ((List.range n).map f).set i x = (List.range n).map fun a => if a = i then x else f a := by
  rw [List.range_eq_range', map_set]
  simp
theorem mx_at {n : Nat} {M : Mx} {i : Nat} (hi : i < n) : atL (mxO n M) ((i : Nat) : Int) = .ok (rowO n (M i)) := by
  have e1 : L2.atI (mxO n M) ((i : Nat) : Int) = some (.ol (rowO n (M i))) := atI_n (by unfold mxO; rw [List.getElem?_map, List.getElem?_range hi]; rfl)
  unfold atL
  rw [e1]
theorem row_set {n : Nat} {r : Nat → Nat} {j v : Nat} (hj : j < n) : setL (rowO n r) ((j : Nat) : Int) (.fz (nD v)) = .ok (rowO n fun b => if b = j then v else r b) := by
  rw [setL_n (by rw [rowO_len]; exact hj)]
  refine congrArg R.ok ?_
  unfold rowO
  rw [range_set]
  refine List.map_congr_left fun b _ => ?_
  by_cases e : b = j
  · simp only [if_pos e]
  · simp only [if_neg e]
theorem mx_put {n : Nat} {M : Mx} {i j v : Nat} (hi : i < n) : setL (mxO n M) ((i : Nat) : Int) (.ol (rowO n fun b => if b = j then v else M i b)) = .ok (mxO n (upM M i j v)) := by
  rw [setL_n (by rw [mxO_len]; exact hi)]
  refine congrArg R.ok ?_
  unfold mxO
  rw [range_set]
  refine List.map_congr_left fun a _ => ?_
  by_cases e : a = i
  · subst e
    rw [if_pos rfl]
    refine congrArg O.ol (List.map_congr_left fun b _ => ?_)
    unfold upM
    by_cases e2 : b = j
    · simp only [e2, if_true, and_self]
    · simp [e2]
  · rw [if_neg e]
    refine congrArg O.ol (List.map_congr_left fun b _ => ?_)
    unfold upM
    rw [if_neg fun q => e q.1]
theorem setJ_is {cd : String → List D → R D} {N : Nat} {g : Env} {s : Nat} {a b e : E} {n i j v : Nat} {M : Mx} (hs : slotL g s = .ok (mxO n M)) (hl : s < g.length) (he : E.ev cd e g = .ok (.fz (nD v))) (ha : E.ev cd a g = .ok (.fz (nD i))) (hb : E.ev cd b g = .ok (.fz (nD j))) (hi : i < n) (hj : j < n) :
    S.ex cd N (.setJ s a b e) g = .nx (g.set s (some (.ol (mxO n (upM M i j v))))) := by
  simp only [S.ex]
  rw [he, R.ok_bind, asD_fz, R.thn_ok, hs, R.thn_ok, ha, R.ok_bind, asD_fz, R.ok_bind, asInt_int, R.thn_ok, mx_at hi, R.thn_ok, hb, R.ok_bind, asD_fz, R.ok_bind, asInt_int, R.thn_ok, row_set hj, R.thn_ok, mx_put hi, R.thn_ok]
  unfold putS
  rw [if_pos (decide_eq_true hl)]
/-- an item of an item -/
theorem mxE {cd : String → List D → R D} {g : Env} {a b c : E} {n i j : Nat} {M : Mx} (h0 : E.ev cd a g = .ok (.ol (mxO n M))) (ha : E.ev cd b g = .ok (.fz (nD i))) (hb : E.ev cd c g = .ok (.fz (nD j))) (hi : i < n) (hj : j < n) : E.ev cd (.ix (.ix a b) c) g = .ok (.fz (nD (M i j))) :=
  ixE (ixE h0 ha (mx_row hi)) hb (row_at hj)
/-- given up, it is data -/
theorem mx_data {n : Nat} {M : Mx} : (O.ol (mxO n M)).toD = .list ((List.range n).map fun a => .list ((List.range n).map fun b => nD (M a b))) := by
  have row : ∀ r : Nat → Nat, (O.ol (rowO n r)).toD = .list ((List.range n).map fun b => nD (r b)) := fun r => by
    have e : rowO n r = ((List.range n).map fun b => nD (r b)).map .fz := by unfold rowO; rw [List.map_map]; rfl
    rw [e, toD_ol]
  have all : ∀ L : List Nat, O.toDs (L.map fun a => .ol (rowO n (M a))) = L.map fun a => .list ((List.range n).map fun b => nD (M a b)) := by
    intro L
    induction L with
    | nil => rfl
    | cons a L ih => rw [List.map_cons, O.toDs, ih, row, List.map_cons]
  show PyData.list (O.toDs (mxO n M)) = _
  unfold mxO
  rw [all]
end Q

set_option Elab.async false
set_option linter.all false
set_option maxRecDepth 100000
set_option maxHeartbeats 1000000
/-! P20: _law_far gives the distances. -/
namespace Q
open PySem
def f__law_far : Fn := ⟨1, ["_law_web_here", "_law_many", "_law_far_here", "_law_one", "_law_other", "_law_middle"], .cons (.set 1 false (.ix (.var 0) (.int 0))) (.cons (.set 2 true (.lst .nil)) (.cons (.for_ (.n 3) (.rng1 (.var 1)) (.cons (.app 2 true (.comp (.n 4) [("_law_other", 4)] (.rng1 (.var 1)) .no (.bin .mul (.var 1) (.bi .int (.cons (.cmp .ne (.var 3) (.var 4)) .nil))))) .nil) []) (.cons (.for_ (.cons (.n 3) (.cons (.n 4) .nil)) (.seq (.ix (.var 0) (.int 1))) (.cons (.setJ 2 (.var 3) (.var 4) (.int 1)) (.cons (.setJ 2 (.var 4) (.var 3) (.int 1)) .nil)) []) (.cons (.for_ (.n 5) (.rng1 (.var 1)) (.cons (.for_ (.n 3) (.rng1 (.var 1)) (.cons (.for_ (.n 4) (.rng1 (.var 1)) (.cons (.setJ 2 (.var 3) (.var 4) (.bi .min2 (.cons (.ix (.ix (.var 2) (.var 3)) (.var 4)) (.cons (.bin .add (.ix (.ix (.var 2) (.var 3)) (.var 5)) (.ix (.ix (.var 2) (.var 5)) (.var 4))) .nil)))) .nil) []) .nil) []) .nil) [5]) (.frz 2 (.cons (.ret (.var 2)) .nil))))))⟩
def initM (n : Nat) : Mx := fun a b => n * (if a ≠ b then 1 else 0)
abbrev fG (w : Web) (os : List O) (x3 x4 x5 : Option O) : Env := [some (.fz (webD w)), some (.fz (nD w.1)), some (.ol os), x3, x4, x5]
def rowsM (n : Nat) (M : Mx) (l : List Nat) : List O := l.map fun a => .ol (rowO n (M a))
section
variable {cd : String → List D → R D} {N : Nat} {w : Web}
theorem far_row {x4 x5 : Option O} {os : List O} {a : Nat} (hn : w.1 ≤ 1000) : E.ev cd (.comp (.n 4) [("_law_other", 4)] (.rng1 (.var 1)) .no (.bin .mul (.var 1) (.bi .int (.cons (.cmp .ne (.var 3) (.var 4)) .nil)))) (fG w os (some (.fz (nD a))) x4 x5) = .ok (.fz (.list ((List.range w.1).map fun b => nD (initM w.1 a b)))) := by
  refine comp_all (enc := nD) (evi_rng_n (n := w.1) rfl (by omega)) (by simp; omega) fun b hb => turn_on (g1 := fG w os (some (.fz (nD a))) (some (.fz (nD b))) x5) rfl ?_
  have e1 : E.ev cd (.bi .int (.cons (.cmp .ne (.var 3) (.var 4)) .nil)) (fG w os (some (.fz (nD a))) (some (.fz (nD b))) x5) = .ok (.fz (nD (if a ≠ b then 1 else 0))) := by
    refine bi1 (cmpE (a := .var 3) (b := .var 4) rfl rfl (cop_neN a b)) ?_
    by_cases e : a = b
    · rw [decide_eq_true e, if_neg (by simpa using e)]; rfl
    · rw [decide_eq_false e, if_pos e]; rfl
  have v1 : E.ev cd (.var 1) (fG w os (some (.fz (nD a))) (some (.fz (nD b))) x5) = .ok (.fz (nD w.1)) := rfl
  have sm : (if a ≠ b then 1 else 0 : Nat) ≤ 1 := by split <;> omega
  have k1 : mulOk (w.1 : Int) ((if a ≠ b then 1 else 0 : Nat) : Int) = true := mulOk_of (small_log (by omega) (by omega)) (small_log (by omega) (by omega)) (by decide)
  have e2 : (w.1 : Int) * ((if a ≠ b then 1 else 0 : Nat) : Int) = ((initM w.1 a b : Nat) : Int) := by unfold initM; rw [Int.natCast_mul]
  rw [ev_bin, v1, R.ok_bind, asD_fz, R.ok_bind, e1, R.ok_bind, asD_fz, R.ok_bind, bop_mul k1, R.ok_bind, e2]
theorem far_init (hn : w.1 ≤ 1000) : ∃ x3, S.ex cd N (.for_ (.n 3) (.rng1 (.var 1)) (.cons (.app 2 true (.comp (.n 4) [("_law_other", 4)] (.rng1 (.var 1)) .no (.bin .mul (.var 1) (.bi .int (.cons (.cmp .ne (.var 3) (.var 4)) .nil))))) .nil) []) (fG w [] none none none) = .nx (fG w (mxO w.1 (initM w.1)) x3 none none) := by
  have lp := forL_foldN (body := fun d g => ((Tg.n 3).put d g).thn g fun g => Ss.exs cd N (.cons (.app 2 true (.comp (.n 4) [("_law_other", 4)] (.rng1 (.var 1)) .no (.bin .mul (.var 1) (.bi .int (.cons (.cmp .ne (.var 3) (.var 4)) .nil))))) .nil) g) (clr := []) nD (fun s : List Nat × Option O => fG w (rowsM w.1 (initM w.1) s.1) s.2 none none) (fun s x => (s.1 ++ [x], some (.fz (nD x)))) (fun i s => s.1.length = i) (List.range w.1) 0 ([], none) rfl fun i s hi I x hx => ?_
  · have fin : ∀ (L : List Nat) (s : List Nat × Option O), (L.foldl (fun s x => (s.1 ++ [x], some (O.fz (nD x)))) s).1 = s.1 ++ L := by
      intro L
      induction L with
      | nil => intro s; simp
      | cons x L ih => intro s; rw [List.foldl_cons, ih]; simp
    refine ⟨((List.range w.1).foldl (fun s x => (s.1 ++ [x], some (O.fz (nD x)))) (([] : List Nat), (none : Option O))).2, ?_⟩
    rw [ex_for, evi_rng_n (n := w.1) rfl (by omega), R.thn_ok]
    have q := lp.1
    rw [fin] at q
    exact q
  · rw [List.length_range] at hi
    refine ⟨by simp [I], fG w (rowsM w.1 (initM w.1) (s.1 ++ [x])) (some (.fz (nD x))) none none, .inl ?_, rfl⟩
    have p4 : (Tg.n 3).put (nD x) (fG w (rowsM w.1 (initM w.1) s.1) s.2 none none) = .ok (fG w (rowsM w.1 (initM w.1) s.1) (some (.fz (nD x))) none none) := rfl
    have sl : slotL (fG w (rowsM w.1 (initM w.1) s.1) (some (.fz (nD x))) none none) 2 = .ok (rowsM w.1 (initM w.1) s.1) := rfl
    have er : ((List.range w.1).map fun b => nD (initM w.1 x b)).map O.fz = rowO w.1 (initM w.1 x) := by unfold rowO; rw [List.map_map]; rfl
    have fr : (E.comp (.n 4) [("_law_other", 4)] (.rng1 (.var 1)) .no (.bin .mul (.var 1) (.bi .int (.cons (.cmp .ne (.var 3) (.var 4)) .nil)))).fresh = true := rfl
    rw [p4, R.thn_ok, exs_cons]
    simp only [S.ex]
    rw [sl, R.thn_ok, far_row hn, R.ok_bind, asD_fz, R.thn_ok, fr]
    show SO.thn ((R.ok (O.ol (((List.range w.1).map fun b => nD (initM w.1 x b)).map O.fz))).thn _ _) _ = _
    have lr : (rowsM w.1 (initM w.1) s.1).length ≤ 1000000 := by unfold rowsM; rw [List.length_map]; omega
    rw [R.thn_ok, if_pos (sz_le lr), er]
    have ea : rowsM w.1 (initM w.1) s.1 ++ [.ol (rowO w.1 (initM w.1 x))] = rowsM w.1 (initM w.1) (s.1 ++ [x]) := by simp [rowsM]
    rw [ea]
    rfl
abbrev fS (w : Web) (s : Mx × Option O × Option O) (x5 : Option O) : Env := fG w (mxO w.1 s.1) s.2.1 s.2.2 x5
def tieM (M : Mx) (t : Nat × Nat) : Mx := upM (upM M t.1 t.2 1) t.2 t.1 1
theorem far_ties (h : SmW w) {x3 x4 : Option O} {M : Mx} : ∃ x3' x4', S.ex cd N (.for_ (.cons (.n 3) (.cons (.n 4) .nil)) (.seq (.ix (.var 0) (.int 1))) (.cons (.setJ 2 (.var 3) (.var 4) (.int 1)) (.cons (.setJ 2 (.var 4) (.var 3) (.int 1)) .nil)) []) (fS w (M, x3, x4) none) = .nx (fS w (w.2.foldl tieM M, x3', x4') none) := by
  have lp := forL_fold (body := fun d g => ((Tg.cons (.n 3) (.cons (.n 4) .nil)).put d g).thn g fun g => Ss.exs cd N (.cons (.setJ 2 (.var 3) (.var 4) (.int 1)) (.cons (.setJ 2 (.var 4) (.var 3) (.int 1)) .nil)) g) (clr := []) prD (fun s : Mx × Option O × Option O => fS w s none) (fun s t => (tieM s.1 t, some (.fz (nD t.1)), some (.fz (nD t.2)))) w.2 (M, x3, x4) fun s t ht => ?_
  · have fin : ∀ (L : List (Nat × Nat)) (s : Mx × Option O × Option O), (L.foldl (fun s t => (tieM s.1 t, some (O.fz (nD t.1)), some (O.fz (nD t.2)))) s).1 = L.foldl tieM s.1 := by
      intro L
      induction L with
      | nil => intro s; rfl
      | cons x L ih => intro s; rw [List.foldl_cons, ih]; rfl
    have q : S.ex cd N (.for_ (.cons (.n 3) (.cons (.n 4) .nil)) (.seq (.ix (.var 0) (.int 1))) (.cons (.setJ 2 (.var 3) (.var 4) (.int 1)) (.cons (.setJ 2 (.var 4) (.var 3) (.int 1)) .nil)) []) (fS w (M, x3, x4) none) = .nx (fS w (w.2.foldl (fun s t => (tieM s.1 t, some (O.fz (nD t.1)), some (O.fz (nD t.2)))) (M, x3, x4)) none) := by
      rw [ex_for, seqT (ixE (a := .var 0) (b := .int 1) (o := .fz (webD w)) (i := 1) rfl rfl web_t), R.thn_ok]
      exact lp
    have e := fin w.2 (M, x3, x4)
    generalize w.2.foldl (fun s t => (tieM s.1 t, some (O.fz (nD t.1)), some (O.fz (nD t.2)))) (M, x3, x4) = r at q e
    obtain ⟨r1, r2, r3⟩ := r
    have e : r1 = w.2.foldl tieM M := e
    subst e
    exact ⟨r2, r3, q⟩
  · obtain ⟨h1, h2⟩ := h.lt t ht
    have p4 : (Tg.cons (.n 3) (.cons (.n 4) .nil)).put (prD t) (fS w s none) = .ok (fS w (s.1, some (.fz (nD t.1)), some (.fz (nD t.2))) none) := rfl
    have r1 : S.ex cd N (.setJ 2 (.var 3) (.var 4) (.int 1)) (fS w (s.1, some (.fz (nD t.1)), some (.fz (nD t.2))) none) = .nx (fS w (upM s.1 t.1 t.2 1, some (.fz (nD t.1)), some (.fz (nD t.2))) none) := setJ_is (v := 1) (i := t.1) (j := t.2) rfl (by show 2 < 6; decide) rfl rfl rfl (by omega) h2
    have r2 : S.ex cd N (.setJ 2 (.var 4) (.var 3) (.int 1)) (fS w (upM s.1 t.1 t.2 1, some (.fz (nD t.1)), some (.fz (nD t.2))) none) = .nx (fS w (tieM s.1 t, some (.fz (nD t.1)), some (.fz (nD t.2))) none) := setJ_is (v := 1) (i := t.2) (j := t.1) rfl (by show 2 < 6; decide) rfl rfl rfl h2 (by omega)
    exact ⟨_, .inl (by rw [p4, R.thn_ok, exs_cons, r1, SO.thn_nx, exs_cons, r2, SO.thn_nx, exs_nil]), rfl⟩
theorem forL_step {body : D → Env → SO} {clr : List Nat} {d : D} {ds : List D} {g g' : Env} (h : body d g = .nx g') : forL body clr (d :: ds) g = forL body clr ds (wipe g' clr) := by simp only [forL, h]
theorem forL_mx {α : Type} {body : D → Env → SO} {clr : List Nat} {x5 : Option O} (enc : α → D) (step : Mx → α → Mx) : ∀ (xs : List α) (M : Mx) (x3 x4 : Option O),
    (∀ M x3 x4, ∀ x ∈ xs, ∃ g' x3' x4', body (enc x) (fS w (M, x3, x4) x5) = .nx g' ∧ wipe g' clr = fS w (step M x, x3', x4') x5) → ∃ x3' x4', forL body clr (xs.map enc) (fS w (M, x3, x4) x5) = .nx (fS w (xs.foldl step M, x3', x4') x5)
  | [], M, x3, x4, _ => ⟨x3, x4, rfl⟩
  | x :: xs, M, x3, x4, h => by
    obtain ⟨g', y3, y4, h1, h2⟩ := h M x3 x4 x (List.mem_cons_self ..)
    obtain ⟨z3, z4, h3⟩ := forL_mx enc step xs (step M x) y3 y4 fun M x3 x4 y hy => h M x3 x4 y (List.mem_cons_of_mem _ hy)
    exact ⟨z3, z4, by simp only [List.map_cons, forL, h1, h2, h3, List.foldl_cons]⟩
def stC (c a : Nat) (M : Mx) (b : Nat) : Mx := upM M a b (min (M a b) (M a c + M c b))
def stA (n c : Nat) (M : Mx) (a : Nat) : Mx := (List.range n).foldl (stC c a) M
def stM (n : Nat) (M : Mx) (c : Nat) : Mx := (List.range n).foldl (stA n c) M
theorem far_mid (hn : w.1 ≤ 1000) {x3 x4 : Option O} {M : Mx} : ∃ x3' x4', S.ex cd N (.for_ (.n 5) (.rng1 (.var 1)) (.cons (.for_ (.n 3) (.rng1 (.var 1)) (.cons (.for_ (.n 4) (.rng1 (.var 1)) (.cons (.setJ 2 (.var 3) (.var 4) (.bi .min2 (.cons (.ix (.ix (.var 2) (.var 3)) (.var 4)) (.cons (.bin .add (.ix (.ix (.var 2) (.var 3)) (.var 5)) (.ix (.ix (.var 2) (.var 5)) (.var 4))) .nil)))) .nil) []) .nil) []) .nil) [5]) (fS w (M, x3, x4) none) =
    .nx (fS w ((List.range w.1).foldl (stM w.1) M, x3', x4') none) := by
  rw [ex_for, evi_rng_n (n := w.1) rfl (by omega), R.thn_ok]
  refine forL_mx nD (stM w.1) (List.range w.1) M x3 x4 fun M x3 x4 c hc => ?_
  have hc := List.mem_range.mp hc
  have p5 : (Tg.n 5).put (nD c) (fS w (M, x3, x4) none) = .ok (fS w (M, x3, x4) (some (.fz (nD c)))) := rfl
  obtain ⟨y3, y4, e⟩ : ∃ y3 y4, S.ex cd N (.for_ (.n 3) (.rng1 (.var 1)) (.cons (.for_ (.n 4) (.rng1 (.var 1)) (.cons (.setJ 2 (.var 3) (.var 4) (.bi .min2 (.cons (.ix (.ix (.var 2) (.var 3)) (.var 4)) (.cons (.bin .add (.ix (.ix (.var 2) (.var 3)) (.var 5)) (.ix (.ix (.var 2) (.var 5)) (.var 4))) .nil)))) .nil) []) .nil) []) (fS w (M, x3, x4) (some (.fz (nD c)))) =
      .nx (fS w (stM w.1 M c, y3, y4) (some (.fz (nD c)))) := by
    rw [ex_for, evi_rng_n (n := w.1) rfl (by omega), R.thn_ok]
    refine forL_mx nD (stA w.1 c) (List.range w.1) M x3 x4 fun M x3 x4 a ha => ?_
    have ha := List.mem_range.mp ha
    have p3 : (Tg.n 3).put (nD a) (fS w (M, x3, x4) (some (.fz (nD c)))) = .ok (fS w (M, some (.fz (nD a)), x4) (some (.fz (nD c)))) := rfl
    have inn : ∀ (L : List Nat) (M : Mx) (x4 : Option O), (∀ b ∈ L, b < w.1) → ∃ z4, forL (fun d g => ((Tg.n 4).put d g).thn g fun g => Ss.exs cd N (.cons (.setJ 2 (.var 3) (.var 4) (.bi .min2 (.cons (.ix (.ix (.var 2) (.var 3)) (.var 4)) (.cons (.bin .add (.ix (.ix (.var 2) (.var 3)) (.var 5)) (.ix (.ix (.var 2) (.var 5)) (.var 4))) .nil)))) .nil) g) [] (L.map nD) (fS w (M, some (.fz (nD a)), x4) (some (.fz (nD c)))) =
        .nx (fS w (L.foldl (stC c a) M, some (.fz (nD a)), z4) (some (.fz (nD c)))) := by
      intro L
      induction L with
      | nil => exact fun M x4 _ => ⟨x4, rfl⟩
      | cons b L ih =>
        intro M x4 hL
        have hb := hL b (List.mem_cons_self ..)
        obtain ⟨z4, hz⟩ := ih (stC c a M b) (some (.fz (nD b))) fun y hy => hL y (List.mem_cons_of_mem _ hy)
        refine ⟨z4, ?_⟩
        have p4 : (Tg.n 4).put (nD b) (fS w (M, some (.fz (nD a)), x4) (some (.fz (nD c)))) = .ok (fS w (M, some (.fz (nD a)), some (.fz (nD b))) (some (.fz (nD c)))) := rfl
        have ev := min_ev (cd := cd) (g := fS w (M, some (.fz (nD a)), some (.fz (nD b))) (some (.fz (nD c)))) (mxE (a := .var 2) (b := .var 3) (c := .var 4) (i := a) (j := b) (M := M) rfl rfl rfl ha hb) (addN (mxE (a := .var 2) (b := .var 3) (c := .var 5) (i := a) (j := c) (M := M) rfl rfl rfl ha hc) (mxE (a := .var 2) (b := .var 5) (c := .var 4) (i := c) (j := b) (M := M) rfl rfl rfl hc hb))
        have r1 : S.ex cd N (.setJ 2 (.var 3) (.var 4) (.bi .min2 (.cons (.ix (.ix (.var 2) (.var 3)) (.var 4)) (.cons (.bin .add (.ix (.ix (.var 2) (.var 3)) (.var 5)) (.ix (.ix (.var 2) (.var 5)) (.var 4))) .nil)))) (fS w (M, some (.fz (nD a)), some (.fz (nD b))) (some (.fz (nD c)))) = .nx (fS w (stC c a M b, some (.fz (nD a)), some (.fz (nD b))) (some (.fz (nD c)))) := setJ_is (i := a) (j := b) rfl (by show 2 < 6; decide) ev rfl rfl ha hb
        rw [List.map_cons, forL_step (g' := fS w (stC c a M b, some (.fz (nD a)), some (.fz (nD b))) (some (.fz (nD c)))) (by rw [p4, R.thn_ok, exs_cons, r1, SO.thn_nx, exs_nil])]
        exact hz
    obtain ⟨z4, hz⟩ := inn (List.range w.1) M x4 fun b hb => List.mem_range.mp hb
    refine ⟨_, some (.fz (nD a)), z4, ?_, rfl⟩
    have r2 : S.ex cd N (.for_ (.n 4) (.rng1 (.var 1)) (.cons (.setJ 2 (.var 3) (.var 4) (.bi .min2 (.cons (.ix (.ix (.var 2) (.var 3)) (.var 4)) (.cons (.bin .add (.ix (.ix (.var 2) (.var 3)) (.var 5)) (.ix (.ix (.var 2) (.var 5)) (.var 4))) .nil)))) .nil) []) (fS w (M, some (.fz (nD a)), x4) (some (.fz (nD c)))) = .nx (fS w (stA w.1 c M a, some (.fz (nD a)), z4) (some (.fz (nD c)))) := by
      rw [ex_for, evi_rng_n (n := w.1) rfl (by omega), R.thn_ok]
      exact hz
    rw [p3, R.thn_ok, exs_cons, r2, SO.thn_nx, exs_nil]
  exact ⟨_, y3, y4, by rw [p5, R.thn_ok, exs_cons, e, SO.thn_nx, exs_nil], rfl⟩
end
end Q

set_option Elab.async false
set_option linter.all false
set_option maxRecDepth 100000
set_option maxHeartbeats 1000000
/-! P21: what _law_far's loops make are the distances. -/
namespace Q
open PySem
/-- no entry is below the distance, none grows -/
structure MxOk (w : Web) (M : Mx) : Prop where
  low : ∀ a b, a < w.1 → b < w.1 → dis w a b ≤ M a b
theorem up_le {M : Mx} {i j v : Nat} (h : v ≤ M i j) (a b : Nat) : upM M i j v a b ≤ M a b := by
  unfold upM
  split
  · next q => rw [q.1, q.2]; exact h
  · exact Nat.le_refl _
theorem stC_le {c i : Nat} {M : Mx} {b : Nat} (x y : Nat) : stC c i M b x y ≤ M x y := up_le (Nat.min_le_left _ _) x y
theorem stC_fold_le {c i : Nat} : ∀ (L : List Nat) (M : Mx) (x y : Nat), L.foldl (stC c i) M x y ≤ M x y
  | [], _, _, _ => Nat.le_refl _
  | b :: L, M, x, y => Nat.le_trans (stC_fold_le L (stC c i M b) x y) (stC_le x y)
theorem stA_fold_le {n c : Nat} : ∀ (L : List Nat) (M : Mx) (x y : Nat), L.foldl (stA n c) M x y ≤ M x y
  | [], _, _, _ => Nat.le_refl _
  | a :: L, M, x, y => Nat.le_trans (stA_fold_le L (stA n c M a) x y) (stC_fold_le (List.range n) M x y)
theorem stC_fold_get {c i b : Nat} : ∀ (L : List Nat) (M : Mx), b ∈ L → L.foldl (stC c i) M i b ≤ M i c + M c b
  | [], _, h => nomatch h
  | y :: L, M, h => by
    rw [List.foldl_cons]
    rcases List.mem_cons.mp h with e | h
    · subst e
      refine Nat.le_trans (stC_fold_le L _ i b) ?_
      unfold stC upM
      rw [if_pos ⟨rfl, rfl⟩]
      exact Nat.min_le_right _ _
    · have := stC_fold_get (c := c) (i := i) L (stC c i M y) h
      have l1 : stC c i M y i c ≤ M i c := stC_le i c
      have l2 : stC c i M y c b ≤ M c b := stC_le c b
      omega
theorem stA_fold_get {n c a b : Nat} (hb : b < n) : ∀ (L : List Nat) (M : Mx), a ∈ L → L.foldl (stA n c) M a b ≤ M a c + M c b
  | [], _, h => nomatch h
  | y :: L, M, h => by
    rw [List.foldl_cons]
    rcases List.mem_cons.mp h with e | h
    · subst e
      exact Nat.le_trans (stA_fold_le L _ a b) (stC_fold_get (List.range n) M (List.mem_range.mpr hb))
    · have := stA_fold_get (c := c) hb L (stA n c M y) h
      have l1 : stA n c M y a c ≤ M a c := stC_fold_le (List.range n) M a c
      have l2 : stA n c M y c b ≤ M c b := stC_fold_le (List.range n) M c b
      omega
section
variable {w : Web} (h : SmW w)
include h
theorem low_stC {c i b : Nat} (hc : c < w.1) (hi : i < w.1) (hb : b < w.1) {M : Mx} (m : MxOk w M) : MxOk w (stC c i M b) := by
  refine ⟨fun x y hx hy => ?_⟩
  unfold stC upM
  split
  · next q =>
    obtain ⟨rfl, rfl⟩ := q
    have t := h.tri (a := x) (b := y) (x := c) hi hb hc
    have := m.low x y hx hy
    have := m.low x c hx hc
    have := m.low c y hc hy
    omega
  · exact m.low x y hx hy
theorem low_foldC {c i : Nat} (hc : c < w.1) (hi : i < w.1) : ∀ (L : List Nat), (∀ b ∈ L, b < w.1) → ∀ M : Mx, MxOk w M → MxOk w (L.foldl (stC c i) M)
  | [], _, _, m => m
  | b :: L, hL, M, m => low_foldC hc hi L (fun y hy => hL y (List.mem_cons_of_mem _ hy)) _ (low_stC h hc hi (hL b (List.mem_cons_self ..)) m)
theorem low_foldA {c : Nat} (hc : c < w.1) : ∀ (L : List Nat), (∀ b ∈ L, b < w.1) → ∀ M : Mx, MxOk w M → MxOk w (L.foldl (stA w.1 c) M)
  | [], _, _, m => m
  | a :: L, hL, M, m => low_foldA hc L (fun y hy => hL y (List.mem_cons_of_mem _ hy)) _ (low_foldC h hc (hL a (List.mem_cons_self ..)) (List.range w.1) (fun b q => List.mem_range.mp q) M m)
/-- behind the middles below k -/
theorem fw {M : Mx} (m : MxOk w M) (z : ∀ x a b, a < w.1 → b < w.1 → Via w.2 0 x a b → M a b ≤ x) : ∀ k, k ≤ w.1 → MxOk w ((List.range k).foldl (stM w.1) M) ∧ ∀ x a b, a < w.1 → b < w.1 → Via w.2 k x a b → (List.range k).foldl (stM w.1) M a b ≤ x
  | 0, _ => ⟨m, z⟩
  | k + 1, hk => by
    obtain ⟨m1, z1⟩ := fw m z k (by omega)
    rw [List.range_succ, List.foldl_append]
    show MxOk w (stM w.1 ((List.range k).foldl (stM w.1) M) k) ∧ ∀ x a b, a < w.1 → b < w.1 → Via w.2 (k + 1) x a b → stM w.1 ((List.range k).foldl (stM w.1) M) k a b ≤ x
    refine ⟨low_foldA h (by omega) (List.range w.1) (fun b q => List.mem_range.mp q) _ m1, fun x a b ha hb v => ?_⟩
    rcases via_succ v with ⟨l, h1, h2⟩ | ⟨l, u, h1, h2, h3⟩
    · exact Nat.le_trans (stA_fold_le _ _ a b) (Nat.le_trans (z1 l a b ha hb h2) h1)
    · have g := stA_fold_get (c := k) hb (List.range w.1) ((List.range k).foldl (stM w.1) M) (List.mem_range.mpr ha)
      have := z1 l a k ha (by omega) h2
      have := z1 u k b (by omega) hb h3
      exact Nat.le_trans g (by omega)
end
end Q

set_option Elab.async false
set_option linter.all false
set_option maxRecDepth 100000
set_option maxHeartbeats 1000000
/-! P22: _law_far gives the distances. -/
namespace Q
open PySem
theorem few_below : ∀ (n : Nat) (l : List Nat), l.Nodup → (∀ x ∈ l, x < n) → l.length ≤ n
  | 0, [], _, _ => Nat.le_refl _
  | 0, x :: l, _, h => absurd (h x (List.mem_cons_self ..)) (Nat.not_lt_zero _)
  | n + 1, l, nd, h => by
    by_cases m : n ∈ l
    · have e := few_below n (l.erase n) (nd.erase n) fun x hx => by
        have h1 := h x (List.mem_of_mem_erase hx)
        have h2 : x ≠ n := fun z => by
          rw [z] at hx
          exact (nd.mem_erase_iff.mp hx).1 rfl
        omega
      rw [List.length_erase_of_mem m] at e
      have : 0 < l.length := List.length_pos_of_mem m
      omega
    · have e := few_below n l nd fun x hx => by
        have h1 := h x hx
        have h2 : x ≠ n := fun z => m (by rw [← z]; exact hx)
        omega
      omega
/-- on the way lie places of all lesser distances -/
theorem way {w : Web} (h : SmW w) {a : Nat} (ha : a < w.1) : ∀ (d b : Nat), b < w.1 → dis w a b = d → ∀ k, k ≤ d → ∃ x, x < w.1 ∧ dis w a x = k
  | 0, b, hb, e, k, hk => ⟨b, hb, by omega⟩
  | d + 1, b, hb, e, k, hk => by
    by_cases z : k = d + 1
    · exact ⟨b, hb, by omega⟩
    · have i := h.isD ha hb
      rw [e] at i
      obtain ⟨x, hx, r⟩ : ∃ x, Adj w.2 x b ∧ Rch w.2 d a x := by
        cases i.1 with
        | step r q => exact ⟨_, q, r⟩
      have hx1 := (h.rng.adj hx).1
      have i2 := h.isD ha hx1
      have l1 := i2.2 d r
      have l2 := i.2 _ (.step i2.1 hx)
      exact way h ha d x hx1 (by omega) k (by omega)
theorem dis_lt {w : Web} (h : SmW w) {a b : Nat} (ha : a < w.1) (hb : b < w.1) : dis w a b < w.1 := by
  have ex : ∀ k, k < dis w a b + 1 → ∃ x, x < w.1 ∧ dis w a x = k := fun k hk => way h ha _ b hb rfl k (by omega)
  let f : Nat → Nat := fun k => if q : k < dis w a b + 1 then (ex k q).choose else 0
  have fs : ∀ k, k < dis w a b + 1 → f k < w.1 ∧ dis w a (f k) = k := fun k q => by
    have e : f k = (ex k q).choose := dif_pos q
    rw [e]
    exact (ex k q).choose_spec
  have := few_below w.1 ((List.range (dis w a b + 1)).map f) (by
    refine List.Pairwise.map f (R := fun x y => x < dis w a b + 1 ∧ y < dis w a b + 1 ∧ x ≠ y) (fun x y ⟨h1, h2, h3⟩ e => ?_) (List.Pairwise.imp_of_mem (R := (· ≠ ·)) (fun {x y} hx hy e => ⟨List.mem_range.mp hx, List.mem_range.mp hy, e⟩) List.nodup_range)
    have e1 := (fs x h1).2
    have e2 := (fs y h2).2
    rw [e] at e1
    omega) fun x hx => by
      obtain ⟨k, hk, rfl⟩ := List.mem_map.mp hx
      exact (fs k (List.mem_range.mp hk)).1
  rw [List.length_map, List.length_range] at this
  omega
end Q

set_option Elab.async false
set_option linter.all false
set_option maxRecDepth 100000
set_option maxHeartbeats 1000000
/-! W1: walking statements, what is to hold behind them. -/
namespace Q
open PySem
def Post (P : SO → Prop) (r : SO) : Prop := P r
/-- behind an inner suite -/
def Cont (cd : String → List D → R D) (N : Nat) (ss : Ss) (P : SO → Prop) : SO → Prop := fun r => Post P (r.thn fun g => Ss.exs cd N ss g)
/-- a turn that comes back to the same names -/
def Back (clr : List Nat) (g : Env) : SO → Prop := fun r => ∃ g', (r = .nx g' ∨ r = .ct g') ∧ wipe g' clr = g
theorem post_thn {cd : String → List D → R D} {N : Nat} {P : SO → Prop} {s : S} {ss : Ss} {g g' : Env} (h : S.ex cd N s g = .nx g') (k : Post P (Ss.exs cd N ss g')) : Post P (Ss.exs cd N (.cons s ss) g) := by
  rw [exs_cons, h, SO.thn_nx]; exact k
section
variable {cd : String → List D → R D} {N : Nat} {g g' : Env} {P : SO → Prop} {ss : Ss}
theorem w_nil (h : P (.nx g)) : Post P (Ss.exs cd N .nil g) := h
theorem w_back {clr : List Nat} {g0 : Env} (h : wipe g clr = g0) : Post (Back clr g0) (Ss.exs cd N .nil g) := ⟨g, .inl rfl, h⟩
theorem w_cont {ss2 : Ss} (h : Post P (Ss.exs cd N ss2 g)) : Post (Cont cd N ss2 P) (Ss.exs cd N .nil g) := h
theorem w_cnt {clr : List Nat} {g0 : Env} (h : wipe g clr = g0) : Post (Back clr g0) (Ss.exs cd N (.cons .cnt ss) g) := ⟨g, .inr rfl, h⟩
theorem w_ret {e : E} {d : D} (h : E.ev cd e g = .ok (.fz d)) (k : P (.rt d)) : Post P (Ss.exs cd N (.cons (.ret e) ss) g) := by
  rw [exs_cons, ex_ret, h]; exact k
theorem w_set {i : Nat} {e : E} {d : D} (h : E.ev cd e g = .ok (.fz d)) (hg : putS g i (.fz d) = .nx g') (k : Post P (Ss.exs cd N ss g')) : Post P (Ss.exs cd N (.cons (.set i false e) ss) g) := by
  refine post_thn ?_ k
  rw [ex_setF, h, R.ok_bind, asD_fz, R.thn_ok, hg]
theorem w_setO {i : Nat} {e : E} {ds : List D} (h : E.ev cd e g = .ok (.fz (.list ds))) (hf : e.fresh = true) (hg : putS g i (.ol (ds.map .fz)) = .nx g') (k : Post P (Ss.exs cd N ss g')) : Post P (Ss.exs cd N (.cons (.set i true e) ss) g) := by
  refine post_thn ?_ k
  rw [ex_setO, h, R.ok_bind, asD_fz, R.thn_ok, hf, if_pos rfl, newO_t, R.thn_ok, hg]
theorem w_setT {t : Tg} {e : E} {d : D} (h : E.ev cd e g = .ok (.fz d)) (hg : t.put d g = .ok g') (k : Post P (Ss.exs cd N ss g')) : Post P (Ss.exs cd N (.cons (.setT t e) ss) g) := by
  refine post_thn ?_ k
  rw [ex_setT, h, R.ok_bind, asD_fz, R.thn_ok, hg, R.thn_ok]
theorem w_app {i : Nat} {e : E} {d : D} {os : List O} (hs : slotL g i = .ok os) (h : E.ev cd e g = .ok (.fz d)) (hz : os.length ≤ 1000000) (hg : putS g i (.ol (os ++ [.fz d])) = .nx g') (k : Post P (Ss.exs cd N ss g')) : Post P (Ss.exs cd N (.cons (.app i false e) ss) g) := by
  refine post_thn ?_ k
  rw [ex_app, hs, R.thn_ok, h, R.ok_bind, asD_fz, R.thn_ok, if_pos (sz_le hz), hg]
theorem w_ext {i : Nat} {e : E} {ds : List D} {os : List O} (hs : slotL g i = .ok os) (h : E.ev cd e g = .ok (.fz (.list ds))) (hz : os.length + ds.length ≤ 1000000) (hg : putS g i (.ol (os ++ ds.map .fz)) = .nx g') (k : Post P (Ss.exs cd N ss g')) : Post P (Ss.exs cd N (.cons (.ext i e) ss) g) := by
  refine post_thn ?_ k
  rw [ex_ext, hs, R.thn_ok, h, R.ok_bind, asD_fz, R.thn_ok]
  show (if szOk (os.length + ds.length) then _ else _) = _
  rw [if_pos (sz_le hz), hg]
theorem w_frz {i : Nat} {o : O} (hs : slotO g i = .ok o) (k : Post P (Ss.exs cd N ss (g.set i (some (.fz o.toD))))) : Post P (Ss.exs cd N (.frz i ss) g) := by
  rw [exs_frz, hs, R.thn_ok]; exact k
theorem w_frzL {i : Nat} {ds : List D} (hs : slotO g i = .ok (.ol (ds.map .fz))) (hg : g.set i (some (.fz (.list ds))) = g') (k : Post P (Ss.exs cd N ss g')) : Post P (Ss.exs cd N (.frz i ss) g) := by
  rw [exs_frz, hs, R.thn_ok, toD_ol, hg]; exact k
theorem w_exp {e : E} {o : O} (h : E.ev cd e g = .ok o) (k : Post P (Ss.exs cd N ss g)) : Post P (Ss.exs cd N (.cons (.exp e) ss) g) := by
  refine post_thn ?_ k
  simp only [S.ex, h, R.thn_ok]
theorem w_no {c : E} {a : Ss} {b : Bool} (h : E.ev cd c g = .ok (.fz (.bool b))) (hb : b = false) (k : Post P (Ss.exs cd N ss g)) : Post P (Ss.exs cd N (.cons (.ite c a .nil) ss) g) := by
  subst hb
  exact post_thn (ite_no h) k
theorem w_ite {c : E} {a b : Ss} {o : O} {t : Bool} (h : E.ev cd c g = .ok o) (ht : truth o.toD = .ok t) (h1 : t = true → Post (Cont cd N ss P) (Ss.exs cd N a g)) (h2 : t = false → Post (Cont cd N ss P) (Ss.exs cd N b g)) : Post P (Ss.exs cd N (.cons (.ite c a b) ss) g) := by
  rw [exs_cons, ex_ite, h, R.ok_bind, ht, R.thn_ok]
  cases t with
  | true => exact h1 rfl
  | false => exact h2 rfl
theorem w_iteB {c : E} {a b : Ss} {t : Bool} (h : E.ev cd c g = .ok (.fz (.bool t))) (h1 : t = true → Post (Cont cd N ss P) (Ss.exs cd N a g)) (h2 : t = false → Post (Cont cd N ss P) (Ss.exs cd N b g)) : Post P (Ss.exs cd N (.cons (.ite c a b) ss) g) := w_ite h rfl h1 h2
/-- a loop whose turns come back -/
theorem w_for {t : Tg} {it : It} {b : Ss} {clr : List Nat} {α : Type} {enc : α → D} {xs : List α} (hq : It.evi cd it g = .ok (xs.map enc)) (hb : ∀ x ∈ xs, ∃ g1, t.put (enc x) g = .ok g1 ∧ Post (Back clr g) (Ss.exs cd N b g1)) (k : Post P (Ss.exs cd N ss g)) :
    Post P (Ss.exs cd N (.cons (.for_ t it b clr) ss) g) := by
  refine post_thn ?_ k
  rw [ex_for, hq, R.thn_ok]
  refine forL_pass enc xs fun x hx => ?_
  obtain ⟨g1, h1, g', h2, h3⟩ := hb x hx
  refine ⟨g', ?_, h3⟩
  rw [h1, R.thn_ok]
  exact h2
/-- a loop that makes a state -/
theorem w_fold {t : Tg} {it : It} {b : Ss} {clr : List Nat} {α β : Type} {enc : α → D} {xs : List α} (G : β → Env) (step : β → α → β) (I : β → Prop) (s : β) (hq : It.evi cd it g = .ok (xs.map enc)) (hg : g = G s) (hi : I s)
    (hb : ∀ s, I s → ∀ x ∈ xs, I (step s x) ∧ ∃ g1, t.put (enc x) (G s) = .ok g1 ∧ Post (Back clr (G (step s x))) (Ss.exs cd N b g1)) (k : I (xs.foldl step s) → Post P (Ss.exs cd N ss (G (xs.foldl step s)))) :
    Post P (Ss.exs cd N (.cons (.for_ t it b clr) ss) g) := by
  subst hg
  have q := forL_foldI (body := fun d g => (t.put d g).thn g fun g => Ss.exs cd N b g) (clr := clr) enc G step I xs s hi fun s hs x hx => by
    obtain ⟨i', g1, h1, g', h2, h3⟩ := hb s hs x hx
    refine ⟨i', g', ?_, h3⟩
    rw [h1, R.thn_ok]
    exact h2
  refine post_thn ?_ (k q.2)
  rw [ex_for, hq, R.thn_ok, q.1]
/-- the same by how many turns are done -/
theorem w_foldN {t : Tg} {it : It} {b : Ss} {clr : List Nat} {α β : Type} {enc : α → D} {xs : List α} (G : β → Env) (step : β → α → β) (I : Nat → β → Prop) (s : β) (hq : It.evi cd it g = .ok (xs.map enc)) (hg : g = G s) (hi : I 0 s)
    (hb : ∀ k s x, xs[k]? = some x → I k s → I (k + 1) (step s x) ∧ ∃ g1, t.put (enc x) (G s) = .ok g1 ∧ Post (Back clr (G (step s x))) (Ss.exs cd N b g1)) (k : I xs.length (xs.foldl step s) → Post P (Ss.exs cd N ss (G (xs.foldl step s)))) :
    Post P (Ss.exs cd N (.cons (.for_ t it b clr) ss) g) := by
  subst hg
  have q : ∀ (ys : List α) (k : Nat) (s : β), xs.drop k = ys → I k s → forL (fun d g => (t.put d g).thn g fun g => Ss.exs cd N b g) clr (ys.map enc) (G s) = .nx (G (ys.foldl step s)) ∧ I (k + ys.length) (ys.foldl step s) := by
    intro ys
    induction ys with
    | nil => intro k s _ hs; exact ⟨rfl, hs⟩
    | cons y ys ih =>
      intro k s hd hs
      have hy : xs[k]? = some y := by
        have : (xs.drop k)[0]? = some y := by rw [hd]; rfl
        rwa [List.getElem?_drop] at this
      have hd2 : xs.drop (k + 1) = ys := by rw [← List.drop_drop, hd]; rfl
      obtain ⟨i', g1, h1, g', h2, h3⟩ := hb k s y hy hs
      have z := ih (k + 1) (step s y) hd2 i'
      have h2' : ((t.put (enc y) (G s)).thn (G s) fun g => Ss.exs cd N b g) = .nx g' ∨ ((t.put (enc y) (G s)).thn (G s) fun g => Ss.exs cd N b g) = .ct g' := by rw [h1, R.thn_ok]; exact h2
      refine ⟨?_, by rw [List.length_cons, List.foldl_cons, show k + (ys.length + 1) = k + 1 + ys.length by omega]; exact z.2⟩
      rcases h2' with h2' | h2' <;> simp only [List.map_cons, forL, h2', h3, z.1, List.foldl_cons]
  have q := q xs 0 s rfl hi
  rw [Nat.zero_add] at q
  refine post_thn ?_ (k q.2)
  rw [ex_for, hq, R.thn_ok, q.1]
/-- a loop that may give the def's answer: at the first item that .. -/
theorem w_find {t : Tg} {it : It} {b : Ss} {clr : List Nat} {α : Type} {enc : α → D} {xs : List α} (p : α → Bool) (r : α → D) (hq : It.evi cd it g = .ok (xs.map enc)) (hb : ∀ x ∈ xs, ∃ g1, t.put (enc x) g = .ok g1 ∧ Post (fun o => (p x = true ∧ o = .rt (r x)) ∨ (p x = false ∧ Back clr g o)) (Ss.exs cd N b g1))
    (h1 : ∀ x, xs.find? p = some x → P (.rt (r x))) (h2 : xs.find? p = none → Post P (Ss.exs cd N ss g)) :
    Post P (Ss.exs cd N (.cons (.for_ t it b clr) ss) g) := by
  have q := forL_find (body := fun d g => (t.put d g).thn g fun g => Ss.exs cd N b g) (clr := clr) (g := g) enc p r xs fun x hx => by
    obtain ⟨g1, z1, z2⟩ := hb x hx
    rw [z1, R.thn_ok]
    rcases z2 with ⟨z3, z4⟩ | ⟨z3, g', z4, z5⟩
    · exact .inl ⟨z3, z4⟩
    · exact .inr ⟨z3, g', z4, z5⟩
  rw [exs_cons, ex_for, hq, R.thn_ok, q]
  cases e : xs.find? p with
  | some x => exact h1 x e
  | none => exact h2 e
theorem run_post {F : Fn} {ds : List D} {d : D} (hl : ds.length = F.np) (hg : ds.map (fun d => some (O.fz d)) ++ List.replicate (F.names.length - ds.length) none = g) (h : Post (fun r => r = .rt d) (Ss.exs cd N F.body g)) : F.run cd N ds = .ok d := run_of hl hg h
theorem run_exc {F : Fn} {ds : List D} {c : String} (hl : ds.length = F.np) (hg : ds.map (fun d => some (O.fz d)) ++ List.replicate (F.names.length - ds.length) none = g) (h : Post (fun r => ∃ g, r = .exc c g) (Ss.exs cd N F.body g)) : F.run cd N ds = .exc c := by
  unfold Fn.run
  obtain ⟨g', h⟩ := h
  rw [if_pos hl, hg, h]
/-! ### expressions -/
theorem e_var {i : Nat} {o : O} (h : g[i]? = some (some o)) : E.ev cd (.var i) g = .ok o := by rw [ev_var, h]
theorem e_lit (n : Nat) : E.ev cd (.int (n : Int)) g = .ok (.fz (nD n)) := rfl
theorem e_intL {i : Int} : E.ev cd (.int i) g = .ok (.fz (.int i)) := rfl
theorem e_l0 : E.ev cd (.int 0) g = .ok (.fz (nD 0)) := rfl
theorem e_l1 : E.ev cd (.int 1) g = .ok (.fz (nD 1)) := rfl
theorem e_l2 : E.ev cd (.int 2) g = .ok (.fz (nD 2)) := rfl
theorem e_l3 : E.ev cd (.int 3) g = .ok (.fz (nD 3)) := rfl
theorem e_l4 : E.ev cd (.int 4) g = .ok (.fz (nD 4)) := rfl
theorem e_l5 : E.ev cd (.int 5) g = .ok (.fz (nD 5)) := rfl
theorem e_l6 : E.ev cd (.int 6) g = .ok (.fz (nD 6)) := rfl
theorem e_l7 : E.ev cd (.int 7) g = .ok (.fz (nD 7)) := rfl
theorem e_l8 : E.ev cd (.int 8) g = .ok (.fz (nD 8)) := rfl
theorem e_l9 : E.ev cd (.int 9) g = .ok (.fz (nD 9)) := rfl
theorem e_l10 : E.ev cd (.int 10) g = .ok (.fz (nD 10)) := rfl
theorem e_l11 : E.ev cd (.int 11) g = .ok (.fz (nD 11)) := rfl
theorem e_l12 : E.ev cd (.int 12) g = .ok (.fz (nD 12)) := rfl
theorem e_l13 : E.ev cd (.int 13) g = .ok (.fz (nD 13)) := rfl
theorem e_l14 : E.ev cd (.int 14) g = .ok (.fz (nD 14)) := rfl
theorem e_l15 : E.ev cd (.int 15) g = .ok (.fz (nD 15)) := rfl
theorem e_l16 : E.ev cd (.int 16) g = .ok (.fz (nD 16)) := rfl
theorem e_l17 : E.ev cd (.int 17) g = .ok (.fz (nD 17)) := rfl
theorem e_l18 : E.ev cd (.int 18) g = .ok (.fz (nD 18)) := rfl
theorem e_l19 : E.ev cd (.int 19) g = .ok (.fz (nD 19)) := rfl
theorem e_l20 : E.ev cd (.int 20) g = .ok (.fz (nD 20)) := rfl
theorem e_bl {b : Bool} : E.ev cd (.bl b) g = .ok (.fz (.bool b)) := rfl
theorem e_non : E.ev cd .non g = .ok (.fz .none) := rfl
theorem e_str {s : String} : E.ev cd (.str s) g = .ok (.fz (.str (Str.ofString s))) := rfl
theorem e_bin {o : BOp} {a b : E} {x y z : D} (ha : E.ev cd a g = .ok (.fz x)) (hb : E.ev cd b g = .ok (.fz y)) (h : bop o x y = .ok z) : E.ev cd (.bin o a b) g = .ok (.fz z) := by
  rw [ev_bin, ha, R.ok_bind, asD_fz, R.ok_bind, hb, R.ok_bind, asD_fz, R.ok_bind, h, R.ok_bind]
theorem e_cmp {o : COp} {a b : E} {x y : D} {z : Bool} (ha : E.ev cd a g = .ok (.fz x)) (hb : E.ev cd b g = .ok (.fz y)) (h : cop o x y = .ok z) : E.ev cd (.cmp o a b) g = .ok (.fz (.bool z)) := cmpE ha hb h
theorem e_cmpO {o : COp} {a b : E} {x : D} {y : O} {z : Bool} (ha : E.ev cd a g = .ok (.fz x)) (hb : E.ev cd b g = .ok y) (h : cop o x y.toD = .ok z) : E.ev cd (.cmp o a b) g = .ok (.fz (.bool z)) := by
  rw [ev_cmp, ha, R.ok_bind, asD_fz, R.ok_bind, hb, R.ok_bind, h, R.ok_bind]
theorem e_isN {neg : Bool} {a : E} {x : D} {b : Bool} (ha : E.ev cd a g = .ok (.fz x)) (hb : isNone x = b) : E.ev cd (.isN neg a) g = .ok (.fz (.bool (neg ^^ b))) := by
  rw [ev_isN, ha, R.ok_bind, asD_fz, R.ok_bind, hb]
theorem e_or {a b : E} {x y : Bool} (ha : E.ev cd a g = .ok (.fz (.bool x))) (hb : E.ev cd b g = .ok (.fz (.bool y))) : E.ev cd (.or a b) g = .ok (.fz (.bool (x || y))) := by
  rw [ev_orS, ha, R.ok_bind, asD_fz, R.ok_bind]
  cases x
  · exact hb
  · rfl
theorem e_orI {a b : E} {x y : Bool} (ha : E.ev cd a g = .ok (.fz (.bool x))) (hb : x = false → E.ev cd b g = .ok (.fz (.bool y))) : E.ev cd (.or a b) g = .ok (.fz (.bool (x || y))) := by
  rw [ev_orS, ha, R.ok_bind, asD_fz, R.ok_bind]
  cases x
  · exact hb rfl
  · rfl
theorem e_and {a b : E} {x y : Bool} (ha : E.ev cd a g = .ok (.fz (.bool x))) (hb : E.ev cd b g = .ok (.fz (.bool y))) : E.ev cd (.and a b) g = .ok (.fz (.bool (x && y))) := by
  rw [ev_andS, ha, R.ok_bind, asD_fz, R.ok_bind]
  cases x
  · rfl
  · exact hb
theorem e_andI {a b : E} {x y : Bool} (ha : E.ev cd a g = .ok (.fz (.bool x))) (hb : x = true → E.ev cd b g = .ok (.fz (.bool y))) : E.ev cd (.and a b) g = .ok (.fz (.bool (x && y))) := by
  rw [ev_andS, ha, R.ok_bind, asD_fz, R.ok_bind]
  cases x
  · rfl
  · exact hb rfl
theorem e_not {a : E} {o : O} {b : Bool} (ha : E.ev cd a g = .ok o) (h : truth o.toD = .ok b) : E.ev cd (.not a) g = .ok (.fz (.bool (!b))) := by
  rw [ev_notS, ha, R.ok_bind, h, R.ok_bind]
theorem e_ix {a b : E} {o x : O} {i : Int} (ha : E.ev cd a g = .ok o) (hb : E.ev cd b g = .ok (.fz (.int i))) (h : o.at i = .ok x) : E.ev cd (.ix a b) g = .ok x := ixE ha hb h
theorem e_sl {a : E} {lo hi : Oe} {o : O} {l h : Option Int} {d : D} (ha : E.ev cd a g = .ok o) (hl : Oe.evi cd lo g = .ok l) (hh : Oe.evi cd hi g = .ok h) (hc : o.cut l h = .ok d) : E.ev cd (.sl a lo hi) g = .ok (.fz d) := by
  rw [ev_sl, ha, R.ok_bind, hl, R.ok_bind, hh, R.ok_bind, hc, R.ok_bind]
theorem o_no : Oe.no.evi cd g = .ok none := rfl
theorem o_so {e : E} {i : Int} (h : E.ev cd e g = .ok (.fz (.int i))) : (Oe.so e).evi cd g = .ok (some i) := by
  rw [evi_so, h, R.ok_bind, asD_fz, R.ok_bind, asInt_int, R.ok_bind]
theorem es_nil : Es.nil.evo cd g = .ok [] := rfl
theorem es_cons {e : E} {es : Es} {o : O} {os : List O} (h : E.ev cd e g = .ok o) (k : Es.evo cd es g = .ok os) : Es.evo cd (.cons e es) g = .ok (o :: os) := by
  rw [evo_cons, h, R.ok_bind, k, R.ok_bind]
theorem e_tup {es : Es} {os : List O} {ds : List D} (h : Es.evo cd es g = .ok os) (k : fzAll os = .ok ds) : E.ev cd (.tup es) g = .ok (.fz (.tuple ds)) := by
  rw [ev_tup, h, R.ok_bind, k, R.ok_bind]
theorem e_lst {es : Es} {os : List O} {ds : List D} (h : Es.evo cd es g = .ok os) (k : fzAll os = .ok ds) : E.ev cd (.lst es) g = .ok (.fz (.list ds)) := by
  rw [ev_lst, h, R.ok_bind, k, R.ok_bind]
theorem e_call {f : String} {es : Es} {os : List O} {ds : List D} {d : D} (h : Es.evo cd es g = .ok os) (k : fzAll os = .ok ds) (c : cd f ds = .ok d) : E.ev cd (.call f es) g = .ok (.fz d) := by
  rw [ev_call, h, R.ok_bind, k, R.ok_bind, c, R.ok_bind]
theorem e_bi {b : Bi} {es : Es} {os : List O} {d : D} (h : Es.evo cd es g = .ok os) (c : bi b os = .ok d) : E.ev cd (.bi b es) g = .ok (.fz d) := by
  rw [ev_bi, h, R.ok_bind, c, R.ok_bind]
theorem e_ite {c a b : E} {o : O} {t : Bool} {x : O} (h : E.ev cd c g = .ok o) (ht : truth o.toD = .ok t) (h1 : t = true → E.ev cd a g = .ok x) (h2 : t = false → E.ev cd b g = .ok x) : E.ev cd (.ite c a b) g = .ok x := by
  rw [ev_iteS, h, R.ok_bind, ht, R.ok_bind]
  cases t with
  | true => exact h1 rfl
  | false => exact h2 rfl
theorem e_rg1 {t : Bool} {a : E} {n : Nat} (h : E.ev cd a g = .ok (.fz (nD n))) (hn : n ≤ 1000000) : E.ev cd (.rg1 t a) g = .ok (.fz (if t then tupN (List.range n) else listN (List.range n))) := ev_rg1_n h hn
theorem e_rgT {a : E} {n : Nat} (h : E.ev cd a g = .ok (.fz (nD n))) (hn : n ≤ 1000000) : E.ev cd (.rg1 true a) g = .ok (.fz (tupN (List.range n))) := e_rg1 h hn
theorem e_rgF {a : E} {n : Nat} (h : E.ev cd a g = .ok (.fz (nD n))) (hn : n ≤ 1000000) : E.ev cd (.rg1 false a) g = .ok (.fz (listN (List.range n))) := e_rg1 h hn
theorem e_cmpr {tg : Tg} {own : List (String × Nat)} {a e : E} {c : E} {n : Nat} {r : Nat → D} {p : Nat → Bool} (hq : E.ev cd a g = .ok (.fz (nD n))) (hz : n ≤ 1000000)
    (ht : ∀ x, x < n → turnE cd tg (own.map (·.2)) (.so c) e g (nD x) = .ok (if p x then some (r x) else none)) : E.ev cd (.comp tg own (.rng1 a) (.so c) e) g = .ok (.fz (.list (((List.range n).filter p).map r))) :=
  comp_map (evi_rng_n hq hz) (by simpa using hz) fun x hx => ht x (List.mem_range.mp hx)
theorem e_allr {tg : Tg} {own : List (String × Nat)} {a e : E} {n : Nat} {r : Nat → D} (hq : E.ev cd a g = .ok (.fz (nD n))) (hz : n ≤ 1000000)
    (ht : ∀ x, x < n → turnE cd tg (own.map (·.2)) .no e g (nD x) = .ok (some (r x))) : E.ev cd (.comp tg own (.rng1 a) .no e) g = .ok (.fz (.list ((List.range n).map r))) :=
  comp_all (evi_rng_n hq hz) (by simpa using hz) fun x hx => ht x (List.mem_range.mp hx)
theorem e_cmpr2 {tg : Tg} {own : List (String × Nat)} {a b e : E} {c : E} {i j : Nat} {r : Nat → D} {p : Nat → Bool} (ha : E.ev cd a g = .ok (.fz (nD i))) (hb : E.ev cd b g = .ok (.fz (nD j))) (hi : i ≤ 1000000) (hj : j ≤ 1000000)
    (ht : ∀ x, i ≤ x → x < j → turnE cd tg (own.map (·.2)) (.so c) e g (nD x) = .ok (if p x then some (r x) else none)) : E.ev cd (.comp tg own (.rng2 a b) (.so c) e) g = .ok (.fz (.list (((List.range' i (j - i)).filter p).map r))) :=
  comp_map (evi_rng2_n ha hb hi hj) (by simp; omega) fun x hx => by rw [List.mem_range'_1] at hx; exact ht x hx.1 (by omega)
theorem e_allr2 {tg : Tg} {own : List (String × Nat)} {a b e : E} {i j : Nat} {r : Nat → D} (ha : E.ev cd a g = .ok (.fz (nD i))) (hb : E.ev cd b g = .ok (.fz (nD j))) (hi : i ≤ 1000000) (hj : j ≤ 1000000)
    (ht : ∀ x, i ≤ x → x < j → turnE cd tg (own.map (·.2)) .no e g (nD x) = .ok (some (r x))) : E.ev cd (.comp tg own (.rng2 a b) .no e) g = .ok (.fz (.list ((List.range' i (j - i)).map r))) :=
  comp_all (evi_rng2_n ha hb hi hj) (by simp; omega) fun x hx => by rw [List.mem_range'_1] at hx; exact ht x hx.1 (by omega)
theorem e_cmps {tg : Tg} {own : List (String × Nat)} {it : It} {c e : E} {α : Type} {enc r : α → D} {p : α → Bool} {xs : List α} (hq : It.evi cd it g = .ok (xs.map enc)) (hz : xs.length ≤ 1000000)
    (ht : ∀ x ∈ xs, turnE cd tg (own.map (·.2)) (.so c) e g (enc x) = .ok (if p x then some (r x) else none)) : E.ev cd (.comp tg own it (.so c) e) g = .ok (.fz (.list ((xs.filter p).map r))) := comp_map hq hz ht
theorem e_alls {tg : Tg} {own : List (String × Nat)} {it : It} {e : E} {α : Type} {enc r : α → D} {xs : List α} (hq : It.evi cd it g = .ok (xs.map enc)) (hz : xs.length ≤ 1000000)
    (ht : ∀ x ∈ xs, turnE cd tg (own.map (·.2)) .no e g (enc x) = .ok (some (r x))) : E.ev cd (.comp tg own it .no e) g = .ok (.fz (.list (xs.map r))) := comp_all hq hz ht
theorem i_seqT {α : Type} {enc : α → D} {xs : List α} {e : E} (h : E.ev cd e g = .ok (.fz (.tuple (xs.map enc)))) : It.evi cd (.seq e) g = .ok (xs.map enc) := seqT h
theorem i_seqL {α : Type} {enc : α → D} {xs : List α} {e : E} (h : E.ev cd e g = .ok (.fz (.list (xs.map enc)))) : It.evi cd (.seq e) g = .ok (xs.map enc) := seqL h
theorem i_rng {a : E} {n : Nat} (h : E.ev cd a g = .ok (.fz (nD n))) (hn : n ≤ 1000000) : It.evi cd (.rng1 a) g = .ok ((List.range n).map nD) := evi_rng_n h hn
theorem i_rng2 {a b : E} {i j : Nat} (ha : E.ev cd a g = .ok (.fz (nD i))) (hb : E.ev cd b g = .ok (.fz (nD j))) (hi : i ≤ 1000000) (hj : j ≤ 1000000) : It.evi cd (.rng2 a b) g = .ok ((List.range' i (j - i)).map nD) := evi_rng2_n ha hb hi hj
theorem turn_if' {tg : Tg} {vs : List Nat} {c e : E} {d d' : D} {g1 : Env} {b : Bool} (hp : tg.put d (wipe g vs) = .ok g1) (hc : E.ev cd c g1 = .ok (.fz (.bool b))) (he : b = true → E.ev cd e g1 = .ok (.fz d')) : turnE cd tg vs (.so c) e g d = .ok (if b then some d' else none) := by
  unfold turnE
  rw [hp, R.ok_bind, evt_so, hc, R.ok_bind, toD_fz, truth_bool, R.ok_bind]
  cases b
  · rfl
  · rw [if_pos rfl, he rfl]; rfl
end
theorem put_lit {g g' : Env} {i : Nat} {o : O} (h : Nat.ble (i + 1) g.length = true) (e : g.set i (some o) = g') : putS g i o = .nx g' := by
  unfold putS
  rw [if_pos (decide_eq_true (show i < g.length from Nat.le_of_ble_eq_true h)), e]
theorem tput1 {g g' : Env} {i : Nat} {d : D} (h : Nat.ble (i + 1) g.length = true) (e : g.set i (some (.fz d)) = g') : (Tg.n i).put d g = .ok g' := by
  rw [put_n1, if_pos (decide_eq_true (show i < g.length from Nat.le_of_ble_eq_true h)), e]
theorem tput2 {g g' : Env} {i j : Nat} {x y : D} (h : Nat.ble (i + 1) g.length = true) (h2 : Nat.ble (j + 1) g.length = true) (e : (g.set i (some (.fz x))).set j (some (.fz y)) = g') : (Tg.cons (.n i) (.cons (.n j) .nil)).put (.tuple [x, y]) g = .ok g' := by
  rw [put_t, puts_c, tput1 h rfl, R.ok_bind, puts_c, tput1 (by rw [List.length_set]; exact h2) rfl, R.ok_bind, puts_0, e]
theorem tput3 {g g' : Env} {i j k : Nat} {x y z : D} (h : Nat.ble (i + 1) g.length = true) (h2 : Nat.ble (j + 1) g.length = true) (h3 : Nat.ble (k + 1) g.length = true) (e : ((g.set i (some (.fz x))).set j (some (.fz y))).set k (some (.fz z)) = g') : (Tg.cons (.n i) (.cons (.n j) (.cons (.n k) .nil))).put (.tuple [x, y, z]) g = .ok g' := by
  rw [put_t, puts_c, tput1 h rfl, R.ok_bind, puts_c, tput1 (by rw [List.length_set]; exact h2) rfl, R.ok_bind, puts_c, tput1 (by rw [List.length_set, List.length_set]; exact h3) rfl, R.ok_bind, puts_0, e]
theorem turnP {cd : String → List D → R D} {N : Nat} {P : SO → Prop} {t : Tg} {d : D} {g g1 : Env} {b : Ss} (h : t.put d g = .ok g1) (k : Post P (Ss.exs cd N b g1)) : ∃ g1, t.put d g = .ok g1 ∧ Post P (Ss.exs cd N b g1) := ⟨g1, h, k⟩
/-! ### what operators come to -/
theorem b_addN {i j : Nat} : bop .add (nD i) (nD j) = .ok (nD (i + j)) := by
  show R.ok (PyData.int ((i : Int) + j)) = _
  rw [show ((i : Int) + (j : Int)) = ((i + j : Nat) : Int) by omega]
theorem b_addI {i j : Int} : bop .add (.int i) (.int j) = .ok (.int (i + j)) := rfl
theorem b_mulN {i j : Nat} (hi : i ≤ 1000000) (hj : j ≤ 1000000) : bop .mul (nD i) (nD j) = .ok (nD (i * j)) := by
  rw [bop_mul (mulOk_of (a := 21) (b := 21) (small_log (by omega) (by omega)) (small_log (by omega) (by omega)) (by decide))]
  rw [show ((i : Int) * (j : Int)) = ((i * j : Nat) : Int) by simp]
theorem b_subN {i j : Nat} (h : j ≤ i) : bop .sub (nD i) (nD j) = .ok (nD (i - j)) := by
  show R.ok (PyData.int ((i : Int) - j)) = _
  rw [show ((i : Int) - (j : Int)) = ((i - j : Nat) : Int) by omega]
theorem b_modN {i j : Nat} (h : 0 < j) : bop .mod (nD i) (nD j) = .ok (nD (i % j)) := by
  rw [bop_mod (by omega), show ((i : Int) % (j : Int)) = ((i % j : Nat) : Int) by simp]
theorem c_ltN {i j : Nat} : cop .lt (nD i) (nD j) = .ok (decide (i < j)) := by rw [cop_lt]; congr 1; simp
theorem c_leN {i j : Nat} : cop .le (nD i) (nD j) = .ok (decide (i ≤ j)) := by rw [cop_le]; congr 1; simp
theorem c_gtN {i j : Nat} : cop .gt (nD i) (nD j) = .ok (decide (j < i)) := by rw [cop_gt]; congr 1; simp
theorem c_geN {i j : Nat} : cop .ge (nD i) (nD j) = .ok (decide (j ≤ i)) := by rw [cop_ge]; congr 1; simp
theorem c_eqB (a b : Bool) : cop .eq (.bool a) (.bool b) = .ok (decide (a = b)) := cop_eq eqe_bool pl_b (by decide) a b
theorem c_isB (a b : Bool) : cop .is_ (.bool a) (.bool b) = .ok (decide (a = b)) := rfl
theorem c_isnB (a b : Bool) : cop .isn (.bool a) (.bool b) = .ok (!decide (a = b)) := rfl
theorem c_eqT (a b : List Nat) : cop .eq (tupN a) (tupN b) = .ok (decide (a = b)) := cop_eq eqe_tn pl_tn (by decide) a b
theorem eqe_ln : EqE listN := eqe_lst eqe_n
theorem pl_ln (l : List Nat) : Pl 1 (listN l) := pl_lst (pl_map pl_n l)
theorem c_eqL (a b : List Nat) : cop .eq (listN a) (listN b) = .ok (decide (a = b)) := cop_eq eqe_ln pl_ln (by decide) a b
theorem c_neL (a b : List Nat) : cop .ne (listN a) (listN b) = .ok (!decide (a = b)) := cop_ne eqe_ln pl_ln (by decide) a b
abbrev lstP (l : List (Nat × Nat)) : D := .list (l.map prD)
theorem eqe_lp : EqE lstP := eqe_lst eqe_pr
theorem pl_lp (l : List (Nat × Nat)) : Pl 2 (lstP l) := pl_lst (pl_map pl_pr l)
theorem c_eqPs (a b : List (Nat × Nat)) : cop .eq (prsD a) (prsD b) = .ok (decide (a = b)) := cop_eq eqe_prs pl_prs (by decide) a b
theorem c_nePs (a b : List (Nat × Nat)) : cop .ne (prsD a) (prsD b) = .ok (!decide (a = b)) := cop_ne eqe_prs pl_prs (by decide) a b
theorem c_eqLP (a b : List (Nat × Nat)) : cop .eq (lstP a) (lstP b) = .ok (decide (a = b)) := cop_eq eqe_lp pl_lp (by decide) a b
theorem c_neLP (a b : List (Nat × Nat)) : cop .ne (lstP a) (lstP b) = .ok (!decide (a = b)) := cop_ne eqe_lp pl_lp (by decide) a b
theorem c_eqP (a b : Nat × Nat) : cop .eq (prD a) (prD b) = .ok (decide (a = b)) := cop_eq eqe_pr pl_pr (by decide) a b
theorem c_neP (a b : Nat × Nat) : cop .ne (prD a) (prD b) = .ok (!decide (a = b)) := cop_ne eqe_pr pl_pr (by decide) a b
theorem c_inP (x : Nat × Nat) (l : List (Nat × Nat)) : cop .in_ (prD x) (prsD l) = .ok (decide (x ∈ l)) := (cop_inT eqe_pr pl_pr (by decide) x l).trans (by congr)
theorem c_ninP (x : Nat × Nat) (l : List (Nat × Nat)) : cop .nin (prD x) (prsD l) = .ok (!decide (x ∈ l)) := (cop_ninT eqe_pr pl_pr (by decide) x l).trans (by congr)
theorem c_inLN (x : Nat) (l : List Nat) : cop .in_ (nD x) (listN l) = .ok (decide (x ∈ l)) := cop_inL eqe_n (k := 0) (fun a => pl_n a) (by decide) x l
theorem c_inLP (x : Nat × Nat) (l : List (Nat × Nat)) : cop .in_ (prD x) (lstP l) = .ok (decide (x ∈ l)) := (cop_inL eqe_pr pl_pr (by decide) x l).trans (by congr)
theorem c_ninLN (x : Nat) (l : List Nat) : cop .nin (nD x) (listN l) = .ok (!decide (x ∈ l)) := cop_nin eqe_n (k := 0) (fun a => pl_n a) (by decide) x l
theorem c_ninLP (x : Nat × Nat) (l : List (Nat × Nat)) : cop .nin (prD x) (lstP l) = .ok (!decide (x ∈ l)) := (cop_nin eqe_pr pl_pr (by decide) x l).trans (by congr)
theorem t_bool {b : Bool} : truth (O.fz (.bool b)).toD = .ok b := rfl
theorem t_list {ds : List D} : truth (O.fz (.list ds)).toD = .ok (!ds.isEmpty) := rfl
theorem t_ol {ds : List D} : truth (O.ol (ds.map .fz)).toD = .ok (!ds.isEmpty) := by rw [toD_ol]; rfl
theorem f_nil : fzAll [] = .ok [] := rfl
theorem f_cons {d : D} {os : List O} {ds : List D} (h : fzAll os = .ok ds) : fzAll (.fz d :: os) = .ok (d :: ds) := by rw [fzAll_cons, h, R.ok_bind]
theorem bi_min {i j : Nat} : bi .min2 [.fz (nD i), .fz (nD j)] = .ok (nD (min i j)) := by
  show R.ok (PyData.int (if (j : Int) < i then (j : Int) else i)) = _
  congr 2
  split <;> omega
theorem bi_max {i j : Nat} : bi .max2 [.fz (nD i), .fz (nD j)] = .ok (nD (max i j)) := by
  show R.ok (PyData.int (if (j : Int) > i then (j : Int) else i)) = _
  congr 2
  split <;> omega
theorem bi_lenM {α : Type} {f : α → D} {l : List α} : bi .len [.fz (.list (l.map f))] = .ok (nD l.length) := by rw [bi_lenL, List.length_map]
theorem bi_lenTM {α : Type} {f : α → D} {l : List α} : bi .len [.fz (.tuple (l.map f))] = .ok (nD l.length) := by rw [bi_lenT, List.length_map]
theorem bi_lenOM {α : Type} {f : α → O} {l : List α} : bi .len [.ol (l.map f)] = .ok (nD l.length) := by rw [bi_lenO, List.length_map]
theorem bi_tupleT {ds : List D} : bi .tuple [.fz (.tuple ds)] = .ok (.tuple ds) := rfl
theorem bi_listL {ds : List D} : bi .list [.fz (.list ds)] = .ok (.list ds) := rfl
theorem bi_listT {ds : List D} : bi .list [.fz (.tuple ds)] = .ok (.list ds) := rfl
theorem bools_map {α : Type} {f : α → Bool} : ∀ l : List α, bools? (l.map fun x => PyData.bool (f x)) = some (l.map f)
  | [] => rfl
  | x :: l => by rw [List.map_cons, bools?, bools_map l]; rfl
theorem bi_any {α : Type} {f : α → Bool} {l : List α} : bi .any [.fz (.list (l.map fun x => PyData.bool (f x)))] = .ok (.bool (l.any f)) := by
  show (match bools? (l.map fun x => PyData.bool (f x)) with | some bs => R.ok (PyData.bool (bs.any id)) | none => .bad) = _
  rw [bools_map, ]
  simp only [List.any_map]
  rfl
theorem bi_all {α : Type} {f : α → Bool} {l : List α} : bi .all [.fz (.list (l.map fun x => PyData.bool (f x)))] = .ok (.bool (l.all f)) := by
  show (match bools? (l.map fun x => PyData.bool (f x)) with | some bs => R.ok (PyData.bool (bs.all id)) | none => .bad) = _
  rw [bools_map, ]
  simp only [List.all_map]
  rfl
theorem bi_sortN {l : List Nat} : bi .sorted [.fz (listN l)] = .ok (listN (sortN l)) := by rw [bi_sorted, sortD_n]; rfl
theorem bi_sortP {l : List (Nat × Nat)} : bi .sorted [.fz (lstP l)] = .ok (lstP (sortP l)) := by rw [bi_sorted, sortD_p]; rfl
theorem bi_tupleN {l : List Nat} : bi .tuple [.fz (listN l)] = .ok (tupN l) := rfl
theorem bi_tupleNN {l : List Nat} : bi .tuple [.fz (tupN l)] = .ok (tupN l) := rfl
theorem bi_listN {l : List Nat} : bi .list [.fz (tupN l)] = .ok (listN l) := rfl
theorem bi_listNN {l : List Nat} : bi .list [.fz (listN l)] = .ok (listN l) := rfl
theorem bi_tupleP {l : List (Nat × Nat)} : bi .tuple [.fz (lstP l)] = .ok (prsD l) := rfl
theorem bi_lenNT {l : List Nat} : bi .len [.fz (tupN l)] = .ok (nD l.length) := bi_lenTM
theorem bi_lenL' {l : List Nat} : bi .len [.fz (listN l)] = .ok (nD l.length) := bi_lenM
theorem bi_tupleON {l : List Nat} : bi .tuple [.ol ((l.map nD).map .fz)] = .ok (tupN l) := bi_tupleO
theorem fold_filter {α : Type} (p : α → Bool) : ∀ (l s : List α), l.foldl (fun s x => if p x then s ++ [x] else s) s = s ++ l.filter p
  | [], s => by simp
  | x :: l, s => by
    rw [List.foldl_cons, fold_filter p l, List.filter_cons]
    cases p x <;> simp
theorem bi_intB {b : Bool} : bi .int [.fz (.bool b)] = .ok (nD (if b then 1 else 0)) := by cases b <;> rfl
end Q

set_option Elab.async false
set_option linter.all false
set_option maxRecDepth 100000
set_option maxHeartbeats 1000000
/-! N1: what a text is worth does not hang on the names that comprehensions have of their own. -/
namespace Q
open PySem
def noN (own : List (String × Nat)) : List (String × Nat) := own.map fun p => ("", p.2)
theorem noN_snd (own : List (String × Nat)) : (noN own).map (·.2) = own.map (·.2) := by
  unfold noN
  rw [List.map_map]
  rfl
mutual
def E.nm : E → E
  | .var i => .var i
  | .non => .non
  | .bl b => .bl b
  | .int i => .int i
  | .str s => .str s
  | .bin o a b => .bin o a.nm b.nm
  | .cmp o a b => .cmp o a.nm b.nm
  | .cmp2 o p a b c => .cmp2 o p a.nm b.nm c.nm
  | .isN n a => .isN n a.nm
  | .and a b => .and a.nm b.nm
  | .or a b => .or a.nm b.nm
  | .not a => .not a.nm
  | .neg a => .neg a.nm
  | .ite c a b => .ite c.nm a.nm b.nm
  | .tup es => .tup es.nm
  | .lst es => .lst es.nm
  | .ix a b => .ix a.nm b.nm
  | .sl a l h => .sl a.nm l.nm h.nm
  | .call f es => .call f es.nm
  | .bi b es => .bi b es.nm
  | .isi a t => .isi a.nm t
  | .comp tg own it c e => .comp tg (noN own) it.nm c.nm e.nm
  | .idx i b => .idx i b.nm
  | .sset a => .sset a.nm
  | .cmp3 o p q a b c d => .cmp3 o p q a.nm b.nm c.nm d.nm
  | .rev t a => .rev t a.nm
  | .rg1 t a => .rg1 t a.nm
  | .rg2 t a b => .rg2 t a.nm b.nm
def Es.nm : Es → Es
  | .nil => .nil
  | .cons e es => .cons e.nm es.nm
def Oe.nm : Oe → Oe
  | .no => .no
  | .so e => .so e.nm
def It.nm : It → It
  | .seq e => .seq e.nm
  | .seqo e => .seqo e.nm
  | .rng1 a => .rng1 a.nm
  | .rng2 a b => .rng2 a.nm b.nm
  | .enum a => .enum a.nm
  | .zip a b => .zip a.nm b.nm
end
section
variable {cd : String → List D → R D}
mutual
theorem E.nm_ev : ∀ (e : E) (g : Env), E.ev cd e.nm g = E.ev cd e g
  | .var i, g => rfl
  | .non, g => rfl
  | .bl b, g => rfl
  | .int i, g => rfl
  | .str s, g => rfl
  | .bin o a b, g => by simp only [E.nm, E.ev, E.nm_ev a, E.nm_ev b]
  | .cmp o a b, g => by simp only [E.nm, E.ev, E.nm_ev a, E.nm_ev b]
  | .cmp2 o p a b c, g => by simp only [E.nm, E.ev, E.nm_ev a, E.nm_ev b, E.nm_ev c]
  | .isN n a, g => by simp only [E.nm, E.ev, E.nm_ev a]
  | .and a b, g => by simp only [E.nm, E.ev, E.nm_ev a, E.nm_ev b]
  | .or a b, g => by simp only [E.nm, E.ev, E.nm_ev a, E.nm_ev b]
  | .not a, g => by simp only [E.nm, E.ev, E.nm_ev a]
  | .neg a, g => by simp only [E.nm, E.ev, E.nm_ev a]
  | .ite c a b, g => by simp only [E.nm, E.ev, E.nm_ev a, E.nm_ev b, E.nm_ev c]
  | .tup es, g => by simp only [E.nm, E.ev, Es.nm_ev es]
  | .lst es, g => by simp only [E.nm, E.ev, Es.nm_ev es]
  | .ix a b, g => by simp only [E.nm, E.ev, E.nm_ev a, E.nm_ev b]
  | .sl a l h, g => by simp only [E.nm, E.ev, E.nm_ev a, Oe.nm_evi l, Oe.nm_evi h]
  | .call f es, g => by simp only [E.nm, E.ev, Es.nm_ev es]
  | .bi b es, g => by simp only [E.nm, E.ev, Es.nm_ev es]
  | .isi a t, g => by simp only [E.nm, E.ev, E.nm_ev a]
  | .comp tg own it c e, g => by simp only [E.nm, E.ev, It.nm_ev it, noN_snd, fun g => Oe.nm_evt c g, fun g => E.nm_ev e g]
  | .idx i b, g => by simp only [E.nm, E.ev, E.nm_ev b]
  | .sset a, g => by simp only [E.nm, E.ev, E.nm_ev a]
  | .cmp3 o p q a b c d, g => by simp only [E.nm, E.ev, E.nm_ev a, E.nm_ev b, E.nm_ev c, E.nm_ev d]
  | .rev t a, g => by simp only [E.nm, E.ev, E.nm_ev a]
  | .rg1 t a, g => by simp only [E.nm, E.ev, E.nm_ev a]
  | .rg2 t a b, g => by simp only [E.nm, E.ev, E.nm_ev a, E.nm_ev b]
theorem Es.nm_ev : ∀ (es : Es) (g : Env), Es.evo cd es.nm g = Es.evo cd es g
  | .nil, g => rfl
  | .cons e es, g => by simp only [Es.nm, Es.evo, E.nm_ev e, Es.nm_ev es]
theorem Oe.nm_evi : ∀ (o : Oe) (g : Env), Oe.evi cd o.nm g = Oe.evi cd o g
  | .no, g => rfl
  | .so e, g => by simp only [Oe.nm, Oe.evi, E.nm_ev e]
theorem Oe.nm_evt : ∀ (o : Oe) (g : Env), Oe.evt cd o.nm g = Oe.evt cd o g
  | .no, g => rfl
  | .so e, g => by simp only [Oe.nm, Oe.evt, E.nm_ev e]
theorem It.nm_ev : ∀ (it : It) (g : Env), It.evi cd it.nm g = It.evi cd it g
  | .seq e, g => by simp only [It.nm, It.evi, E.nm_ev e]
  | .seqo e, g => by simp only [It.nm, It.evi, E.nm_ev e]
  | .rng1 a, g => by simp only [It.nm, It.evi, E.nm_ev a]
  | .rng2 a b, g => by simp only [It.nm, It.evi, E.nm_ev a, E.nm_ev b]
  | .enum a, g => by simp only [It.nm, It.evi, E.nm_ev a]
  | .zip a b, g => by simp only [It.nm, It.evi, E.nm_ev a, E.nm_ev b]
end
end
theorem E.nm_fresh : ∀ e : E, e.nm.fresh = e.fresh := by intro e; cases e <;> rfl
mutual
def S.nm : S → S
  | .set i f e => .set i f e.nm
  | .setT t e => .setT t e.nm
  | .setI i b e => .setI i b.nm e.nm
  | .setJ i a b e => .setJ i a.nm b.nm e.nm
  | .app i f e => .app i f e.nm
  | .ext i e => .ext i e.nm
  | .ret e => .ret e.nm
  | .ite c a b => .ite c.nm a.nm b.nm
  | .for_ t it b clr => .for_ t it.nm b.nm clr
  | .while_ c b clr => .while_ c.nm b.nm clr
  | .exp e => .exp e.nm
  | .pass => .pass
  | .brk => .brk
  | .cnt => .cnt
  | .rais c => .rais c
  | .popc t i x tg own it => .popc t i x.nm tg (noN own) it.nm
def Ss.nm : Ss → Ss
  | .nil => .nil
  | .cons s ss => .cons s.nm ss.nm
  | .frz i ss => .frz i ss.nm
end
section
variable {cd : String → List D → R D} {N : Nat}
mutual
theorem S.nm_ex : ∀ (s : S) (g : Env), S.ex cd N s.nm g = S.ex cd N s g
  | .set i f e, g => by simp only [S.nm, S.ex, E.nm_ev e, E.nm_fresh]
  | .setT t e, g => by simp only [S.nm, S.ex, E.nm_ev e]
  | .setI i b e, g => by simp only [S.nm, S.ex, E.nm_ev e, E.nm_ev b]
  | .setJ i a b e, g => by simp only [S.nm, S.ex, E.nm_ev e, E.nm_ev b, E.nm_ev a]
  | .app i f e, g => by simp only [S.nm, S.ex, E.nm_ev e, E.nm_fresh]
  | .ext i e, g => by simp only [S.nm, S.ex, E.nm_ev e]
  | .ret e, g => by simp only [S.nm, S.ex, E.nm_ev e]
  | .ite c a b, g => by simp only [S.nm, S.ex, E.nm_ev c, fun g => Ss.nm_ex a g, fun g => Ss.nm_ex b g]
  | .for_ t it b clr, g => by simp only [S.nm, S.ex, It.nm_ev it, fun g => Ss.nm_ex b g]
  | .while_ c b clr, g => by simp only [S.nm, S.ex, E.nm_ev (cd := cd) c, fun g => Ss.nm_ex b g]
  | .exp e, g => by simp only [S.nm, S.ex, E.nm_ev e]
  | .pass, g => rfl
  | .brk, g => rfl
  | .cnt, g => rfl
  | .rais c, g => rfl
  | .popc t i x tg own it, g => by
    have e : popF cd tg ((noN own).map (·.2)) x.nm = popF cd tg (own.map (·.2)) x := by
      funext d g
      unfold popF
      rw [noN_snd]
      simp only [E.nm_ev (cd := cd) x]
    simp only [S.nm, S.ex, It.nm_ev it, e]
theorem Ss.nm_ex : ∀ (ss : Ss) (g : Env), Ss.exs cd N ss.nm g = Ss.exs cd N ss g
  | .nil, g => rfl
  | .cons s ss, g => by simp only [Ss.nm, Ss.exs, S.nm_ex s, fun g => Ss.nm_ex ss g]
  | .frz i ss, g => by simp only [Ss.nm, Ss.exs, fun g => Ss.nm_ex ss g]
end
end
/-- two texts that differ in names alone -/
structure Alike (F F' : Fn) : Prop where
  np : F.np = F'.np
  ln : F.names.length = F'.names.length
  bd : F.body.nm = F'.body.nm
theorem Alike.run {F F' : Fn} (h : Alike F F') (cd : String → List D → R D) (N : Nat) (ds : List D) : F.run cd N ds = F'.run cd N ds := by
  unfold Fn.run
  rw [h.np, h.ln, ← Ss.nm_ex F.body, h.bd, Ss.nm_ex F'.body]
/-- the table has such a def -/
class Has (T : String → Option Fn) (f : String) (F : Fn) : Prop where
  is : ∃ F', T f = some F' ∧ Alike F' F
theorem callH {T : String → Option Fn} {N n : Nat} {f : String} (F : Fn) [h : Has T f F] (ds : List D) : callD T N (n + 1) f ds = F.run (callD T N n) N ds := by
  obtain ⟨F', h1, h2⟩ := h.is
  unfold callD
  rw [h1]
  exact h2.run _ _ _
end Q

set_option Elab.async false
set_option linter.all false
set_option maxRecDepth 100000
set_option maxHeartbeats 1000000
/-! P23: _law_far gives the distances. -/
namespace Q
open PySem
def mxD (w : Web) : D := .list ((List.range w.1).map fun a => .list ((List.range w.1).map fun b => nD (dis w a b)))
theorem tie_one {M : Mx} {t : Nat × Nat} {a b : Nat} : tieM M t a b = if (a = t.2 ∧ b = t.1) ∨ (a = t.1 ∧ b = t.2) then 1 else M a b := by
  unfold tieM upM
  by_cases h1 : a = t.2 ∧ b = t.1
  · rw [if_pos h1, if_pos (.inl h1)]
  · rw [if_neg h1]
    by_cases h2 : a = t.1 ∧ b = t.2
    · rw [if_pos h2, if_pos (.inr h2)]
    · rw [if_neg h2, if_neg (fun z => z.elim h1 h2)]
theorem tie_fold : ∀ (L : List (Nat × Nat)) (M : Mx) (a b : Nat), (Adj L a b → L.foldl tieM M a b = 1) ∧ (¬ Adj L a b → L.foldl tieM M a b = M a b)
  | [], M, a, b => ⟨fun h => (by rcases h with h | h <;> cases h), fun _ => rfl⟩
  | t :: L, M, a, b => by
    obtain ⟨i1, i2⟩ := tie_fold L (tieM M t) a b
    rw [List.foldl_cons]
    by_cases hL : Adj L a b
    · exact ⟨fun _ => i1 hL, fun n => absurd (hL.elim (fun z => .inl (List.mem_cons_of_mem _ z)) fun z => .inr (List.mem_cons_of_mem _ z)) n⟩
    · rw [i2 hL, tie_one]
      refine ⟨fun h => if_pos ?_, fun n => if_neg fun z => n ?_⟩
      · rcases h with h | h
        · rcases List.mem_cons.mp h with e | e
          · exact .inr ⟨by rw [← e], by rw [← e]⟩
          · exact absurd (.inl e) hL
        · rcases List.mem_cons.mp h with e | e
          · exact .inl ⟨by rw [← e], by rw [← e]⟩
          · exact absurd (.inr e) hL
      · rcases z with ⟨e1, e2⟩ | ⟨e1, e2⟩
        · exact .inr (by rw [e1, e2]; exact List.mem_cons_self ..)
        · exact .inl (by rw [e1, e2]; exact List.mem_cons_self ..)
section
variable {w : Web} (h : SmW w)
include h
theorem m0_low : MxOk w (w.2.foldl tieM (initM w.1)) where
  low a b ha hb := by
    by_cases z : Adj w.2 a b
    · rw [(tie_fold _ _ a b).1 z, (h.one ha hb).mpr z]
      exact Nat.le_refl _
    · rw [(tie_fold _ _ a b).2 z]
      unfold initM
      by_cases e : a = b
      · rw [(h.zero ha hb).mpr e]; exact Nat.zero_le _
      · rw [if_pos e, Nat.mul_one]
        exact Nat.le_of_lt (dis_lt h ha hb)
theorem m0_via (x a b : Nat) (ha : a < w.1) (hb : b < w.1) (v : Via w.2 0 x a b) : w.2.foldl tieM (initM w.1) a b ≤ x := by
  cases v with
  | zero =>
    rw [(tie_fold _ _ a a).2 fun z => (h.rng.adj z).2.2 rfl]
    simp [initM]
  | one z => rw [(tie_fold _ _ a b).1 z]; exact Nat.le_refl _
  | cat hc _ _ => exact absurd hc (Nat.not_lt_zero _)
theorem far_is {a b : Nat} (ha : a < w.1) (hb : b < w.1) : (List.range w.1).foldl (stM w.1) (w.2.foldl tieM (initM w.1)) a b = dis w a b := by
  obtain ⟨m, z⟩ := fw h (m0_low h) (m0_via h) w.1 (Nat.le_refl _)
  exact Nat.le_antisymm (z _ a b ha hb (via_of h.rng (h.isD ha hb).1)) (m.low a b ha hb)
theorem lawfar_run {cd : String → List D → R D} {N : Nat} : f__law_far.run cd N [webD w] = .ok (mxD w) := by
  refine run_of (g := [some (.fz (webD w)), none, none, none, none, none]) rfl rfl ?_
  obtain ⟨x3, e1⟩ := far_init (cd := cd) (N := N) (w := w) h.few
  obtain ⟨y3, y4, e2⟩ := far_ties (cd := cd) (N := N) h (x3 := x3) (x4 := none) (M := initM w.1)
  obtain ⟨z3, z4, e3⟩ := far_mid (cd := cd) (N := N) (w := w) h.few (x3 := y3) (x4 := y4) (M := w.2.foldl tieM (initM w.1))
  have r1 : S.ex cd N (.set 1 false (.ix (.var 0) (.int 0))) [some (.fz (webD w)), none, none, none, none, none] = .nx [some (.fz (webD w)), some (.fz (nD w.1)), none, none, none, none] := set_is (ixE (a := .var 0) (b := .int 0) (o := .fz (webD w)) (i := 0) rfl rfl web_n) (by show 1 < 6; decide)
  have r2 : S.ex cd N (.set 2 true (.lst .nil)) [some (.fz (webD w)), some (.fz (nD w.1)), none, none, none, none] = .nx (fG w [] none none none) := by
    rw [ex_setO, lst0]; rfl
  have fin : (O.ol (mxO w.1 ((List.range w.1).foldl (stM w.1) (w.2.foldl tieM (initM w.1))))).toD = mxD w := by
    rw [mx_data]
    refine congrArg PyData.list (List.map_congr_left fun a ha => congrArg PyData.list (List.map_congr_left fun b hb => ?_))
    rw [far_is h (List.mem_range.mp ha) (List.mem_range.mp hb)]
  unfold f__law_far
  rw [exs_cons, r1, SO.thn_nx, exs_cons, r2, SO.thn_nx, exs_cons, e1, SO.thn_nx, exs_cons]
  have e2' := e2
  rw [e2', SO.thn_nx, exs_cons, e3, SO.thn_nx, exs_frz]
  show Ss.exs cd N (.cons (.ret (.var 2)) .nil) [some (.fz (webD w)), some (.fz (nD w.1)), some (.fz (O.ol (mxO w.1 ((List.range w.1).foldl (stM w.1) (w.2.foldl tieM (initM w.1))))).toD), z3, z4, none] = _
  rw [fin]
  rfl
end
end Q

set_option Elab.async false
set_option linter.all false
set_option maxRecDepth 100000
/-! Fns2: the texts of further defs (printed by fns2.py). -/
namespace Q
def f_is_number : Fn := ⟨3, ["thing", "least", "most"], .cons (.ret (.and (.isi (.var 0) .int) (.and (.not (.isi (.var 0) .bool)) (.cmp2 .le .le (.var 1) (.var 0) (.var 2))))) .nil⟩
def f_is_rising : Fn := ⟨1, ["row", "k"], .cons (.ret (.bi .all (.cons (.comp (.n 1) [("k", 1)] (.rng2 (.int 1) (.bi .len (.cons (.var 0) .nil))) .no (.cmp .lt (.ix (.var 0) (.bin .sub (.var 1) (.int 1))) (.ix (.var 0) (.var 1)))) .nil))) .nil⟩
def f_are_places : Fn := ⟨2, ["thing", "many", "one"], .cons (.ret (.and (.isi (.var 0) .tuple) (.and (.bi .all (.cons (.comp (.n 2) [("one", 2)] (.seq (.var 0)) .no (.call "is_number" (.cons (.var 2) (.cons (.int 0) (.cons (.bin .sub (.var 1) (.int 1)) .nil))))) .nil)) (.call "is_rising" (.cons (.var 0) .nil))))) .nil⟩
def f_is_web : Fn := ⟨1, ["thing", "many", "ties", "tie"], .cons (.ite (.or (.not (.isi (.var 0) .tuple)) (.or (.cmp .ne (.bi .len (.cons (.var 0) .nil)) (.int 2)) (.not (.call "is_number" (.cons (.ix (.var 0) (.int 0)) (.cons (.int 1) (.cons (.int 8) .nil))))))) (.cons (.ret (.bl false)) .nil) .nil) (.cons (.setT (.cons (.n 1) (.cons (.n 2) .nil)) (.var 0)) (.cons (.ite (.or (.not (.isi (.var 2) .tuple)) (.not (.bi .all (.cons (.comp (.n 3) [("tie", 3)] (.seq (.var 2)) .no (.and (.call "are_places" (.cons (.var 3) (.cons (.var 1) .nil))) (.cmp .eq (.bi .len (.cons (.var 3) .nil)) (.int 2)))) .nil)))) (.cons (.ret (.bl false)) .nil) .nil) (.cons (.ret (.and (.call "is_rising" (.cons (.var 2) .nil)) (.cmp .nin .non (.call "steps_from" (.cons (.var 0) (.cons (.int 0) .nil)))))) .nil)))⟩
def f_are_marks : Fn := ⟨2, ["web", "thing"], .cons (.ret (.call "are_places" (.cons (.var 1) (.cons (.ix (.var 0) (.int 0)) .nil)))) .nil⟩
def f__law_whole : Fn := ⟨1, ["_law_found"], .cons (.ret (.and (.isi (.var 0) .int) (.not (.isi (.var 0) .bool)))) .nil⟩
def f__law_bad_web : Fn := ⟨2, ["_law_web_here", "_law_cell_here", "_law_many", "_law_ties", "_law_some", "_law_bad"], .cons (.setT (.cons (.n 2) (.cons (.n 3) .nil)) (.var 0)) (.cons (.set 4 false (.lst (.cons (.tup (.cons (.int 0) (.cons (.tup .nil) .nil))) (.cons (.tup (.cons (.int 9) (.cons (.var 3) .nil))) (.cons (.tup (.cons (.bl true) (.cons (.tup .nil) .nil))) (.cons (.tup (.cons (.var 2) (.cons (.bi .list (.cons (.var 3) .nil)) .nil))) (.cons (.lst (.cons (.var 2) (.cons (.var 3) .nil))) (.cons (.tup (.cons (.var 2) .nil)) (.cons (.tup (.cons (.var 2) (.cons (.var 3) (.cons (.int 0) .nil)))) (.cons .non .nil)))))))))) (.cons (.set 4 true (.bin .add (.var 4) (.lst (.cons (.int 7) (.cons (.tup (.cons (.int 2) (.cons (.tup .nil) .nil))) .nil))))) (.cons (.for_ (.n 5) (.seq (.lst (.cons (.tup (.cons (.int 0) (.cons (.var 2) .nil))) (.cons (.tup (.cons (.neg (.int 1)) (.cons (.int 0) .nil))) (.cons (.tup (.cons (.int 0) (.cons (.int 0) .nil))) (.cons (.tup (.cons (.int 1) (.cons (.int 0) .nil))) (.cons (.tup (.cons (.int 0) .nil)) (.cons (.tup (.cons (.int 0) (.cons (.int 1) (.cons (.int 2) .nil)))) (.cons (.lst (.cons (.int 0) (.cons (.int 1) .nil))) (.cons (.tup (.cons (.bl true) (.cons (.int 1) .nil))) (.cons (.tup (.cons (.int 0) (.cons (.bl true) .nil))) (.cons (.tup (.cons .non (.cons (.int 1) .nil))) (.cons (.int 0) (.cons (.str "0-1") .nil)))))))))))))) (.cons (.app 4 false (.tup (.cons (.var 2) (.cons (.bin .add (.tup (.cons (.var 5) .nil)) (.var 3)) .nil)))) .nil) [5]) (.frz 4 (.cons (.set 4 false (.bin .add (.var 4) (.lst (.cons (.tup (.cons (.int 3) (.cons (.tup (.cons (.tup (.cons (.int 0) (.cons (.int 1) .nil))) .nil)) .nil))) (.cons (.tup (.cons (.int 4) (.cons (.tup (.cons (.tup (.cons (.int 0) (.cons (.int 1) .nil))) (.cons (.tup (.cons (.int 2) (.cons (.int 3) .nil))) .nil))) .nil))) (.cons (.tup (.cons (.int 3) (.cons (.tup (.cons (.tup (.cons (.int 1) (.cons (.int 2) .nil))) (.cons (.tup (.cons (.int 0) (.cons (.int 1) .nil))) .nil))) .nil))) (.cons (.tup (.cons (.int 2) (.cons (.tup (.cons (.tup (.cons (.int 0) (.cons (.int 1) .nil))) (.cons (.tup (.cons (.int 0) (.cons (.int 1) .nil))) .nil))) .nil))) (.cons (.str "web") .nil)))))))) (.cons (.ret (.ix (.var 4) (.bin .mod (.var 1) (.bi .len (.cons (.var 4) .nil))))) .nil))))))⟩
def f__law_spoilt : Fn := ⟨2, ["_law_text_here", "_law_cell_here", "_law_at", "_law_sign"], .cons (.set 2 false (.bin .mod (.bin .fdiv (.var 1) (.int 4)) (.bin .add (.bi .len (.cons (.var 0) .nil)) (.int 1)))) (.cons (.set 3 false (.ix (.str "0178:- ,ax") (.bin .mod (.bin .fdiv (.var 1) (.int 512)) (.int 10)))) (.cons (.ite (.cmp .eq (.bin .mod (.var 1) (.int 4)) (.int 0)) (.cons (.ret (.bin .add (.sl (.var 0) .no (.so (.var 2))) (.sl (.var 0) (.so (.bin .add (.var 2) (.int 1))) .no))) .nil) .nil) (.cons (.ite (.cmp .eq (.bin .mod (.var 1) (.int 4)) (.int 1)) (.cons (.ret (.bin .add (.bin .add (.sl (.var 0) .no (.so (.var 2))) (.sl (.var 0) (.so (.var 2)) (.so (.bin .add (.var 2) (.int 1))))) (.sl (.var 0) (.so (.var 2)) .no))) .nil) .nil) (.cons (.ret (.bin .add (.bin .add (.sl (.var 0) .no (.so (.var 2))) (.var 3)) (.sl (.var 0) (.so (.bin .sub (.bin .add (.var 2) (.bin .mod (.var 1) (.int 4))) (.int 2))) .no))) .nil))))⟩
def f_row_of : Fn := ⟨3, ["web", "marks", "place"], .cons (.ret (.call "row_in" (.cons (.call "all_steps" (.cons (.var 0) .nil)) (.cons (.var 1) (.cons (.var 2) .nil))))) .nil⟩
def f_place_by : Fn := ⟨3, ["web", "marks", "row", "steps", "place"], .cons (.set 3 false (.call "all_steps" (.cons (.var 0) .nil))) (.cons (.for_ (.n 4) (.rng1 (.ix (.var 0) (.int 0))) (.cons (.ite (.cmp .eq (.call "row_in" (.cons (.var 3) (.cons (.var 1) (.cons (.var 4) .nil)))) (.var 2)) (.cons (.ret (.var 4)) .nil) .nil) .nil) [4]) (.cons (.rais "NoPlace") .nil))⟩
def f__law_marks : Fn := ⟨2, ["_law_web_here", "_law_cell_here", "_law_place_here"], .cons (.ret (.bi .tuple (.cons (.comp (.n 2) [("_law_place_here", 2)] (.rng1 (.ix (.var 0) (.int 0))) (.so (.cmp .eq (.call "_law_mix" (.cons (.bin .add (.var 1) (.bin .mul (.int 3) (.var 2))) (.cons (.int 9923) (.cons (.int 3) .nil)))) (.int 0))) (.var 2)) .nil))) .nil⟩
def f__law_row : Fn := ⟨3, ["_law_far_here", "_law_marks_here", "_law_place_here", "_law_mark"], .cons (.ret (.bi .tuple (.cons (.comp (.n 3) [("_law_mark", 3)] (.seq (.var 1)) .no (.ix (.ix (.var 0) (.var 3)) (.var 2))) .nil))) .nil⟩
def f__law_blurred : Fn := ⟨2, ["_law_far_here", "_law_marks_here", "_law_found", "_law_other", "_law_one"], .cons (.set 2 true (.lst .nil)) (.cons (.for_ (.n 3) (.rng1 (.bi .len (.cons (.var 0) .nil))) (.cons (.for_ (.n 4) (.rng1 (.var 3)) (.cons (.ite (.cmp .eq (.call "_law_row" (.cons (.var 0) (.cons (.var 1) (.cons (.var 4) .nil)))) (.call "_law_row" (.cons (.var 0) (.cons (.var 1) (.cons (.var 3) .nil))))) (.cons (.app 2 false (.tup (.cons (.var 4) (.cons (.var 3) .nil)))) .nil) .nil) .nil) [4]) .nil) [3, 4]) (.frz 2 (.cons (.ret (.bi .sorted (.cons (.var 2) .nil))) .nil)))⟩
def f__law_sets : Fn := ⟨1, ["_law_many", "_law_found", "_law_number", "_law_size", "_law_some", "_law_place_here"], .cons (.set 1 true (.lst .nil)) (.cons (.for_ (.n 2) (.rng1 (.bin .shl (.int 1) (.var 0))) (.cons (.app 1 false (.bi .tuple (.cons (.comp (.n 5) [("_law_place_here", 5)] (.rng1 (.var 0)) (.so (.cmp .eq (.bin .band (.bin .shr (.var 2) (.var 5)) (.int 1)) (.int 1))) (.var 5)) .nil))) .nil) [2]) (.frz 1 (.cons (.ret (.comp (.cons (.n 3) (.cons (.n 4) .nil)) [("_law_size", 3), ("_law_some", 4)] (.seq (.bi .sorted (.cons (.comp (.n 4) [("_law_some", 4)] (.seq (.var 1)) .no (.tup (.cons (.bi .len (.cons (.var 4) .nil)) (.cons (.var 4) .nil)))) .nil))) .no (.var 4))) .nil)))⟩
def f_are_twins : Fn := ⟨3, ["web", "one", "other", "mine", "place"], .cons (.set 3 false (.comp (.n 4) [("place", 4)] (.seq (.call "neighbours" (.cons (.var 0) (.cons (.var 1) .nil)))) (.so (.cmp .ne (.var 4) (.var 2))) (.var 4))) (.cons (.ret (.cmp .eq (.var 3) (.comp (.n 4) [("place", 4)] (.seq (.call "neighbours" (.cons (.var 0) (.cons (.var 2) .nil)))) (.so (.cmp .ne (.var 4) (.var 1))) (.var 4)))) .nil)⟩
def f_twins : Fn := ⟨1, ["web", "found", "one", "row", "other"], .cons (.set 1 true (.lst .nil)) (.cons (.for_ (.n 2) (.rng1 (.ix (.var 0) (.int 0))) (.cons (.set 3 false (.bi .tuple (.cons (.comp (.n 4) [("other", 4)] (.rng1 (.ix (.var 0) (.int 0))) (.so (.or (.cmp .eq (.var 4) (.var 2)) (.call "are_twins" (.cons (.var 0) (.cons (.var 2) (.cons (.var 4) .nil)))))) (.var 4)) .nil))) (.cons (.ite (.and (.cmp .gt (.bi .len (.cons (.var 3) .nil)) (.int 1)) (.cmp .eq (.ix (.var 3) (.int 0)) (.var 2))) (.cons (.app 1 false (.var 3)) .nil) .nil) .nil)) [2, 3]) (.frz 1 (.cons (.ret (.bi .tuple (.cons (.var 1) .nil))) .nil)))⟩
def f_enough : Fn := ⟨2, ["web", "many"], .cons (.ret (.cmp .le (.bi .len (.cons (.call "least_marks" (.cons (.var 0) .nil)) .nil)) (.var 1))) .nil⟩
def f_parted_by : Fn := ⟨3, ["steps", "one", "other", "place", "row"], .cons (.ret (.comp (.cons (.n 3) (.cons (.n 4) .nil)) [("place", 3), ("row", 4)] (.enum (.var 0)) (.so (.cmp .ne (.ix (.var 4) (.var 1)) (.ix (.var 4) (.var 2)))) (.var 3))) .nil⟩
def f_grown : Fn := ⟨3, ["steps", "chosen", "left", "some", "sizes", "one", "other", "found", "place", "paper"], .cons (.set 3 false (.call "blurred_in" (.cons (.var 0) (.cons (.var 1) .nil)))) (.cons (.ite (.not (.var 3)) (.cons (.ret .non) .nil) .nil) (.cons (.ite (.cmp .eq (.var 2) (.int 0)) (.cons (.ret (.ix (.var 3) (.int 0))) .nil) .nil) (.cons (.set 4 false (.comp (.cons (.n 5) (.cons (.n 6) .nil)) [("one", 5), ("other", 6)] (.seq (.var 3)) .no (.bi .len (.cons (.call "parted_by" (.cons (.var 0) (.cons (.var 5) (.cons (.var 6) .nil)))) .nil)))) (.cons (.setT (.cons (.n 5) (.cons (.n 6) .nil)) (.ix (.var 3) (.idx 4 (.bi .min1 (.cons (.var 4) .nil))))) (.cons (.set 7 true (.lst .nil)) (.cons (.for_ (.n 8) (.seq (.call "parted_by" (.cons (.var 0) (.cons (.var 5) (.cons (.var 6) .nil))))) (.cons (.set 9 false (.call "grown" (.cons (.var 0) (.cons (.bin .add (.var 1) (.tup (.cons (.var 8) .nil))) (.cons (.bin .sub (.var 2) (.int 1)) .nil))))) (.cons (.ite (.isN false (.var 9)) (.cons (.ret .non) .nil) .nil) (.cons (.app 7 false (.var 9)) .nil))) [8, 9]) (.frz 7 (.cons (.ret (.tup (.cons (.var 5) (.cons (.var 6) (.cons (.bi .tuple (.cons (.var 7) .nil)) .nil))))) .nil))))))))⟩
def f_paper_against : Fn := ⟨2, ["web", "many"], .cons (.ret (.call "grown" (.cons (.call "all_steps" (.cons (.var 0) .nil)) (.cons (.tup .nil) (.cons (.var 1) .nil))))) .nil⟩
def f_fits : Fn := ⟨4, ["steps", "chosen", "left", "thing", "size", "one", "other", "places", "place", "part"], .cons (.set 4 false (.bin .sub (.int 3) (.bi .int (.cons (.cmp .eq (.var 2) (.int 0)) .nil)))) (.cons (.ite (.or (.not (.isi (.var 3) .tuple)) (.cmp .ne (.bi .len (.cons (.var 3) .nil)) (.var 4))) (.cons (.ret (.bl false)) .nil) .nil) (.cons (.ite (.not (.bi .all (.cons (.comp (.n 8) [("place", 8)] (.seq (.sl (.var 3) .no (.so (.int 2)))) .no (.call "is_number" (.cons (.var 8) (.cons (.int 0) (.cons (.bin .sub (.bi .len (.cons (.var 0) .nil)) (.int 1)) .nil))))) .nil))) (.cons (.ret (.bl false)) .nil) .nil) (.cons (.setT (.cons (.n 5) (.cons (.n 6) .nil)) (.sl (.var 3) .no (.so (.int 2)))) (.cons (.ite (.cmp .nin (.tup (.cons (.var 5) (.cons (.var 6) .nil))) (.call "blurred_in" (.cons (.var 0) (.cons (.var 1) .nil)))) (.cons (.ret (.bl false)) .nil) .nil) (.cons (.ite (.cmp .eq (.var 2) (.int 0)) (.cons (.ret (.bl true)) .nil) .nil) (.cons (.set 7 false (.call "parted_by" (.cons (.var 0) (.cons (.var 5) (.cons (.var 6) .nil))))) (.cons (.ite (.or (.not (.isi (.ix (.var 3) (.int 2)) .tuple)) (.cmp .ne (.bi .len (.cons (.ix (.var 3) (.int 2)) .nil)) (.bi .len (.cons (.var 7) .nil)))) (.cons (.ret (.bl false)) .nil) .nil) (.cons (.ret (.bi .all (.cons (.comp (.cons (.n 8) (.cons (.n 9) .nil)) [("place", 8), ("part", 9)] (.zip (.var 7) (.ix (.var 3) (.int 2))) .no (.call "fits" (.cons (.var 0) (.cons (.bin .add (.var 1) (.tup (.cons (.var 8) .nil))) (.cons (.bin .sub (.var 2) (.int 1)) (.cons (.var 9) .nil)))))) .nil))) .nil))))))))⟩
def f_is_paper : Fn := ⟨3, ["web", "many", "thing"], .cons (.ret (.call "fits" (.cons (.call "all_steps" (.cons (.var 0) .nil)) (.cons (.tup .nil) (.cons (.var 1) (.cons (.var 2) .nil)))))) .nil⟩
def f_knot_of : Fn := ⟨2, ["web", "leaf", "before", "here", "after", "place"], .cons (.set 2 false (.var 1)) (.cons (.set 3 false (.ix (.call "neighbours" (.cons (.var 0) (.cons (.var 1) .nil))) (.int 0))) (.cons (.while_ (.cmp .eq (.bi .len (.cons (.call "neighbours" (.cons (.var 0) (.cons (.var 3) .nil))) .nil)) (.int 2)) (.cons (.set 4 false (.ix (.comp (.n 5) [("place", 5)] (.seq (.call "neighbours" (.cons (.var 0) (.cons (.var 3) .nil)))) (.so (.cmp .ne (.var 5) (.var 2))) (.var 5)) (.int 0))) (.cons (.set 2 false (.var 3)) (.cons (.set 3 false (.var 4)) .nil))) [4]) (.cons (.ret (.var 3)) .nil)))⟩
def f_tree_marks : Fn := ⟨1, ["web", "leaves", "knots", "found", "k", "leaf", "place"], .cons (.ite (.or (.cmp .lt (.ix (.var 0) (.int 0)) (.int 2)) (.cmp .ne (.bi .len (.cons (.ix (.var 0) (.int 1)) .nil)) (.bin .sub (.ix (.var 0) (.int 0)) (.int 1)))) (.cons (.rais "NoTree") .nil) .nil) (.cons (.set 1 false (.comp (.n 6) [("place", 6)] (.rng1 (.ix (.var 0) (.int 0))) (.so (.cmp .eq (.bi .len (.cons (.call "neighbours" (.cons (.var 0) (.cons (.var 6) .nil))) .nil)) (.int 1))) (.var 6))) (.cons (.ite (.not (.comp (.n 6) [("place", 6)] (.rng1 (.ix (.var 0) (.int 0))) (.so (.cmp .gt (.bi .len (.cons (.call "neighbours" (.cons (.var 0) (.cons (.var 6) .nil))) .nil)) (.int 2))) (.var 6))) (.cons (.ret (.tup (.cons (.ix (.var 1) (.int 0)) .nil))) .nil) .nil) (.cons (.set 2 false (.comp (.n 5) [("leaf", 5)] (.seq (.var 1)) .no (.call "knot_of" (.cons (.var 0) (.cons (.var 5) .nil))))) (.cons (.set 3 true (.lst .nil)) (.cons (.for_ (.cons (.n 4) (.cons (.n 5) .nil)) (.enum (.var 1)) (.cons (.ite (.cmp .in_ (.ix (.var 2) (.var 4)) (.sl (.var 2) (.so (.bin .add (.var 4) (.int 1))) .no)) (.cons (.app 3 false (.var 5)) .nil) .nil) .nil) [4, 5]) (.frz 3 (.cons (.ret (.bi .tuple (.cons (.var 3) .nil))) .nil)))))))⟩
def f__law_tree : Fn := ⟨1, ["_law_cell_here", "_law_many", "_law_ties", "_law_place", "_law_back", "_law_names", "_law_one", "_law_other"], .cons (.set 1 false (.bin .add (.int 2) (.call "_law_mix" (.cons (.var 0) (.cons (.int 9973) (.cons (.int 7) .nil)))))) (.cons (.set 2 true (.lst .nil)) (.cons (.for_ (.n 3) (.rng2 (.int 1) (.var 1)) (.cons (.set 4 false (.ix (.lst (.cons (.call "_law_mix" (.cons (.bin .add (.var 0) (.bin .mul (.int 7) (.var 3))) (.cons (.int 9967) (.cons (.var 3) .nil)))) (.cons (.bin .sub (.var 3) (.int 1)) .nil))) (.bi .int (.cons (.cmp .eq (.call "_law_mix" (.cons (.bin .add (.var 0) (.var 3)) (.cons (.int 9887) (.cons (.int 2) .nil)))) (.int 0)) .nil)))) (.cons (.app 2 false (.tup (.cons (.var 4) (.cons (.var 3) .nil)))) .nil)) [3, 4]) (.frz 2 (.cons (.set 5 false (.call "_law_perm" (.cons (.var 0) (.cons (.var 1) .nil)))) (.cons (.ret (.tup (.cons (.var 1) (.cons (.bi .tuple (.cons (.bi .sorted (.cons (.comp (.cons (.n 6) (.cons (.n 7) .nil)) [("_law_one", 6), ("_law_other", 7)] (.seq (.var 2)) .no (.bi .tuple (.cons (.bi .sorted (.cons (.lst (.cons (.ix (.var 5) (.var 6)) (.cons (.ix (.var 5) (.var 7)) .nil))) .nil)) .nil))) .nil)) .nil)) .nil)))) .nil)))))⟩
def f__law_near : Fn := ⟨2, ["_law_web_here", "_law_place", "_law_tie"], .cons (.ret (.comp (.n 2) [("_law_tie", 2)] (.seq (.ix (.var 0) (.int 1))) (.so (.cmp .in_ (.var 1) (.var 2))) (.bin .sub (.bi .sum (.cons (.var 2) .nil)) (.var 1)))) .nil⟩
def f_are_firm_in : Fn := ⟨2, ["steps", "marks", "rows", "k", "row"], .cons (.set 2 false (.bin .add (.lst (.cons (.var 1) .nil)) (.comp (.n 3) [("k", 3)] (.rng1 (.bi .len (.cons (.var 1) .nil))) .no (.bin .add (.sl (.var 1) .no (.so (.var 3))) (.sl (.var 1) (.so (.bin .add (.var 3) (.int 1))) .no))))) (.cons (.ret (.bi .all (.cons (.comp (.n 4) [("row", 4)] (.seq (.var 2)) .no (.not (.call "blurred_in" (.cons (.var 0) (.cons (.var 4) .nil))))) .nil))) .nil)⟩
def f_are_firm : Fn := ⟨2, ["web", "marks"], .cons (.ret (.call "are_firm_in" (.cons (.call "all_steps" (.cons (.var 0) .nil)) (.cons (.var 1) .nil)))) .nil⟩
def f_least_firm : Fn := ⟨1, ["web", "steps", "marks"], .cons (.set 1 false (.call "all_steps" (.cons (.var 0) .nil))) (.cons (.for_ (.n 2) (.seq (.call "all_marks" (.cons (.ix (.var 0) (.int 0)) .nil))) (.cons (.ite (.call "are_firm_in" (.cons (.var 1) (.cons (.var 2) .nil))) (.cons (.ret (.var 2)) .nil) .nil) .nil) [2]) (.cons (.ret .non) .nil))⟩
def f__law_firm : Fn := ⟨2, ["_law_far_here", "_law_marks_here", "_law_mark", "_law_place"], .cons (.ite (.call "_law_blurred" (.cons (.var 0) (.cons (.var 1) .nil))) (.cons (.ret (.bl false)) .nil) .nil) (.cons (.for_ (.n 2) (.seq (.var 1)) (.cons (.ite (.call "_law_blurred" (.cons (.var 0) (.cons (.bi .tuple (.cons (.comp (.n 3) [("_law_place", 3)] (.seq (.var 1)) (.so (.cmp .ne (.var 3) (.var 2))) (.var 3)) .nil)) .nil))) (.cons (.ret (.bl false)) .nil) .nil) .nil) [2]) (.cons (.ret (.bl true)) .nil))⟩
def f_unlike : Fn := ⟨2, ["row", "reading", "one", "other"], .cons (.ret (.bi .len (.cons (.comp (.cons (.n 2) (.cons (.n 3) .nil)) [("one", 2), ("other", 3)] (.zip (.var 0) (.var 1)) (.so (.and (.isN true (.var 3)) (.cmp .ne (.var 2) (.var 3)))) (.int 1)) .nil))) .nil⟩
def f_places_by : Fn := ⟨4, ["web", "marks", "reading", "wrong", "steps", "place"], .cons (.set 4 false (.call "all_steps" (.cons (.var 0) .nil))) (.cons (.ret (.bi .tuple (.cons (.comp (.n 5) [("place", 5)] (.rng1 (.ix (.var 0) (.int 0))) (.so (.cmp .le (.call "unlike" (.cons (.call "row_in" (.cons (.var 4) (.cons (.var 1) (.cons (.var 5) .nil)))) (.cons (.var 2) .nil))) (.var 3))) (.var 5)) .nil))) .nil)⟩
def f_are_sure_in : Fn := ⟨3, ["steps", "marks", "wrong", "rows", "k", "row", "place", "other"], .cons (.set 3 false (.comp (.n 6) [("place", 6)] (.rng1 (.bi .len (.cons (.var 0) .nil))) .no (.call "row_in" (.cons (.var 0) (.cons (.var 1) (.cons (.var 6) .nil)))))) (.cons (.for_ (.cons (.n 4) (.cons (.n 5) .nil)) (.enum (.var 3)) (.cons (.ite (.bi .any (.cons (.comp (.n 7) [("other", 7)] (.seq (.sl (.var 3) .no (.so (.var 4)))) .no (.cmp .le (.call "unlike" (.cons (.var 5) (.cons (.var 7) .nil))) (.bin .mul (.int 2) (.var 2)))) .nil)) (.cons (.ret (.bl false)) .nil) .nil) .nil) [4, 5]) (.cons (.ret (.bl true)) .nil))⟩
def f_are_sure : Fn := ⟨3, ["web", "marks", "wrong"], .cons (.ret (.call "are_sure_in" (.cons (.call "all_steps" (.cons (.var 0) .nil)) (.cons (.var 1) (.cons (.var 2) .nil))))) .nil⟩
def f_least_sure : Fn := ⟨2, ["web", "wrong", "steps", "marks"], .cons (.set 2 false (.call "all_steps" (.cons (.var 0) .nil))) (.cons (.for_ (.n 3) (.seq (.call "all_marks" (.cons (.ix (.var 0) (.int 0)) .nil))) (.cons (.ite (.call "are_sure_in" (.cons (.var 2) (.cons (.var 3) (.cons (.var 1) .nil)))) (.cons (.ret (.var 3)) .nil) .nil) .nil) [3]) (.cons (.ret .non) .nil))⟩
def f__law_places : Fn := ⟨4, ["_law_far_here", "_law_marks_here", "_law_reading", "_law_wrong", "_law_found", "_law_place", "_law_row_here", "_law_k"], .cons (.set 4 true (.lst .nil)) (.cons (.for_ (.n 5) (.rng1 (.bi .len (.cons (.var 0) .nil))) (.cons (.set 6 false (.call "_law_row" (.cons (.var 0) (.cons (.var 1) (.cons (.var 5) .nil))))) (.cons (.ite (.cmp .le (.bi .len (.cons (.comp (.n 7) [("_law_k", 7)] (.rng1 (.bi .len (.cons (.var 1) .nil))) (.so (.and (.isN true (.ix (.var 2) (.var 7))) (.cmp .ne (.ix (.var 2) (.var 7)) (.ix (.var 6) (.var 7))))) (.var 7)) .nil)) (.var 3)) (.cons (.app 4 false (.var 5)) .nil) .nil) .nil)) [5, 6]) (.frz 4 (.cons (.ret (.var 4)) .nil)))⟩
def f__law_sure : Fn := ⟨3, ["_law_far_here", "_law_marks_here", "_law_wrong", "_law_other", "_law_one", "_law_some", "_law_mark"], .cons (.for_ (.n 3) (.rng1 (.bi .len (.cons (.var 0) .nil))) (.cons (.for_ (.n 4) (.rng1 (.var 3)) (.cons (.set 5 false (.comp (.n 6) [("_law_mark", 6)] (.seq (.var 1)) (.so (.cmp .ne (.ix (.ix (.var 0) (.var 6)) (.var 4)) (.ix (.ix (.var 0) (.var 6)) (.var 3)))) (.var 6))) (.cons (.ite (.cmp .le (.bi .len (.cons (.var 5) .nil)) (.bin .mul (.int 2) (.var 2))) (.cons (.ret (.bl false)) .nil) .nil) .nil)) [4, 5]) .nil) [3, 4, 5]) (.cons (.ret (.bl true)) .nil)⟩
def f__law_between : Fn := ⟨5, ["_law_far_here", "_law_marks_here", "_law_one", "_law_other", "_law_wrong", "_law_mine", "_law_yours", "_law_found", "_law_left", "_law_k"], .cons (.set 5 false (.call "_law_row" (.cons (.var 0) (.cons (.var 1) (.cons (.var 2) .nil))))) (.cons (.set 6 false (.call "_law_row" (.cons (.var 0) (.cons (.var 1) (.cons (.var 3) .nil))))) (.cons (.set 7 true (.bi .list (.cons (.var 5) .nil))) (.cons (.set 8 false (.var 4)) (.cons (.for_ (.n 9) (.rng1 (.bi .len (.cons (.var 1) .nil))) (.cons (.ite (.and (.cmp .ne (.ix (.var 5) (.var 9)) (.ix (.var 6) (.var 9))) (.cmp .gt (.var 8) (.int 0))) (.cons (.setI 7 (.var 9) (.ix (.var 6) (.var 9))) (.cons (.set 8 false (.bin .sub (.var 8) (.int 1))) .nil)) .nil) .nil) [9]) (.frz 7 (.cons (.ret (.bi .tuple (.cons (.var 7) .nil))) .nil))))))⟩
def f_is_pair : Fn := ⟨1, ["thing"], .cons (.ret (.and (.isi (.var 0) .tuple) (.cmp .eq (.bi .len (.cons (.var 0) .nil)) (.int 2)))) .nil⟩
def f__law_least : Fn := ⟨3, ["_law_far_here", "_law_known", "_law_possible", "_law_best", "_law_place", "_law_some", "_law_step", "_law_group"], .cons (.ite (.cmp .lt (.bi .len (.cons (.var 2) .nil)) (.int 2)) (.cons (.ret (.int 0)) .nil) .nil) (.cons (.ite (.cmp .nin (.var 2) (.var 1)) (.cons (.set 3 false (.bi .len (.cons (.var 2) .nil))) (.cons (.for_ (.n 4) (.rng1 (.bi .len (.cons (.var 0) .nil))) (.cons (.set 5 false (.call "_law_groups" (.cons (.var 0) (.cons (.var 2) (.cons (.var 4) .nil))))) (.cons (.ite (.cmp .gt (.bi .len (.cons (.var 5) .nil)) (.int 1)) (.cons (.set 3 false (.bi .min2 (.cons (.var 3) (.cons (.bin .add (.int 1) (.bi .max1 (.cons (.comp (.cons (.n 6) (.cons (.n 7) .nil)) [("_law_step", 6), ("_law_group", 7)] (.seq (.var 5)) .no (.call "_law_least" (.cons (.var 0) (.cons (.var 1) (.cons (.var 7) .nil))))) .nil))) .nil)))) .nil) .nil) .nil)) [4, 5]) (.cons (.setI 1 (.var 2) (.var 3)) .nil))) .nil) (.cons (.ret (.ix (.var 1) (.var 2))) .nil))⟩
def f__wall : Fn := ⟨1, ["k"], .cons (.while_ (.bl true) (.cons .pass .nil) []) .nil⟩
def f_renamed : Fn := ⟨2, ["web", "names", "one", "other"], .cons (.ret (.tup (.cons (.ix (.var 0) (.int 0)) (.cons (.bi .tuple (.cons (.bi .sorted (.cons (.comp (.cons (.n 2) (.cons (.n 3) .nil)) [("one", 2), ("other", 3)] (.seq (.ix (.var 0) (.int 1))) .no (.bi .tuple (.cons (.bi .sorted (.cons (.lst (.cons (.ix (.var 1) (.var 2)) (.cons (.ix (.var 1) (.var 3)) .nil))) .nil)) .nil))) .nil)) .nil)) .nil)))) .nil⟩
def f_with_leaf : Fn := ⟨2, ["web", "place"], .cons (.ret (.tup (.cons (.bin .add (.ix (.var 0) (.int 0)) (.int 1)) (.cons (.bi .tuple (.cons (.bi .sorted (.cons (.bin .add (.ix (.var 0) (.int 1)) (.tup (.cons (.tup (.cons (.var 1) (.cons (.ix (.var 0) (.int 0)) .nil))) .nil))) .nil)) .nil)) .nil)))) .nil⟩
def f__law_fields : Fn := ⟨2, ["_law_wide", "_law_high", "_law_found", "_law_one", "_law_other", "_law_across", "_law_down"], .cons (.set 2 true (.lst .nil)) (.cons (.for_ (.n 3) (.rng1 (.bin .mul (.var 0) (.var 1))) (.cons (.for_ (.n 4) (.rng1 (.var 3)) (.cons (.set 5 false (.bi .abs (.cons (.bin .sub (.bin .mod (.var 3) (.var 0)) (.bin .mod (.var 4) (.var 0))) .nil))) (.cons (.set 6 false (.bi .abs (.cons (.bin .sub (.bin .fdiv (.var 3) (.var 0)) (.bin .fdiv (.var 4) (.var 0))) .nil))) (.cons (.ite (.cmp .eq (.bin .add (.var 5) (.var 6)) (.int 1)) (.cons (.app 2 false (.tup (.cons (.var 4) (.cons (.var 3) .nil)))) .nil) .nil) .nil))) [4, 5, 6]) .nil) [3, 4, 5, 6]) (.frz 2 (.cons (.ret (.tup (.cons (.bin .mul (.var 0) (.var 1)) (.cons (.bi .tuple (.cons (.bi .sorted (.cons (.var 2) .nil)) .nil)) .nil)))) .nil)))⟩
def f__law_plain_right : Fn := ⟨1, ["_law_many", "_law_ties", "_law_every", "_law_k", "_law_web_here", "_law_n"], .cons (.set 1 false (.comp (.n 3) [("_law_k", 3)] (.rng1 (.bin .sub (.var 0) (.int 1))) .no (.tup (.cons (.var 3) (.cons (.bin .add (.var 3) (.int 1)) .nil))))) (.cons (.set 2 true (.lst .nil)) (.cons (.for_ (.n 3) (.rng1 (.var 0)) (.cons (.ext 2 (.comp (.n 5) [("_law_n", 5)] (.rng1 (.var 3)) .no (.tup (.cons (.var 5) (.cons (.var 3) .nil))))) .nil) [3]) (.frz 2 (.cons (.ite (.or (.cmp .ne (.call "line" (.cons (.var 0) .nil)) (.tup (.cons (.var 0) (.cons (.bi .tuple (.cons (.var 1) .nil)) .nil)))) (.cmp .ne (.call "full" (.cons (.var 0) .nil)) (.tup (.cons (.var 0) (.cons (.bi .tuple (.cons (.bi .sorted (.cons (.var 2) .nil)) .nil)) .nil))))) (.cons (.ret (.bl false)) .nil) .nil) (.cons (.ite (.cmp .ne (.call "star" (.cons (.var 0) .nil)) (.tup (.cons (.var 0) (.cons (.bi .tuple (.cons (.comp (.n 3) [("_law_k", 3)] (.rng2 (.int 1) (.var 0)) .no (.tup (.cons (.int 0) (.cons (.var 3) .nil)))) .nil)) .nil)))) (.cons (.ret (.bl false)) .nil) .nil) (.cons (.ite (.or (.cmp .ne (.bi .len (.cons (.call "least_marks" (.cons (.call "line" (.cons (.var 0) .nil)) .nil)) .nil)) (.int 1)) (.cmp .ne (.bi .len (.cons (.call "least_marks" (.cons (.call "full" (.cons (.var 0) .nil)) .nil)) .nil)) (.bin .sub (.var 0) (.int 1)))) (.cons (.ret (.bl false)) .nil) .nil) (.cons (.ite (.cmp .gt (.var 0) (.int 2)) (.cons (.set 4 false (.call "round_web" (.cons (.var 0) .nil))) (.cons (.ite (.or (.cmp .ne (.var 4) (.tup (.cons (.var 0) (.cons (.bi .tuple (.cons (.bi .sorted (.cons (.bin .add (.var 1) (.lst (.cons (.tup (.cons (.int 0) (.cons (.bin .sub (.var 0) (.int 1)) .nil))) .nil))) .nil)) .nil)) .nil)))) (.cmp .ne (.bi .len (.cons (.call "least_marks" (.cons (.var 4) .nil)) .nil)) (.int 2))) (.cons (.ret (.bl false)) .nil) .nil) .nil)) .nil) (.cons (.ret (.or (.cmp .lt (.var 0) (.int 4)) (.cmp .eq (.bi .len (.cons (.call "least_marks" (.cons (.call "star" (.cons (.var 0) .nil)) .nil)) .nil)) (.bin .sub (.var 0) (.int 2))))) .nil))))))))⟩
def f__law_is_near : Fn := ⟨3, ["_law_web_here", "_law_far", "_law_one", "_law_other", "_law_place"], .cons (.ite (.cmp .ne (.call "neighbours" (.cons (.var 0) (.cons (.var 2) .nil))) (.bi .tuple (.cons (.comp (.n 4) [("_law_place", 4)] (.rng1 (.ix (.var 0) (.int 0))) (.so (.cmp .eq (.ix (.ix (.var 1) (.var 2)) (.var 4)) (.int 1))) (.var 4)) .nil))) (.cons (.ret (.bl false)) .nil) .nil) (.cons (.for_ (.n 3) (.seq (.call "neighbours" (.cons (.var 0) (.cons (.var 2) .nil)))) (.cons (.ite (.cmp .ne (.comp (.n 4) [("_law_place", 4)] (.rng1 (.ix (.var 0) (.int 0))) (.so (.cmp .gt (.bi .abs (.cons (.bin .sub (.ix (.ix (.var 1) (.var 4)) (.var 2)) (.ix (.ix (.var 1) (.var 4)) (.var 3))) .nil)) (.int 1))) (.int 1)) (.lst .nil)) (.cons (.ret (.bl false)) .nil) .nil) .nil) [3]) (.cons (.ret (.bl true)) .nil))⟩
def f__law_fewest : Fn := ⟨2, ["_law_web_here", "_law_marks", "_law_found", "_law_one", "_law_other", "_law_some_here", "_law_mark"], .cons (.set 2 true (.lst .nil)) (.cons (.for_ (.n 3) (.rng1 (.ix (.var 0) (.int 0))) (.cons (.for_ (.n 4) (.rng1 (.var 3)) (.cons (.set 5 false (.call "parters" (.cons (.var 0) (.cons (.var 3) (.cons (.var 4) .nil))))) (.cons (.app 2 false (.bi .len (.cons (.comp (.n 6) [("_law_mark", 6)] (.seq (.var 1)) (.so (.cmp .in_ (.var 6) (.var 5))) (.var 6)) .nil))) .nil)) [4, 5]) .nil) [3, 4, 5]) (.frz 2 (.cons (.ret (.bi .min1 (.cons (.var 2) .nil))) .nil)))⟩
def f__law_led : Fn := ⟨3, ["_law_web_here", "_law_plan", "_law_place", "_law_asked", "_law_answer", "_law_far", "_law_part"], .cons (.set 3 false (.int 0)) (.cons (.while_ (.cmp .eq (.ix (.var 1) (.int 0)) (.str "ask")) (.cons (.set 4 false (.call "how_far" (.cons (.var 0) (.cons (.ix (.var 1) (.int 1)) (.cons (.var 2) .nil))))) (.cons (.set 1 false (.ix (.comp (.cons (.n 5) (.cons (.n 6) .nil)) [("_law_far", 5), ("_law_part", 6)] (.seq (.ix (.var 1) (.int 2))) (.so (.cmp .eq (.var 5) (.var 4))) (.var 6)) (.int 0))) (.cons (.set 3 false (.bin .add (.var 3) (.int 1))) .nil))) [4]) (.cons (.ret (.tup (.cons (.var 3) (.cons (.ix (.var 1) (.int 1)) .nil)))) .nil))⟩
def f__law_is_field : Fn := ⟨2, ["_law_wide", "_law_high", "_law_due", "_law_one", "_law_down", "_law_field", "_law_other"], .cons (.set 2 true (.lst .nil)) (.cons (.for_ (.n 3) (.rng1 (.bin .mul (.var 0) (.var 1))) (.cons (.set 4 false (.comp (.n 6) [("_law_other", 6)] (.rng1 (.bin .mul (.var 0) (.var 1))) .no (.bi .abs (.cons (.bin .sub (.bin .fdiv (.var 3) (.var 0)) (.bin .fdiv (.var 6) (.var 0))) .nil)))) (.cons (.app 2 false (.comp (.n 6) [("_law_other", 6)] (.rng1 (.bin .mul (.var 0) (.var 1))) .no (.bin .add (.ix (.var 4) (.var 6)) (.bi .abs (.cons (.bin .sub (.bin .mod (.var 3) (.var 0)) (.bin .mod (.var 6) (.var 0))) .nil))))) .nil)) [3, 4]) (.frz 2 (.cons (.set 5 false (.call "field_web" (.cons (.var 0) (.cons (.var 1) .nil)))) (.cons (.ite (.or (.not (.call "_law_are_far" (.cons (.var 5) (.cons (.var 2) .nil)))) (.cmp .ne (.bi .len (.cons (.ix (.var 5) (.int 1)) .nil)) (.bin .add (.bin .mul (.var 0) (.bin .sub (.var 1) (.int 1))) (.bin .mul (.var 1) (.bin .sub (.var 0) (.int 1)))))) (.cons (.ret (.bl false)) .nil) .nil) (.cons (.ret (.or (.cmp .lt (.var 0) (.int 2)) (.or (.cmp .lt (.var 1) (.int 2)) (.cmp .eq (.call "least_marks" (.cons (.var 5) .nil)) (.tup (.cons (.int 0) (.cons (.bin .sub (.var 0) (.int 1)) .nil))))))) .nil)))))⟩
def f__law_have_marks : Fn := ⟨1, ["_law_many"], .cons (.ite (.or (.cmp .ne (.call "least_marks" (.cons (.call "line" (.cons (.var 0) .nil)) .nil)) (.tup (.cons (.int 0) .nil))) (.cmp .ne (.call "least_marks" (.cons (.call "round_web" (.cons (.var 0) .nil)) .nil)) (.tup (.cons (.int 0) (.cons (.int 1) .nil))))) (.cons (.ret (.bl false)) .nil) .nil) (.cons (.ite (.cmp .ne (.call "least_marks" (.cons (.call "full" (.cons (.var 0) .nil)) .nil)) (.rg1 true (.bin .sub (.var 0) (.int 1)))) (.cons (.ret (.bl false)) .nil) .nil) (.cons (.ret (.or (.cmp .lt (.var 0) (.int 4)) (.cmp .eq (.call "least_marks" (.cons (.call "star" (.cons (.var 0) .nil)) .nil)) (.rg2 true (.int 1) (.bin .sub (.var 0) (.int 1)))))) .nil))⟩
def f_tie_row_in : Fn := ⟨3, ["steps", "marks", "tie", "mark"], .cons (.ret (.bi .tuple (.cons (.comp (.n 3) [("mark", 3)] (.seq (.var 1)) .no (.bi .min2 (.cons (.ix (.ix (.var 0) (.var 3)) (.ix (.var 2) (.int 0))) (.cons (.ix (.ix (.var 0) (.var 3)) (.ix (.var 2) (.int 1))) .nil)))) .nil))) .nil⟩
def f_tie_row : Fn := ⟨3, ["web", "marks", "tie"], .cons (.ite (.cmp .nin (.var 2) (.ix (.var 0) (.int 1))) (.cons (.rais "NoTie") .nil) .nil) (.cons (.ret (.call "tie_row_in" (.cons (.call "all_steps" (.cons (.var 0) .nil)) (.cons (.var 1) (.cons (.var 2) .nil))))) .nil)⟩
def f_tie_blurred_in : Fn := ⟨3, ["steps", "ties", "marks", "found", "rows", "k", "one", "tie", "n"], .cons (.set 3 true (.lst .nil)) (.cons (.set 4 false (.comp (.n 7) [("tie", 7)] (.seq (.var 1)) .no (.call "tie_row_in" (.cons (.var 0) (.cons (.var 2) (.cons (.var 7) .nil)))))) (.cons (.for_ (.cons (.n 5) (.cons (.n 6) .nil)) (.enum (.var 1)) (.cons (.ext 3 (.comp (.n 8) [("n", 8)] (.rng2 (.bin .add (.var 5) (.int 1)) (.bi .len (.cons (.var 1) .nil))) (.so (.cmp .eq (.ix (.var 4) (.var 8)) (.ix (.var 4) (.var 5)))) (.tup (.cons (.var 6) (.cons (.ix (.var 1) (.var 8)) .nil))))) .nil) [5, 6]) (.frz 3 (.cons (.ret (.var 3)) .nil))))⟩
def f_tie_blurred : Fn := ⟨2, ["web", "marks"], .cons (.ret (.bi .tuple (.cons (.call "tie_blurred_in" (.cons (.call "all_steps" (.cons (.var 0) .nil)) (.cons (.ix (.var 0) (.int 1)) (.cons (.var 1) .nil)))) .nil))) .nil⟩
def f_tells_ties : Fn := ⟨2, ["web", "marks"], .cons (.ret (.cmp .eq (.call "tie_blurred" (.cons (.var 0) (.cons (.var 1) .nil))) (.tup .nil))) .nil⟩
def f__law_pairs : Fn := ⟨1, ["_law_some_here", "_law_found", "_law_k", "_law_one", "_law_other"], .cons (.set 1 true (.lst .nil)) (.cons (.for_ (.cons (.n 2) (.cons (.n 3) .nil)) (.enum (.var 0)) (.cons (.ext 1 (.comp (.n 4) [("_law_other", 4)] (.seq (.sl (.var 0) (.so (.bin .add (.var 2) (.int 1))) .no)) .no (.tup (.cons (.var 3) (.cons (.var 4) .nil))))) .nil) [2, 3]) (.frz 1 (.cons (.ret (.var 1)) .nil)))⟩
def f__law_tie_row : Fn := ⟨3, ["_law_far_here", "_law_marks", "_law_tie", "_law_mark"], .cons (.ret (.bi .tuple (.cons (.comp (.n 3) [("_law_mark", 3)] (.seq (.var 1)) .no (.bi .min2 (.cons (.ix (.ix (.var 0) (.var 3)) (.ix (.var 2) (.int 0))) (.cons (.ix (.ix (.var 0) (.var 3)) (.ix (.var 2) (.int 1))) .nil)))) .nil))) .nil⟩
def f_least_tie_marks : Fn := ⟨1, ["web", "steps", "marks"], .cons (.set 1 false (.call "all_steps" (.cons (.var 0) .nil))) (.cons (.for_ (.n 2) (.seq (.call "all_marks" (.cons (.ix (.var 0) (.int 0)) .nil))) (.cons (.ite (.not (.call "tie_blurred_in" (.cons (.var 1) (.cons (.ix (.var 0) (.int 1)) (.cons (.var 2) .nil))))) (.cons (.ret (.var 2)) .nil) .nil) .nil) [2]) (.cons (.ret .non) .nil))⟩
def f_does_part : Fn := ⟨4, ["steps", "place", "one", "other", "near"], .cons (.set 4 false (.bi .min2 (.cons (.ix (.ix (.var 0) (.var 1)) (.var 2)) (.cons (.ix (.ix (.var 0) (.var 1)) (.var 3)) .nil)))) (.cons (.ret (.cmp .eq (.bin .add (.var 4) (.ix (.ix (.var 0) (.var 2)) (.var 3))) (.bi .max2 (.cons (.ix (.ix (.var 0) (.var 1)) (.var 2)) (.cons (.ix (.ix (.var 0) (.var 1)) (.var 3)) .nil))))) .nil)⟩
def f_strong_parters : Fn := ⟨3, ["web", "one", "other", "steps", "place"], .cons (.set 3 false (.call "all_steps" (.cons (.var 0) .nil))) (.cons (.ret (.bi .tuple (.cons (.comp (.n 4) [("place", 4)] (.rng1 (.ix (.var 0) (.int 0))) (.so (.call "does_part" (.cons (.var 3) (.cons (.var 4) (.cons (.var 1) (.cons (.var 2) .nil)))))) (.var 4)) .nil))) .nil)⟩
def f_are_strong_in : Fn := ⟨2, ["steps", "marks", "one", "other", "mark"], .cons (.for_ (.n 2) (.rng1 (.bi .len (.cons (.var 0) .nil))) (.cons (.for_ (.n 3) (.rng1 (.var 2)) (.cons (.ite (.not (.bi .any (.cons (.comp (.n 4) [("mark", 4)] (.seq (.var 1)) .no (.call "does_part" (.cons (.var 0) (.cons (.var 4) (.cons (.var 2) (.cons (.var 3) .nil)))))) .nil))) (.cons (.ret (.bl false)) .nil) .nil) .nil) [3]) .nil) [2, 3]) (.cons (.ret (.bl true)) .nil)⟩
def f_are_strong : Fn := ⟨2, ["web", "marks"], .cons (.ret (.call "are_strong_in" (.cons (.call "all_steps" (.cons (.var 0) .nil)) (.cons (.var 1) .nil)))) .nil⟩
def f_least_strong : Fn := ⟨1, ["web", "steps", "marks"], .cons (.set 1 false (.call "all_steps" (.cons (.var 0) .nil))) (.cons (.for_ (.n 2) (.seq (.call "all_marks" (.cons (.ix (.var 0) (.int 0)) .nil))) (.cons (.ite (.call "are_strong_in" (.cons (.var 1) (.cons (.var 2) .nil))) (.cons (.ret (.var 2)) .nil) .nil) .nil) [2]) (.cons (.ret .non) .nil))⟩
def f_walked : Fn := ⟨2, ["steps", "places", "place", "one"], .cons (.ret (.bi .tuple (.cons (.comp (.n 2) [("place", 2)] (.rng1 (.bi .len (.cons (.var 0) .nil))) (.so (.bi .any (.cons (.comp (.n 3) [("one", 3)] (.seq (.var 1)) .no (.cmp .lt (.ix (.ix (.var 0) (.var 2)) (.var 3)) (.int 2))) .nil))) (.var 2)) .nil))) .nil⟩
def f_next_places : Fn := ⟨2, ["web", "places"], .cons (.ret (.call "walked" (.cons (.call "all_steps" (.cons (.var 0) .nil)) (.cons (.var 1) .nil)))) .nil⟩
def f_is_end : Fn := ⟨2, ["thing", "places"], .cons (.ret (.and (.cmp .eq (.bi .len (.cons (.var 0) .nil)) (.int 2)) (.and (.cmp .eq (.ix (.var 0) (.int 0)) (.str "at")) (.and (.call "is_number" (.cons (.ix (.var 0) (.int 1)) (.cons (.int 0) (.cons (.int 99) .nil)))) (.cmp .eq (.var 1) (.tup (.cons (.ix (.var 0) (.int 1)) .nil))))))) .nil⟩
def f_is_hunt_in : Fn := ⟨3, ["steps", "places", "thing", "some", "far", "group", "told", "hunt", "part"], .cons (.ite (.or (.not (.isi (.var 2) .tuple)) (.or (.cmp .nin (.bi .len (.cons (.var 2) .nil)) (.tup (.cons (.int 2) (.cons (.int 3) .nil)))) (.not (.isi (.ix (.var 2) (.int 0)) .str)))) (.cons (.ret (.bl false)) .nil) .nil) (.cons (.ite (.cmp .eq (.bi .len (.cons (.var 2) .nil)) (.int 2)) (.cons (.ret (.call "is_end" (.cons (.var 2) (.cons (.var 1) .nil)))) .nil) .nil) (.cons (.ite (.or (.cmp .ne (.ix (.var 2) (.int 0)) (.str "ask")) (.or (.not (.call "is_number" (.cons (.ix (.var 2) (.int 1)) (.cons (.int 0) (.cons (.bin .sub (.bi .len (.cons (.var 0) .nil)) (.int 1)) .nil))))) (.not (.isi (.ix (.var 2) (.int 2)) .tuple)))) (.cons (.ret (.bl false)) .nil) .nil) (.cons (.set 3 false (.call "groups_by" (.cons (.var 0) (.cons (.var 1) (.cons (.ix (.var 2) (.int 1)) .nil))))) (.cons (.ite (.or (.cmp .ne (.bi .len (.cons (.ix (.var 2) (.int 2)) .nil)) (.bi .len (.cons (.var 3) .nil))) (.not (.bi .all (.cons (.comp (.n 8) [("part", 8)] (.seq (.ix (.var 2) (.int 2))) .no (.call "is_pair" (.cons (.var 8) .nil))) .nil)))) (.cons (.ret (.bl false)) .nil) .nil) (.cons (.for_ (.cons (.cons (.n 4) (.cons (.n 5) .nil)) (.cons (.cons (.n 6) (.cons (.n 7) .nil)) .nil)) (.zip (.var 3) (.ix (.var 2) (.int 2))) (.cons (.ite (.or (.not (.call "is_number" (.cons (.var 6) (.cons (.int 0) (.cons (.bi .len (.cons (.var 0) .nil)) .nil))))) (.cmp .ne (.var 6) (.var 4))) (.cons (.ret (.bl false)) .nil) .nil) (.cons (.ite (.and (.cmp .eq (.bi .len (.cons (.var 5) .nil)) (.int 1)) (.not (.and (.isi (.var 7) .tuple) (.and (.cmp .eq (.bi .len (.cons (.var 7) .nil)) (.int 2)) (.call "is_end" (.cons (.var 7) (.cons (.var 5) .nil))))))) (.cons (.ret (.bl false)) .nil) .nil) (.cons (.ite (.and (.cmp .gt (.bi .len (.cons (.var 5) .nil)) (.int 1)) (.not (.call "is_hunt_in" (.cons (.var 0) (.cons (.call "walked" (.cons (.var 0) (.cons (.var 5) .nil))) (.cons (.var 7) .nil)))))) (.cons (.ret (.bl false)) .nil) .nil) .nil))) [4, 5, 6, 7]) (.cons (.ret (.bl true)) .nil))))))⟩
def f_is_hunt : Fn := ⟨2, ["web", "thing"], .cons (.ret (.call "is_hunt_in" (.cons (.call "all_steps" (.cons (.var 0) .nil)) (.cons (.rg1 true (.ix (.var 0) (.int 0))) (.cons (.var 1) .nil))))) .nil⟩
def f__law_walk : Fn := ⟨2, ["_law_far_here", "_law_places", "_law_place", "_law_one"], .cons (.ret (.bi .tuple (.cons (.comp (.n 2) [("_law_place", 2)] (.rng1 (.bi .len (.cons (.var 0) .nil))) (.so (.cmp .ne (.comp (.n 3) [("_law_one", 3)] (.seq (.var 1)) (.so (.cmp .lt (.ix (.ix (.var 0) (.var 2)) (.var 3)) (.int 2))) (.var 3)) (.lst .nil))) (.var 2)) .nil))) .nil⟩
def f__law_parted : Fn := ⟨3, ["_law_far_here", "_law_places", "_law_place", "_law_found", "_law_away", "_law_group", "_law_one"], .cons (.set 3 true (.lst .nil)) (.cons (.for_ (.n 4) (.rng1 (.bi .len (.cons (.var 0) .nil))) (.cons (.set 5 false (.bi .tuple (.cons (.comp (.n 6) [("_law_one", 6)] (.seq (.var 1)) (.so (.cmp .eq (.ix (.ix (.var 0) (.var 2)) (.var 6)) (.var 4))) (.var 6)) .nil))) (.cons (.ite (.cmp .ne (.var 5) (.tup .nil)) (.cons (.app 3 false (.tup (.cons (.var 4) (.cons (.var 5) .nil)))) .nil) .nil) .nil)) [4, 5]) (.frz 3 (.cons (.ret (.var 3)) .nil)))⟩
def f__law_is_hunt : Fn := ⟨3, ["_law_far_here", "_law_places", "_law_thing", "_law_some", "_law_away", "_law_group", "_law_pair"], .cons (.ite (.or (.not (.isi (.var 2) .tuple)) (.cmp .nin (.bi .len (.cons (.var 2) .nil)) (.tup (.cons (.int 2) (.cons (.int 3) .nil))))) (.cons (.ret (.bl false)) .nil) .nil) (.cons (.ite (.cmp .eq (.bi .len (.cons (.var 2) .nil)) (.int 2)) (.cons (.ret (.and (.cmp .eq (.var 2) (.tup (.cons (.str "at") (.cons (.ix (.var 1) (.int 0)) .nil)))) (.and (.cmp .eq (.bi .len (.cons (.var 1) .nil)) (.int 1)) (.not (.isi (.ix (.var 2) (.int 1)) .bool))))) .nil) .nil) (.cons (.ite (.or (.cmp .ne (.ix (.var 2) (.int 0)) (.str "ask")) (.or (.not (.isi (.ix (.var 2) (.int 1)) .int)) (.isi (.ix (.var 2) (.int 1)) .bool))) (.cons (.ret (.bl false)) .nil) .nil) (.cons (.ite (.or (.not (.cmp2 .le .lt (.int 0) (.ix (.var 2) (.int 1)) (.bi .len (.cons (.var 0) .nil)))) (.not (.isi (.ix (.var 2) (.int 2)) .tuple))) (.cons (.ret (.bl false)) .nil) .nil) (.cons (.set 3 false (.call "_law_parted" (.cons (.var 0) (.cons (.var 1) (.cons (.ix (.var 2) (.int 1)) .nil))))) (.cons (.ite (.cmp .ne (.bi .len (.cons (.var 3) .nil)) (.bi .len (.cons (.ix (.var 2) (.int 2)) .nil))) (.cons (.ret (.bl false)) .nil) .nil) (.cons (.for_ (.cons (.cons (.n 4) (.cons (.n 5) .nil)) (.cons (.n 6) .nil)) (.zip (.var 3) (.ix (.var 2) (.int 2))) (.cons (.ite (.or (.not (.isi (.var 6) .tuple)) (.or (.cmp .ne (.bi .len (.cons (.var 6) .nil)) (.int 2)) (.or (.isi (.ix (.var 6) (.int 0)) .bool) (.cmp .ne (.ix (.var 6) (.int 0)) (.var 4))))) (.cons (.ret (.bl false)) .nil) .nil) (.cons (.ite (.and (.cmp .eq (.bi .len (.cons (.var 5) .nil)) (.int 1)) (.or (.not (.isi (.ix (.var 6) (.int 1)) .tuple)) (.cmp .ne (.bi .len (.cons (.ix (.var 6) (.int 1)) .nil)) (.int 2)))) (.cons (.ret (.bl false)) .nil) .nil) (.cons (.ite (.not (.call "_law_is_hunt" (.cons (.var 0) (.cons (.ite (.cmp .eq (.bi .len (.cons (.var 5) .nil)) (.int 1)) (.var 5) (.call "_law_walk" (.cons (.var 0) (.cons (.var 5) .nil)))) (.cons (.ix (.var 6) (.int 1)) .nil))))) (.cons (.ret (.bl false)) .nil) .nil) .nil))) [4, 5, 6]) (.cons (.ret (.bl true)) .nil)))))))⟩
def f__law_can : Fn := ⟨4, ["_law_far_here", "_law_places", "_law_left", "_law_known", "_law_found", "_law_place", "_law_rest", "_law_away", "_law_group"], .cons (.ite (.cmp .eq (.bi .len (.cons (.var 1) .nil)) (.int 1)) (.cons (.ret (.bl true)) .nil) .nil) (.cons (.ite (.cmp .eq (.var 2) (.int 0)) (.cons (.ret (.bl false)) .nil) .nil) (.cons (.ite (.cmp .nin (.tup (.cons (.var 1) (.cons (.var 2) .nil))) (.var 3)) (.cons (.set 4 false (.bl false)) (.cons (.for_ (.n 5) (.rng1 (.bi .len (.cons (.var 0) .nil))) (.cons (.ite (.not (.var 4)) (.cons (.set 6 false (.comp (.cons (.n 7) (.cons (.n 8) .nil)) [("_law_away", 7), ("_law_group", 8)] (.seq (.call "_law_parted" (.cons (.var 0) (.cons (.var 1) (.cons (.var 5) .nil))))) (.so (.cmp .gt (.bi .len (.cons (.var 8) .nil)) (.int 1))) (.var 8))) (.cons (.set 4 false (.cmp .eq (.comp (.n 8) [("_law_group", 8)] (.seq (.var 6)) (.so (.not (.call "_law_can" (.cons (.var 0) (.cons (.call "_law_walk" (.cons (.var 0) (.cons (.var 8) .nil))) (.cons (.bin .sub (.var 2) (.int 1)) (.cons (.var 3) .nil))))))) (.int 1)) (.lst .nil))) .nil)) .nil) .nil) [5, 6]) (.cons (.setI 3 (.tup (.cons (.var 1) (.cons (.var 2) .nil))) (.var 4)) .nil))) .nil) (.cons (.ret (.ix (.var 3) (.tup (.cons (.var 1) (.cons (.var 2) .nil))))) .nil)))⟩
def f__law_found : Fn := ⟨4, ["_law_web_here", "_law_hunt", "_law_place", "_law_cell_here", "_law_asked", "_law_away", "_law_near", "_law_far", "_law_part"], .cons (.set 4 false (.int 0)) (.cons (.while_ (.cmp .eq (.ix (.var 1) (.int 0)) (.str "ask")) (.cons (.set 5 false (.call "how_far" (.cons (.var 0) (.cons (.ix (.var 1) (.int 1)) (.cons (.var 2) .nil))))) (.cons (.set 1 false (.ix (.comp (.cons (.n 7) (.cons (.n 8) .nil)) [("_law_far", 7), ("_law_part", 8)] (.seq (.ix (.var 1) (.int 2))) (.so (.cmp .eq (.var 7) (.var 5))) (.var 8)) (.int 0))) (.cons (.set 4 false (.bin .add (.var 4) (.int 1))) (.cons (.ite (.cmp .eq (.ix (.var 1) (.int 0)) (.str "ask")) (.cons (.set 6 false (.bin .add (.tup (.cons (.var 2) .nil)) (.call "neighbours" (.cons (.var 0) (.cons (.var 2) .nil))))) (.cons (.set 2 false (.ite (.cmp .gt (.var 3) (.int 0)) (.ix (.var 6) (.call "_law_mix" (.cons (.bin .add (.var 3) (.bin .mul (.int 13) (.var 4))) (.cons (.int 9391) (.cons (.bi .len (.cons (.var 6) .nil)) .nil))))) (.var 2))) .nil)) .nil) .nil)))) [5, 6]) (.cons (.ret (.tup (.cons (.var 4) (.cons (.cmp .eq (.ix (.var 1) (.int 1)) (.var 2)) .nil)))) .nil))⟩
def f__law_drawn : Fn := ⟨4, ["_law_far_here", "_law_places", "_law_cell_here", "_law_left", "_law_place", "_law_parts", "_law_away", "_law_group"], .cons (.ite (.or (.cmp .eq (.bi .len (.cons (.var 1) .nil)) (.int 1)) (.cmp .eq (.var 3) (.int 0))) (.cons (.ret (.tup (.cons (.str "at") (.cons (.ix (.var 1) (.int 0)) .nil)))) .nil) .nil) (.cons (.set 4 false (.call "_law_mix" (.cons (.bin .add (.var 2) (.bin .mul (.int 7) (.var 3))) (.cons (.int 9371) (.cons (.bi .len (.cons (.var 0) .nil)) .nil))))) (.cons (.set 5 true (.lst .nil)) (.cons (.for_ (.cons (.n 6) (.cons (.n 7) .nil)) (.seq (.call "_law_parted" (.cons (.var 0) (.cons (.var 1) (.cons (.var 4) .nil))))) (.cons (.ite (.cmp .eq (.bi .len (.cons (.var 7) .nil)) (.int 1)) (.cons (.app 5 false (.tup (.cons (.var 6) (.cons (.tup (.cons (.str "at") (.cons (.ix (.var 7) (.int 0)) .nil))) .nil)))) .nil) (.cons (.app 5 false (.tup (.cons (.var 6) (.cons (.call "_law_drawn" (.cons (.var 0) (.cons (.call "_law_walk" (.cons (.var 0) (.cons (.var 7) .nil))) (.cons (.bin .add (.bin .add (.var 2) (.bin .mul (.int 3) (.var 6))) (.int 1)) (.cons (.bin .sub (.var 3) (.int 1)) .nil))))) .nil)))) .nil)) .nil) [6, 7]) (.frz 5 (.cons (.ret (.tup (.cons (.str "ask") (.cons (.var 4) (.cons (.bi .tuple (.cons (.var 5) .nil)) .nil))))) .nil)))))⟩
def f__law_deed : Fn := ⟨2, ["_law_cell_here", "_law_many", "_law_way"], .cons (.set 2 false (.call "_law_mix" (.cons (.var 0) (.cons (.int 9349) (.cons (.int 10) .nil))))) (.cons (.ite (.cmp .lt (.var 2) (.int 4)) (.cons (.ret (.tup (.cons (.str "ask") (.cons (.call "_law_mix" (.cons (.bin .add (.var 0) (.int 1)) (.cons (.int 9343) (.cons (.var 1) .nil)))) (.cons (.call "_law_mix" (.cons (.bin .add (.var 0) (.int 2)) (.cons (.int 9341) (.cons (.int 4) .nil)))) .nil))))) .nil) .nil) (.cons (.ret (.tup (.cons (.ix (.tup (.cons (.str "walk") (.cons (.str "walk") (.cons (.str "walk") (.cons (.str "back") (.cons (.str "back") (.cons (.str "forth") .nil))))))) (.bin .sub (.var 2) (.int 4))) .nil))) .nil))⟩
end Q

set_option Elab.async false
set_option linter.all false
set_option maxRecDepth 100000
set_option maxHeartbeats 1000000
/-! W2: the defs of every law, by what they come to over a good web. -/
namespace Q
open PySem
abbrev rT (w : Web) (a : Nat) : D := tupN ((List.range w.1).map (dis w a))
def dT (w : Web) : D := .list ((List.range w.1).map (rT w))
abbrev mR (w : Web) (a : Nat) : D := listN ((List.range w.1).map (dis w a))
theorem at_dT {w : Web} {a : Nat} (ha : a < w.1) : (O.fz (dT w)).at ((a : Nat) : Int) = .ok (.fz (rT w a)) := at_list (by rw [List.getElem?_map, List.getElem?_range ha]; rfl)
theorem at_rT {w : Web} {a b : Nat} (hb : b < w.1) : (O.fz (rT w a)).at ((b : Nat) : Int) = .ok (.fz (nD (dis w a b))) := at_tup (by rw [List.getElem?_map, List.getElem?_map, List.getElem?_range hb]; rfl)
theorem at_mD {w : Web} {a : Nat} (ha : a < w.1) : (O.fz (mxD w)).at ((a : Nat) : Int) = .ok (.fz (mR w a)) := at_list (by rw [List.getElem?_map, List.getElem?_range ha, Option.map_some]; unfold mR listN; rw [List.map_map]; rfl)
theorem at_mR {w : Web} {a b : Nat} (hb : b < w.1) : (O.fz (mR w a)).at ((b : Nat) : Int) = .ok (.fz (nD (dis w a b))) := at_list (by rw [List.getElem?_map, List.getElem?_map, List.getElem?_range hb]; rfl)
theorem at_nT {l : List Nat} {i : Nat} (h : i < l.length) : (O.fz (tupN l)).at ((i : Nat) : Int) = .ok (.fz (nD (l[i]?.getD 0))) := at_tup (by rw [List.getElem?_map, List.getElem?_eq_getElem h]; rfl)
theorem at_nL {l : List Nat} {i : Nat} (h : i < l.length) : (O.fz (listN l)).at ((i : Nat) : Int) = .ok (.fz (nD (l[i]?.getD 0))) := at_list (by rw [List.getElem?_map, List.getElem?_eq_getElem h]; rfl)
theorem web_n' {w : Web} : (O.fz (webD w)).at ((0 : Nat) : Int) = .ok (.fz (nD w.1)) := rfl
theorem web_t' {w : Web} : (O.fz (webD w)).at ((1 : Nat) : Int) = .ok (.fz (.tuple (w.2.map prD))) := rfl
theorem pr_0 {p : Nat × Nat} : (O.fz (prD p)).at ((0 : Nat) : Int) = .ok (.fz (nD p.1)) := rfl
theorem pr_1 {p : Nat × Nat} : (O.fz (prD p)).at ((1 : Nat) : Int) = .ok (.fz (nD p.2)) := rfl
theorem dT_is {w : Web} (h : SmW w) : stD (allSteps w) = dT w := by
  unfold stD dT allSteps
  rw [List.map_map]
  refine congrArg PyData.list (List.map_congr_left fun a ha => ?_)
  show PyData.tuple ((bfs w a).map optD) = _
  rw [h.bfs (List.mem_range.mp ha), List.map_map]
  show _ = PyData.tuple (((List.range w.1).map (dis w a)).map nD)
  rw [List.map_map]
  rfl
def rowW (w : Web) (ms : List Nat) (p : Nat) : List Nat := ms.map fun m => dis w m p
section
variable {T : String → Option Fn} {n : Nat} {w : Web}
theorem c_nb [Has T "neighbours" f_neighbours] (h : SmW w) (p : Nat) : callD T 2000 (n + 1) "neighbours" [webD w, nD p] = .ok (tupN (nb w.2 p)) := by
  rw [callH f_neighbours]
  exact nb_run h.fews
theorem c_steps0 [Has T "neighbours" f_neighbours] [Has T "steps_from" f_steps_from] (h : SmW w) {p : Nat} (hp : p < w.1) : callD T 2000 (n + 2) "steps_from" [webD w, nD p] = .ok (.tuple ((bfs w p).map optD)) := by
  rw [callH f_steps_from]
  exact steps_run h.ok hp (by have := h.few; omega) fun q => c_nb h q
theorem c_steps [Has T "neighbours" f_neighbours] [Has T "steps_from" f_steps_from] (h : SmW w) {p : Nat} (hp : p < w.1) : callD T 2000 (n + 2) "steps_from" [webD w, nD p] = .ok (rT w p) := by
  rw [c_steps0 h hp, h.bfs hp, List.map_map]
  unfold rT tupN
  rw [List.map_map]
  rfl
theorem c_far1 [Has T "neighbours" f_neighbours] [Has T "steps_from" f_steps_from] [Has T "how_far" f_how_far] (h : SmW w) {p q : Nat} (hp : p < w.1) (hq : q < w.1) : callD T 2000 (n + 3) "how_far" [webD w, nD p, nD q] = .ok (nD (dis w p q)) := by
  rw [callH f_how_far]
  exact far_run (c_steps0 h hp) (h.get hp hq)
variable [Has T "neighbours" f_neighbours] [Has T "steps_from" f_steps_from] [Has T "all_steps" f_all_steps]
theorem c_all (h : SmW w) : callD T 2000 (n + 3) "all_steps" [webD w] = .ok (dT w) := by
  rw [callH f_all_steps, ← dT_is h]
  exact allSteps_run h.ok fun p hp => c_steps0 h hp
omit [Has T "neighbours" f_neighbours] [Has T "steps_from" f_steps_from] [Has T "all_steps" f_all_steps]
theorem c_row [Has T "row_in" f_row_in] (h : SmW w) {ms : List Nat} (hm : ∀ m ∈ ms, m < w.1) (hl : ms.length ≤ 1000) {p : Nat} (hp : p < w.1) : callD T 2000 (n + 1) "row_in" [dT w, tupN ms, nD p] = .ok (tupN (rowW w ms p)) := by
  rw [callH f_row_in, ← dT_is h, row_run h.okS hm hl hp, row_dis h hm hp]
  unfold rowW tupN
  rw [List.map_map, List.map_map]
  rfl
theorem c_bl [Has T "row_in" f_row_in] [Has T "blurred_in" f_blurred_in] (h : SmW w) {ms : List Nat} (hm : ∀ m ∈ ms, m < w.1) (hl : ms.length ≤ 1000) : callD T 2000 (n + 2) "blurred_in" [dT w, tupN ms] = .ok (lstP (blW w ms)) := by
  rw [callH f_blurred_in, ← dT_is h, ← bl_is h hm]
  refine blurred_run h.okS hm hl fun p hp => ?_
  rw [callH f_row_in]
  exact row_run h.okS hm hl hp
theorem c_blurred [Has T "neighbours" f_neighbours] [Has T "steps_from" f_steps_from] [Has T "all_steps" f_all_steps] [Has T "row_in" f_row_in] [Has T "blurred_in" f_blurred_in] [Has T "blurred" f_blurred] (h : SmW w) {ms : List Nat} (hm : ∀ m ∈ ms, m < w.1) (hl : ms.length ≤ 1000) : callD T 2000 (n + 4) "blurred" [webD w, tupN ms] = .ok (prsD (blW w ms)) := by
  rw [callH f_blurred]
  exact blurredW_run (by rw [dT_is h]; exact c_all h) (by rw [dT_is h]; exact c_bl h hm hl)
theorem c_tells [Has T "neighbours" f_neighbours] [Has T "steps_from" f_steps_from] [Has T "all_steps" f_all_steps] [Has T "row_in" f_row_in] [Has T "blurred_in" f_blurred_in] [Has T "blurred" f_blurred] [Has T "tells" f_tells] (h : SmW w) {ms : List Nat} (hm : ∀ m ∈ ms, m < w.1) (hl : ms.length ≤ 1000) : callD T 2000 (n + 5) "tells" [webD w, tupN ms] = .ok (.bool (blW w ms).isEmpty) := by
  rw [callH f_tells]
  exact tells_run (c_blurred h hm hl)
theorem c_par [Has T "neighbours" f_neighbours] [Has T "steps_from" f_steps_from] [Has T "all_steps" f_all_steps] [Has T "parters" f_parters] (h : SmW w) {a b : Nat} (ha : a < w.1) (hb : b < w.1) : callD T 2000 (n + 4) "parters" [webD w, nD a, nD b] = .ok (tupN (parW w a b)) := by
  rw [callH f_parters]
  exact parters_run h ha hb (by rw [dT_is h]; exact c_all h)
theorem c_mix [Has T "_law_mix" f__law_mix] : MixOk (callD T 2000 (n + 1)) := fun c p m h1 h2 h3 h4 => by
  rw [callH f__law_mix]
  exact mix_run h1 h2 h3 h4
theorem c_perm (t : Bool) [Has T "_law_mix" f__law_mix] [Has T "_law_perm" (permF t)] : PermOk t (callD T 2000 (n + 2)) := by
  intro c m hc hm
  rw [callH (permF t)]
  exact perm_run t c_mix hc hm
theorem c_web (t : Bool) [Has T "_law_mix" f__law_mix] [Has T "_law_perm" (permF t)] [Has T "_law_web" f__law_web] {c : Int} (hc : Sm 10000 c) {M : Nat} (h1 : 1 ≤ M) (h2 : M ≤ 100) : ∃ w : Web, callD T 2000 (n + 3) "_law_web" [.int c, nD M] = .ok (webD w) ∧ SmW w ∧ w.1 ≤ M ∧ w.2.length ≤ 2000 := by
  obtain ⟨w, e1, e2, e3, e4⟩ := web_run (N := 2000) (M := M) (c_mix (T := T) (n := n + 1)) (c_perm t) hc h1 h2
  refine ⟨w, ?_, { e2 with few := by omega, fews := by omega }, e3, e4⟩
  rw [callH f__law_web]
  exact e1
theorem c_cell [Has T "_law_cell" f__law_cell] {ns : List Int} {k : Nat} : callD T 2000 (n + 1) "_law_cell" [scr ns, nD k] = .ok (.int (ns[k]?.getD 0)) := by
  rw [callH f__law_cell]
  exact cell_run
theorem c_some [Has T "_law_mix" f__law_mix] [Has T "_law_some" f__law_some] {c : Int} {m : Nat} (hc : Sm 10000 c) (hm : m ≤ 1000) : ∃ ms : List Nat, callD T 2000 (n + 2) "_law_some" [.int c, nD m] = .ok (tupN ms) ∧ (∀ x ∈ ms, x < m) ∧ ms.Pairwise (· < ·) ∧ ms.length ≤ m := by
  obtain ⟨ms, h1, h2⟩ := some_run (cd := callD T 2000 (n + 1)) (N := 2000) c_mix hc hm
  exact ⟨ms, by rw [callH f__law_some]; exact h1, h2⟩
theorem c_lawfar [Has T "_law_far" f__law_far] (h : SmW w) : callD T 2000 (n + 1) "_law_far" [webD w] = .ok (mxD w) := by
  rw [callH f__law_far]
  exact lawfar_run h
end
end Q

set_option Elab.async false
set_option linter.all false
set_option maxRecDepth 100000
set_option maxHeartbeats 1000000
/-! W3: strong marks. -/
namespace Q
open PySem
set_option hygiene false
local macro_rules | `(tactic| array_get_dec) => `(tactic| (repeat' (first | ((with_reducible apply e_var); rfl) | with_reducible (first | apply e_cmp | apply e_not | apply e_and | apply e_or | apply e_bin | apply e_ix | apply e_call | apply e_bi | apply e_tup | apply e_lst | apply e_rgT | apply e_rgF | apply e_rg1 | apply e_isN | apply es_cons | apply f_cons | apply at_dT | apply at_rT | apply at_mD | apply at_mR | apply at_nT | apply at_nL | apply o_so | apply e_sl | exact e_bl | exact e_non | exact e_str | exact e_l0 | exact e_l1 | exact e_l2 | exact e_l3 | exact e_l4 | exact e_l5 | exact e_l6 | exact e_l7 | exact e_l8 | exact e_l9 | exact e_l10 | exact e_l11 | exact e_l12 | exact e_l13 | exact e_l14 | exact e_l15 | exact e_l16 | exact e_l17 | exact e_l18 | exact e_l19 | exact e_l20 | exact e_intL | exact c_ltN | exact c_leN | exact c_gtN | exact c_geN | exact cop_eqN _ _ | exact cop_neN _ _ | exact c_eqB _ _ | exact cop_neB _ _ | exact c_isB _ _ | exact c_isnB _ _ | exact c_eqT _ _ | exact cop_neT _ _ | exact c_eqL _ _ | exact c_neL _ _ | exact c_eqPs _ _ | exact c_nePs _ _ | exact c_eqLP _ _ | exact c_neLP _ _ | exact c_eqP _ _ | exact c_neP _ _ | exact inN _ _ | exact ninN _ _ | exact c_inP _ _ | exact c_ninP _ _ | exact c_inLN _ _ | exact c_inLP _ _ | exact c_ninLN _ _ | exact c_ninLP _ _ | exact b_addN | exact b_addI | exact bi_tupleN | exact bi_tupleNN | exact bi_listN | exact bi_listNN | exact bi_tupleP | exact bi_lenNT | exact bi_lenL' | exact bi_tupleON | exact neN_nil _ | exact eqN_nil _ | exact neP_nil _ | exact prs_nil _ | exact b_modN (by decide) | exact web_n' | exact web_t' | exact pr_0 | exact pr_1 | exact t_bool | exact f_nil | exact es_nil | exact bi_min | exact bi_max | exact bi_lenM | exact bi_lenTM | exact bi_lenOM | exact bi_any | exact bi_all | exact bi_sortN | exact bi_sortP | exact bi_intB | exact bi_tuple | exact bi_tupleT | exact bi_listL | exact bi_listT | exact bi_tupleO | exact t_list | exact t_ol | exact cut_nT | exact cut_nL | exact o_no | exact isN_n | exact isN_t | exact isN_none | apply f1 | apply f2 | apply f3 | apply f4 | apply f5 | apply f6 | apply f7 | apply f8 | apply f9 | apply f10 | apply f11 | apply f12 | apply f13 | apply f14 | apply f15) | with_reducible assumption | omega)))
local macro_rules | `(tactic| sizeOf_list_dec) => `(tactic| (first | (apply put_lit; (next => rfl); (next => dsimp only [List.set]; try exact rfl)) | (apply tput1; (next => rfl); (next => dsimp only [wipe, List.map, List.set]; try exact rfl)) | (apply tput2; (next => rfl); (next => rfl); (next => dsimp only [wipe, List.map, List.set]; try exact rfl)) | (apply tput3; (next => rfl); (next => rfl); (next => rfl); (next => dsimp only [wipe, List.map, List.set]; try exact rfl))))
def partS (w : Web) (p a b : Nat) : Bool := decide (min (dis w p a) (dis w p b) + dis w a b = max (dis w p a) (dis w p b))
def strW (w : Web) (a b : Nat) : List Nat := (List.range w.1).filter fun p => partS w p a b
def strongW (w : Web) (ms : List Nat) : Bool := (List.range w.1).all fun a => (List.range a).all fun b => ms.any fun m => partS w m a b
section
variable {T : String → Option Fn} {n : Nat} {w : Web}
theorem c_does [Has T "does_part" f_does_part] {p a b : Nat} (hp : p < w.1) (ha : a < w.1) (hb : b < w.1) : callD T 2000 (n + 1) "does_part" [dT w, nD p, nD a, nD b] = .ok (.bool (partS w p a b)) := by
  rw [callH f_does_part]
  refine run_post (g := [some (.fz (dT w)), some (.fz (nD p)), some (.fz (nD a)), some (.fz (nD b)), none]) rfl rfl ?_
  (apply w_set; (next => array_get_dec); (next => sizeOf_list_dec))
  (apply w_ret; (next => array_get_dec))
  rfl
theorem c_strong [Has T "neighbours" f_neighbours] [Has T "steps_from" f_steps_from] [Has T "all_steps" f_all_steps] [Has T "does_part" f_does_part] [Has T "strong_parters" f_strong_parters] (h : SmW w) {a b : Nat} (ha : a < w.1) (hb : b < w.1) :
    callD T 2000 (n + 4) "strong_parters" [webD w, nD a, nD b] = .ok (tupN (strW w a b)) := by
  rw [callH f_strong_parters]
  have few := h.few
  have f1 := c_all (T := T) (n := n) h
  have f2 := fun p (hp : p < w.1) => c_does (T := T) (n := n + 2) hp ha hb
  refine run_post (g := [some (.fz (webD w)), some (.fz (nD a)), some (.fz (nD b)), none, none]) rfl rfl ?_
  (apply w_set; (next => array_get_dec); (next => sizeOf_list_dec))
  apply w_ret
  · apply e_bi
    · apply es_cons
      · apply e_cmpr
        · array_get_dec
        · omega
        · intro p hp
          (apply turn_if; (next => sizeOf_list_dec); (next => array_get_dec); (next => array_get_dec))
      · array_get_dec
    · array_get_dec
  · rfl
theorem c_strongIn [Has T "does_part" f_does_part] [Has T "are_strong_in" f_are_strong_in] (h : SmW w) {ms : List Nat} (hm : ∀ m ∈ ms, m < w.1) (hl : ms.length ≤ 1000) : callD T 2000 (n + 2) "are_strong_in" [dT w, tupN ms] = .ok (.bool (strongW w ms)) := by
  rw [callH f_are_strong_in]
  have few := h.few
  refine run_post (g := [some (.fz (dT w)), some (.fz (tupN ms)), none, none, none]) rfl rfl ?_
  have key : ∀ a, a < w.1 → ∀ b, b < a → E.ev (callD T 2000 (n + 1)) (.bi .any (.cons (.comp (.n 4) [("mark", 4)] (.seq (.var 1)) .no (.call "does_part" (.cons (.var 0) (.cons (.var 4) (.cons (.var 2) (.cons (.var 3) .nil)))))) .nil)) [some (.fz (dT w)), some (.fz (tupN ms)), some (.fz (nD a)), some (.fz (nD b)), none] = .ok (.fz (.bool (ms.any fun m => partS w m a b))) := by
    intro a ha b hb
    have f1 := fun p (hp : p < w.1) => c_does (T := T) (n := n) (w := w) (a := a) (b := b) hp ha (by omega)
    apply e_bi
    · apply es_cons
      · apply e_alls (enc := nD) (xs := ms) (i_seqT (e_var rfl)) (by omega)
        intro m hmm
        have := hm m hmm
        (apply turn_on; (next => sizeOf_list_dec); (next => array_get_dec))
      · array_get_dec
    · array_get_dec
  refine w_find (fun a => !((List.range a).all fun b => ms.any fun m => partS w m a b)) (fun _ => .bool false) (i_rng (n := w.1) ?_ (by omega)) (fun a ha => ?_) (fun a e => ?_) fun e => ?_
  · have f1 : bi .len [.fz (dT w)] = .ok (nD w.1) := by unfold dT; rw [bi_lenM, List.length_range]
    array_get_dec
  · have ha := List.mem_range.mp ha
    (apply turnP; (next => sizeOf_list_dec))
    refine w_find (fun b => !(ms.any fun m => partS w m a b)) (fun _ => .bool false) (i_rng (n := a) (e_var rfl) (by omega)) (fun b hb => ?_) (fun b e => ?_) fun e => ?_
    · have hb := List.mem_range.mp hb
      have k := key a ha b hb
      (apply turnP; (next => sizeOf_list_dec))
      refine w_ite (e_not k rfl) rfl (fun t => w_ret rfl (.inl ⟨t, rfl⟩)) fun t => w_cont (w_nil (.inr ⟨t, _, .inl rfl, rfl⟩))
    · refine .inl ⟨?_, rfl⟩
      have h1 := List.mem_range.mp (List.mem_of_find?_eq_some e)
      have h2 := List.find?_some e
      simp only [Bool.not_eq_true', List.all_eq_false, List.mem_range]
      exact ⟨b, h1, by simpa using h2⟩
    · refine w_nil (.inr ⟨?_, _, .inl rfl, rfl⟩)
      rw [List.find?_eq_none] at e
      simp only [Bool.not_eq_false', List.all_eq_true, List.mem_range]
      intro b hb
      have := e b (List.mem_range.mpr hb)
      simpa using this
  · have h1 := List.mem_range.mp (List.mem_of_find?_eq_some e)
    have h2 := List.find?_some e
    have : strongW w ms = false := by
      unfold strongW
      simp only [List.all_eq_false, List.mem_range]
      exact ⟨a, h1, by simpa using h2⟩
    rw [this]
  · refine w_ret rfl ?_
    have : strongW w ms = true := by
      unfold strongW
      rw [List.find?_eq_none] at e
      simp only [List.all_eq_true, List.mem_range]
      intro a ha b hb
      have := e a (List.mem_range.mpr ha)
      simp only [Bool.not_eq_true', Bool.not_eq_false, List.all_eq_true, List.mem_range] at this
      exact this b hb
    rw [this]
theorem c_areStrong [Has T "neighbours" f_neighbours] [Has T "steps_from" f_steps_from] [Has T "all_steps" f_all_steps] [Has T "does_part" f_does_part] [Has T "are_strong_in" f_are_strong_in] [Has T "are_strong" f_are_strong] (h : SmW w) {ms : List Nat} (hm : ∀ m ∈ ms, m < w.1) (hl : ms.length ≤ 1000) : callD T 2000 (n + 4) "are_strong" [webD w, tupN ms] = .ok (.bool (strongW w ms)) := by
  rw [callH f_are_strong]
  have f1 := c_all (T := T) (n := n) h
  have f2 := c_strongIn (T := T) (n := n + 1) h hm hl
  refine run_post (g := [some (.fz (webD w)), some (.fz (tupN ms))]) rfl rfl ?_
  (apply w_ret; (next => array_get_dec))
  rfl
end
end Q

set_option Elab.async false
set_option linter.all false
set_option maxRecDepth 100000
set_option maxHeartbeats 1000000
/-! W4: all pairs of some things. -/
namespace Q
open PySem
set_option hygiene false
local macro_rules | `(tactic| array_get_dec) => `(tactic| (repeat' (first | ((with_reducible apply e_var); rfl) | with_reducible (first | apply e_cmp | apply e_not | apply e_and | apply e_or | apply e_bin | apply e_ix | apply e_call | apply e_bi | apply e_tup | apply e_lst | apply e_rgT | apply e_rgF | apply e_rg1 | apply e_isN | apply es_cons | apply f_cons | apply at_dT | apply at_rT | apply at_mD | apply at_mR | apply at_nT | apply at_nL | apply o_so | apply e_sl | exact e_bl | exact e_non | exact e_str | exact e_l0 | exact e_l1 | exact e_l2 | exact e_l3 | exact e_l4 | exact e_l5 | exact e_l6 | exact e_l7 | exact e_l8 | exact e_l9 | exact e_l10 | exact e_l11 | exact e_l12 | exact e_l13 | exact e_l14 | exact e_l15 | exact e_l16 | exact e_l17 | exact e_l18 | exact e_l19 | exact e_l20 | exact e_intL | exact c_ltN | exact c_leN | exact c_gtN | exact c_geN | exact cop_eqN _ _ | exact cop_neN _ _ | exact c_eqB _ _ | exact cop_neB _ _ | exact c_isB _ _ | exact c_isnB _ _ | exact c_eqT _ _ | exact cop_neT _ _ | exact c_eqL _ _ | exact c_neL _ _ | exact c_eqPs _ _ | exact c_nePs _ _ | exact c_eqLP _ _ | exact c_neLP _ _ | exact c_eqP _ _ | exact c_neP _ _ | exact inN _ _ | exact ninN _ _ | exact c_inP _ _ | exact c_ninP _ _ | exact c_inLN _ _ | exact c_inLP _ _ | exact c_ninLN _ _ | exact c_ninLP _ _ | exact b_addN | exact b_addI | exact bi_tupleN | exact bi_tupleNN | exact bi_listN | exact bi_listNN | exact bi_tupleP | exact bi_lenNT | exact bi_lenL' | exact bi_tupleON | exact neN_nil _ | exact eqN_nil _ | exact neP_nil _ | exact prs_nil _ | exact b_modN (by decide) | exact web_n' | exact web_t' | exact pr_0 | exact pr_1 | exact t_bool | exact f_nil | exact es_nil | exact bi_min | exact bi_max | exact bi_lenM | exact bi_lenTM | exact bi_lenOM | exact bi_any | exact bi_all | exact bi_sortN | exact bi_sortP | exact bi_intB | exact bi_tuple | exact bi_tupleT | exact bi_listL | exact bi_listT | exact bi_tupleO | exact t_list | exact t_ol | exact cut_nT | exact cut_nL | exact o_no | exact isN_n | exact isN_t | exact isN_none | apply f1 | apply f2 | apply f3 | apply f4 | apply f5 | apply f6 | apply f7 | apply f8 | apply f9 | apply f10 | apply f11 | apply f12 | apply f13 | apply f14 | apply f15) | with_reducible assumption | omega)))
local macro_rules | `(tactic| sizeOf_list_dec) => `(tactic| (first | (apply put_lit; (next => rfl); (next => dsimp only [List.set]; try exact rfl)) | (apply tput1; (next => rfl); (next => dsimp only [wipe, List.map, List.set]; try exact rfl)) | (apply tput2; (next => rfl); (next => rfl); (next => dsimp only [wipe, List.map, List.set]; try exact rfl)) | (apply tput3; (next => rfl); (next => rfl); (next => rfl); (next => dsimp only [wipe, List.map, List.set]; try exact rfl))))
def pairsL {α : Type} (l : List α) : List (α × α) := l.zipIdx.flatMap fun q => (l.drop (q.2 + 1)).map fun y => (q.1, y)
abbrev pE {α : Type} (enc : α → D) (p : α × α) : D := .tuple [enc p.1, enc p.2]
theorem enum_zip {α : Type} (enc : α → D) : ∀ (l : List α) (j : Nat), enumD j (l.map enc) = (l.zipIdx j).map fun q => .tuple [nD q.2, enc q.1]
  | [], _ => rfl
  | x :: l, j => by rw [List.map_cons, enumD, enum_zip enc l (j + 1), List.zipIdx_cons, List.map_cons]
theorem i_enum {cd : String → List D → R D} {g : Env} {α : Type} {enc : α → D} {l : List α} {e : E} (h : E.ev cd e g = .ok (.fz (.list (l.map enc)))) : It.evi cd (.enum e) g = .ok (l.zipIdx.map fun q => .tuple [nD q.2, enc q.1]) := by
  rw [evi_enum, h, R.ok_bind, asD_fz, R.ok_bind]
  show R.ok (enumD 0 (l.map enc)) = _
  rw [enum_zip]
theorem cut_fromM {α : Type} {enc : α → D} {l : List α} {k : Nat} (h : k ≤ l.length) : (O.fz (.list (l.map enc))).cut (some ((k : Nat) : Int)) none = .ok (.list ((l.drop k).map enc)) := by
  show R.ok (PyData.list (cutD (l.map enc) (some ((k : Nat) : Int)) none)) = _
  rw [cut_from (by rw [List.length_map]; exact h), List.map_drop]
theorem foldl_appF {α β γ : Type} (f : α → List β) : ∀ (l : List α) (acc : List β), l.foldl (fun s a => s ++ f a) acc = acc ++ l.flatMap f := foldl_app f
theorem mem_zip {α : Type} {l : List α} {q : α × Nat} (h : q ∈ l.zipIdx) : q.2 < l.length ∧ l[q.2]? = some q.1 := by
  have := List.mem_zipIdx_iff_getElem?.mp h
  refine ⟨?_, this⟩
  by_cases z : q.2 < l.length
  · exact z
  · rw [List.getElem?_eq_none (by omega)] at this; cases this
theorem c_pairs {T : String → Option Fn} {n : Nat} [Has T "_law_pairs" f__law_pairs] {α : Type} (enc : α → D) {l : List α} (hl : l.length ≤ 1000) : callD T 2000 (n + 1) "_law_pairs" [.list (l.map enc)] = .ok (.list ((pairsL l).map (pE enc))) := by
  rw [callH f__law_pairs]
  refine run_post (g := [some (.fz (.list (l.map enc))), none, none, none, none]) rfl rfl ?_
  refine w_setO (ds := []) lst0 rfl rfl ?_
  refine w_foldN (fun s : List (α × α) => [some (.fz (.list (l.map enc))), some (.ol ((s.map (pE enc)).map .fz)), none, none, none]) (fun s (q : α × Nat) => s ++ (l.drop (q.2 + 1)).map fun y => (q.1, y)) (fun k s => s.length ≤ k * 1000) [] (i_enum (e_var rfl)) rfl (Nat.le_refl _) (fun k s q hq hs => ?_) fun hi => ?_
  · obtain ⟨h1, h2⟩ := mem_zip (List.mem_of_getElem? hq)
    have hk : k < l.length := by
      by_cases z : k < l.length
      · exact z
      · rw [List.getElem?_eq_none (by simp; omega)] at hq; cases hq
    refine ⟨?_, ?_⟩
    · rw [List.length_append, List.length_map, List.length_drop]; omega
    · (apply turnP; (next => sizeOf_list_dec))
      refine w_ext (ds := (l.drop (q.2 + 1)).map fun y => pE enc (q.1, y)) rfl ?_ ?_ rfl (w_back ?_)
      · have es : E.ev (callD T 2000 n) (.bin .add (.var 2) (.int 1)) [some (O.fz (.list (l.map enc))), some (.ol ((s.map (pE enc)).map O.fz)), some (.fz (nD q.2)), some (.fz (enc q.1)), none] = .ok (.fz (nD (q.2 + 1))) := by array_get_dec
        apply e_alls (enc := enc) (xs := l.drop (q.2 + 1)) (i_seqL (e_sl (e_var rfl) (o_so es) o_no (cut_fromM (by omega)))) (by rw [List.length_drop]; omega)
        intro y hy
        (apply turn_on; (next => sizeOf_list_dec); (next => array_get_dec))
      · simp only [List.length_map, List.length_drop]; omega
      · show _ = [some (O.fz (.list (l.map enc))), some (O.ol (((s ++ (l.drop (q.2 + 1)).map fun y => (q.1, y)).map (pE enc)).map O.fz)), none, none, none]
        simp only [List.map_append, List.map_map]
        rfl
  · have e : l.zipIdx.foldl (fun s (q : α × Nat) => s ++ (l.drop (q.2 + 1)).map fun y => (q.1, y)) [] = pairsL l := by
      rw [foldl_app]; rfl
    rw [e]
    refine w_frz rfl (w_ret (e_var rfl) ?_)
    rw [toD_ol]
theorem pairs_range (n : Nat) : pairsL (List.range n) = (List.range n).flatMap fun a => (List.range' (a + 1) (n - (a + 1))).map fun b => (a, b) := by
  unfold pairsL
  have e : (List.range n).zipIdx = (List.range n).map fun a => (a, a) := by
    refine List.ext_getElem? fun i => ?_
    rw [List.getElem?_zipIdx, List.getElem?_map]
    by_cases h : i < n
    · rw [List.getElem?_range h]; simp
    · rw [List.getElem?_eq_none (by simp; omega)]; rfl
  rw [e, List.flatMap_map]
  refine congrArg (List.flatMap · _) (funext fun a => ?_)
  show ((List.range n).drop (a + 1)).map _ = _
  rw [List.range_eq_range', List.drop_range', Nat.zero_add, Nat.mul_one]
theorem mem_pairs_range {n : Nat} {p : Nat × Nat} : p ∈ pairsL (List.range n) ↔ p.1 < p.2 ∧ p.2 < n := by
  obtain ⟨a, b⟩ := p
  rw [pairs_range]
  simp only [List.mem_flatMap, List.mem_range, List.mem_map, List.mem_range'_1, Prod.mk.injEq]
  constructor
  · rintro ⟨x, hx, y, hy, rfl, rfl⟩
    omega
  · rintro ⟨h1, h2⟩
    exact ⟨a, by omega, b, by omega, rfl, rfl⟩
end Q

set_option Elab.async false
set_option linter.all false
set_option maxRecDepth 100000
set_option maxHeartbeats 1000000
/-! W5: what the laws begin with. -/
namespace Q
open PySem
def cellK (ns : List Int) (q : Int) (k : Nat) : Int := ns[k % 9]?.getD 0 + q * (k : Int)
theorem sm_cellK {ns : List Int} (hb : Bits ns) {q : Int} (hq : 0 ≤ q) (hq2 : q ≤ 100) {k : Nat} (hk : k ≤ 20) : Sm 2000 (cellK ns q k) := by
  have h0 := Sm.cell hb (k % 9)
  have e : (q * (k : Int)).natAbs ≤ 2000 := by
    rw [Int.natAbs_mul]
    exact Nat.mul_le_mul (show q.natAbs ≤ 100 by omega) (show ((k : Nat) : Int).natAbs ≤ 20 by omega)
  have := h0.add e
  simpa [cellK] using this
theorem Sm.more {m k : Nat} {c : Int} (h : Sm m c) (hk : m ≤ k) : Sm k c := by
  obtain ⟨z, d, q1, q2, q3⟩ := h
  exact ⟨z, d, q1, q2, by omega⟩
theorem e_cellK {T : String → Option Fn} {n : Nat} [Has T "_law_cell" f__law_cell] {g : Env} {ns : List Int} {k : Nat} {q : Int} (h0 : g[0]? = some (some (.fz (scr ns)))) (h1 : g[1]? = some (some (.fz (nD k)))) (hq : 0 ≤ q) (hq2 : q ≤ 1000) (hk : k ≤ 1000) :
    E.ev (callD T 2000 (n + 1)) (.bin .add (.call "_law_cell" (.cons (.var 0) (.cons (.bin .mod (.var 1) (.int 9)) .nil))) (.bin .mul (.int q) (.var 1))) g = .ok (.fz (.int (cellK ns q k))) := by
  have em : E.ev (callD T 2000 (n + 1)) (.bin .mod (.var 1) (.int 9)) g = .ok (.fz (nD (k % 9))) := e_bin (e_var h1) e_l9 (b_modN (by decide))
  exact lin_ev (call2 (e_var h0) em c_cell) (e_var h1) hq (by omega) (by omega)
end Q

set_option Elab.async false
set_option linter.all false
set_option maxRecDepth 100000
set_option maxHeartbeats 1000000
/-! M1: all marks, the least first. -/
namespace Q
open PySem
def Up (l : List Nat) : Prop := l.Pairwise (· < ·)
theorem mem_choose : ∀ (m : Nat) (l r : List Nat), r ∈ chooseL m l ↔ r.Sublist l ∧ r.length = m
  | 0, l, r => by
    simp only [chooseL, List.mem_singleton]
    constructor
    · rintro rfl; exact ⟨List.nil_sublist _, rfl⟩
    · rintro ⟨_, h⟩; exact List.length_eq_zero_iff.mp h
  | m + 1, [], r => by
    simp only [chooseL]
    constructor
    · intro h; cases h
    · rintro ⟨h, e⟩
      rw [List.sublist_nil.mp h] at e
      cases e
  | m + 1, x :: l, r => by
    simp only [chooseL, List.mem_append, List.mem_map]
    constructor
    · rintro (⟨s, hs, rfl⟩ | h)
      · obtain ⟨h1, h2⟩ := (mem_choose m l s).mp hs
        exact ⟨h1.cons_cons x, by rw [List.length_cons, h2]⟩
      · obtain ⟨h1, h2⟩ := (mem_choose (m + 1) l r).mp h
        exact ⟨h1.cons x, h2⟩
    · rintro ⟨h, e⟩
      cases h with
      | cons _ h => exact .inr ((mem_choose (m + 1) l r).mpr ⟨h, e⟩)
      | cons_cons _ h => exact .inl ⟨_, (mem_choose m l _).mpr ⟨h, by simpa using e⟩, rfl⟩
theorem choose_lex : ∀ (m : Nat) (l : List Nat), Up l → (chooseL m l).Pairwise (· < ·)
  | 0, l, _ => by simp [chooseL]
  | m + 1, [], _ => by simp [chooseL]
  | m + 1, x :: l, h => by
    simp only [chooseL]
    have h' := List.pairwise_cons.mp h
    refine List.pairwise_append.mpr ⟨?_, choose_lex (m + 1) l h'.2, ?_⟩
    · refine List.pairwise_map.mpr ((choose_lex m l h'.2).imp fun {a b} q => ?_)
      exact List.cons_lt_cons_iff.mpr (.inr ⟨rfl, q⟩)
    · intro a ha b hb
      obtain ⟨s, _, rfl⟩ := List.mem_map.mp ha
      obtain ⟨h1, h2⟩ := (mem_choose (m + 1) l b).mp hb
      match b, h2, h1 with
      | y :: b, _, h1 => exact List.cons_lt_cons_iff.mpr (.inl (h'.1 y (h1.subset (List.mem_cons_self ..))))
/-- of marks those with fewer places are less, of equally many those that come first -/
def ltM (a b : List Nat) : Prop := a.length < b.length ∨ (a.length = b.length ∧ a < b)
theorem up_sub {n : Nat} {r : List Nat} : r.Sublist (List.range n) ↔ Up r ∧ ∀ x ∈ r, x < n := by
  constructor
  · intro h
    exact ⟨List.Pairwise.sublist h (range_up n), fun x hx => List.mem_range.mp (h.subset hx)⟩
  · rintro ⟨h1, h2⟩
    have e : r = (List.range n).filter fun x => decide (x ∈ r) := by
      refine up_ext h1 (List.Pairwise.filter _ (range_up n)) fun x => ?_
      rw [List.mem_filter, List.mem_range]
      simp only [decide_eq_true_eq]
      exact ⟨fun q => ⟨h2 x q, q⟩, fun q => q.2⟩
    rw [e]
    exact List.filter_sublist
theorem mem_allM {n : Nat} {r : List Nat} : r ∈ allMarks n ↔ Up r ∧ ∀ x ∈ r, x < n := by
  unfold allMarks
  rw [← up_sub]
  simp only [List.mem_flatMap, List.mem_range, mem_choose]
  constructor
  · rintro ⟨m, _, h, _⟩; exact h
  · intro h
    exact ⟨r.length, by have := h.length_le; rw [List.length_range] at this; omega, h, rfl⟩
theorem allM_lt (n : Nat) : (allMarks n).Pairwise ltM := by
  unfold allMarks
  have key : ∀ (k s : Nat), ((List.range' s k).flatMap fun m => chooseL m (List.range n)).Pairwise ltM := by
    intro k
    induction k with
    | zero => intro s; simp
    | succ k ih =>
      intro s
      rw [List.range'_succ, List.flatMap_cons]
      refine List.pairwise_append.mpr ⟨?_, ih (s + 1), ?_⟩
      · refine List.Pairwise.imp_of_mem ?_ (choose_lex s _ (range_up n))
        intro a b ha hb q
        exact .inr ⟨by rw [((mem_choose _ _ _).mp ha).2, ((mem_choose _ _ _).mp hb).2], q⟩
      · intro a ha b hb
        obtain ⟨m, hm, hb⟩ := List.mem_flatMap.mp hb
        rw [List.mem_range'_1] at hm
        rw [mem_choose] at ha hb
        exact .inl (by omega)
  have := key (n + 1) 0
  rwa [← List.range_eq_range'] at this
theorem find_first {α : Type} {R : α → α → Prop} {p : α → Bool} : ∀ {l : List α} {x : α}, l.Pairwise R → l.find? p = some x → p x = true ∧ x ∈ l ∧ ∀ y ∈ l, p y = true → x = y ∨ R x y
  | [], x, _, h => nomatch h
  | z :: l, x, hp, h => by
    have hp' := List.pairwise_cons.mp hp
    rw [List.find?_cons] at h
    cases e : p z with
    | true =>
      rw [e] at h
      cases h
      refine ⟨e, List.mem_cons_self .., fun y hy _ => ?_⟩
      rcases List.mem_cons.mp hy with q | q
      · exact .inl q.symm
      · exact .inr (hp'.1 y q)
    | false =>
      rw [e] at h
      obtain ⟨h1, h2, h3⟩ := find_first hp'.2 h
      refine ⟨h1, List.mem_cons_of_mem _ h2, fun y hy py => ?_⟩
      rcases List.mem_cons.mp hy with q | q
      · rw [q, e] at py; cases py
      · exact h3 y q py
theorem least_is {n : Nat} {p : List Nat → Bool} {ms : List Nat} (h : (allMarks n).find? p = some ms) : p ms = true ∧ (Up ms ∧ ∀ x ∈ ms, x < n) ∧ ∀ r, Up r → (∀ x ∈ r, x < n) → p r = true → ms = r ∨ ltM ms r := by
  obtain ⟨h1, h2, h3⟩ := find_first (allM_lt n) h
  exact ⟨h1, mem_allM.mp h2, fun r r1 r2 r3 => h3 r (mem_allM.mpr ⟨r1, r2⟩) r3⟩
theorem ltM.le {a b : List Nat} (h : a = b ∨ ltM a b) : a.length ≤ b.length := by
  rcases h with rfl | h | h
  · exact Nat.le_refl _
  · exact Nat.le_of_lt h
  · exact Nat.le_of_eq h.1
theorem least_none {n : Nat} {p : List Nat → Bool} (h : (allMarks n).find? p = none) {r : List Nat} (r1 : Up r) (r2 : ∀ x ∈ r, x < n) : p r = false := by
  have := List.find?_eq_none.mp h r (mem_allM.mpr ⟨r1, r2⟩)
  simpa using this
theorem up_len {n : Nat} {r : List Nat} (h : Up r) (h2 : ∀ x ∈ r, x < n) : r.length ≤ n := by
  have := (up_sub.mpr ⟨h, h2⟩).length_le
  rwa [List.length_range] at this
end Q

set_option Elab.async false
set_option linter.all false
set_option maxRecDepth 100000
set_option maxHeartbeats 1000000
/-! W6: doubtful readings; more of loops. -/
namespace Q
open PySem
set_option hygiene false
local macro_rules | `(tactic| array_get_dec) => `(tactic| (repeat' (first | ((with_reducible apply e_var); rfl) | with_reducible (first | apply e_cmp | apply e_not | apply e_and | apply e_or | apply e_bin | apply e_ix | apply e_call | apply e_bi | apply e_tup | apply e_lst | apply e_rgT | apply e_rgF | apply e_rg1 | apply e_isN | apply es_cons | apply f_cons | apply at_dT | apply at_rT | apply at_mD | apply at_mR | apply at_nT | apply at_nL | apply o_so | apply e_sl | exact e_bl | exact e_non | exact e_str | exact e_l0 | exact e_l1 | exact e_l2 | exact e_l3 | exact e_l4 | exact e_l5 | exact e_l6 | exact e_l7 | exact e_l8 | exact e_l9 | exact e_l10 | exact e_l11 | exact e_l12 | exact e_l13 | exact e_l14 | exact e_l15 | exact e_l16 | exact e_l17 | exact e_l18 | exact e_l19 | exact e_l20 | exact e_intL | exact c_ltN | exact c_leN | exact c_gtN | exact c_geN | exact cop_eqN _ _ | exact cop_neN _ _ | exact c_eqB _ _ | exact cop_neB _ _ | exact c_isB _ _ | exact c_isnB _ _ | exact c_eqT _ _ | exact cop_neT _ _ | exact c_eqL _ _ | exact c_neL _ _ | exact c_eqPs _ _ | exact c_nePs _ _ | exact c_eqLP _ _ | exact c_neLP _ _ | exact c_eqP _ _ | exact c_neP _ _ | exact inN _ _ | exact ninN _ _ | exact c_inP _ _ | exact c_ninP _ _ | exact c_inLN _ _ | exact c_inLP _ _ | exact c_ninLN _ _ | exact c_ninLP _ _ | exact b_addN | exact b_addI | exact bi_tupleN | exact bi_tupleNN | exact bi_listN | exact bi_listNN | exact bi_tupleP | exact bi_lenNT | exact bi_lenL' | exact bi_tupleON | exact neN_nil _ | exact eqN_nil _ | exact neP_nil _ | exact prs_nil _ | exact b_modN (by decide) | exact web_n' | exact web_t' | exact pr_0 | exact pr_1 | exact t_bool | exact f_nil | exact es_nil | exact bi_min | exact bi_max | exact bi_lenM | exact bi_lenTM | exact bi_lenOM | exact bi_any | exact bi_all | exact bi_sortN | exact bi_sortP | exact bi_intB | exact bi_tuple | exact bi_tupleT | exact bi_listL | exact bi_listT | exact bi_tupleO | exact t_list | exact t_ol | exact cut_nT | exact cut_nL | exact o_no | exact isN_n | exact isN_t | exact isN_none | apply f1 | apply f2 | apply f3 | apply f4 | apply f5 | apply f6 | apply f7 | apply f8 | apply f9 | apply f10 | apply f11 | apply f12 | apply f13 | apply f14 | apply f15) | with_reducible assumption | omega)))
local macro_rules | `(tactic| sizeOf_list_dec) => `(tactic| (first | (apply put_lit; (next => rfl); (next => dsimp only [List.set]; try exact rfl)) | (apply tput1; (next => rfl); (next => dsimp only [wipe, List.map, List.set]; try exact rfl)) | (apply tput2; (next => rfl); (next => rfl); (next => dsimp only [wipe, List.map, List.set]; try exact rfl)) | (apply tput3; (next => rfl); (next => rfl); (next => rfl); (next => dsimp only [wipe, List.map, List.set]; try exact rfl))))
def BackI (clr : List Nat) (I : Env → Prop) : SO → Prop := fun r => ∃ g', (r = .nx g' ∨ r = .ct g') ∧ I (wipe g' clr)
/-- a turn of a loop that says False where .. -/
def AllT (b : Bool) (clr : List Nat) (g : Env) : SO → Prop := fun o => (b = false ∧ o = .rt (.bool false)) ∨ (b = true ∧ Back clr g o)
section
variable {cd : String → List D → R D} {N : Nat} {g g' : Env} {P : SO → Prop} {ss : Ss}
theorem w_backI {clr : List Nat} {I : Env → Prop} (h : I (wipe g clr)) : Post (BackI clr I) (Ss.exs cd N .nil g) := ⟨g, .inl rfl, h⟩
theorem w_cntI {clr : List Nat} {I : Env → Prop} (h : I (wipe g clr)) : Post (BackI clr I) (Ss.exs cd N (.cons .cnt ss) g) := ⟨g, .inr rfl, h⟩
theorem w_cntC {clr : List Nat} {I : Env → Prop} {ss2 : Ss} (h : I (wipe g clr)) : Post (Cont cd N ss2 (BackI clr I)) (Ss.exs cd N (.cons .cnt ss) g) := ⟨g, .inr rfl, h⟩
theorem w_cntB {clr : List Nat} {g0 : Env} {ss2 : Ss} (h : wipe g clr = g0) : Post (Cont cd N ss2 (Back clr g0)) (Ss.exs cd N (.cons .cnt ss) g) := ⟨g, .inr rfl, h⟩
theorem w_retC {e : E} {d : D} {ss2 : Ss} (h : E.ev cd e g = .ok (.fz d)) (k : P (.rt d)) : Post (Cont cd N ss2 P) (Ss.exs cd N (.cons (.ret e) ss) g) := by
  rw [exs_cons, ex_ret, h]; exact k
theorem w_forI {t : Tg} {it : It} {b : Ss} {clr : List Nat} {α : Type} {enc : α → D} {xs : List α} (I : Env → Prop) (hq : It.evi cd it g = .ok (xs.map enc)) (h0 : I g) (hb : ∀ g, I g → ∀ x ∈ xs, ∃ g1, t.put (enc x) g = .ok g1 ∧ Post (BackI clr I) (Ss.exs cd N b g1)) (k : ∀ g, I g → Post P (Ss.exs cd N ss g)) :
    Post P (Ss.exs cd N (.cons (.for_ t it b clr) ss) g) := by
  have q : ∀ (ys : List α) (g : Env), (∀ y ∈ ys, y ∈ xs) → I g → ∃ g', forL (fun d g => (t.put d g).thn g fun g => Ss.exs cd N b g) clr (ys.map enc) g = .nx g' ∧ I g' := by
    intro ys
    induction ys with
    | nil => intro g _ i; exact ⟨g, rfl, i⟩
    | cons y ys ih =>
      intro g hy i
      obtain ⟨g1, h1, g', h2, h3⟩ := hb g i y (hy y (List.mem_cons_self ..))
      obtain ⟨g2, h4, h5⟩ := ih (wipe g' clr) (fun z hz => hy z (List.mem_cons_of_mem _ hz)) h3
      have h2' : ((t.put (enc y) g).thn g fun g => Ss.exs cd N b g) = .nx g' ∨ ((t.put (enc y) g).thn g fun g => Ss.exs cd N b g) = .ct g' := by rw [h1, R.thn_ok]; exact h2
      refine ⟨g2, ?_, h5⟩
      rcases h2' with h2' | h2' <;> simp only [List.map_cons, forL, h2', h4]
  obtain ⟨g', h1, h2⟩ := q xs g (fun _ z => z) h0
  refine post_thn ?_ (k g' h2)
  rw [ex_for, hq, R.thn_ok, h1]
/-- a loop with a state, of which one knows something, and slots that one forgets -/
theorem w_all {t : Tg} {it : It} {b : Ss} {clr : List Nat} {α : Type} {enc : α → D} {xs : List α} (p : α → Bool) (hq : It.evi cd it g = .ok (xs.map enc)) (hb : ∀ x ∈ xs, ∃ g1, t.put (enc x) g = .ok g1 ∧ Post (AllT (p x) clr g) (Ss.exs cd N b g1))
    (h1 : xs.all p = false → P (.rt (.bool false))) (h2 : xs.all p = true → Post P (Ss.exs cd N ss g)) :
    Post P (Ss.exs cd N (.cons (.for_ t it b clr) ss) g) := by
  refine w_find (fun x => !p x) (fun _ => .bool false) hq (fun x hx => ?_) (fun x e => h1 ?_) fun e => h2 ?_
  · obtain ⟨g1, z1, z2⟩ := hb x hx
    refine ⟨g1, z1, ?_⟩
    rcases z2 with ⟨z3, z4⟩ | ⟨z3, z4⟩
    · exact .inl ⟨by rw [z3]; rfl, z4⟩
    · exact .inr ⟨by rw [z3]; rfl, z4⟩
  · rw [List.all_eq_false]
    exact ⟨x, List.mem_of_find?_eq_some e, by have := List.find?_some e; simpa using this⟩
  · rw [List.all_eq_true]
    intro x hx
    have := List.find?_eq_none.mp e x hx
    simpa using this
theorem w_allF {b : Bool} {clr : List Nat} {g0 : Env} (hb : b = false) : Post (AllT b clr g0) (Ss.exs cd N (.cons (.ret (.bl false)) ss) g) := .inl ⟨hb, rfl⟩
theorem w_allT {b : Bool} {clr : List Nat} {g0 : Env} (hb : b = true) (h : wipe g clr = g0) : Post (AllT b clr g0) (Ss.exs cd N .nil g) := .inr ⟨hb, g, .inl rfl, h⟩
/-- if c: return False -/
theorem w_ifF {c : E} {o : O} {t : Bool} (h : E.ev cd c g = .ok o) (ht : truth o.toD = .ok t) (h1 : t = true → P (.rt (.bool false))) (h2 : t = false → Post P (Ss.exs cd N ss g)) : Post P (Ss.exs cd N (.cons (.ite c (.cons (.ret (.bl false)) .nil) .nil) ss) g) :=
  w_ite h ht (fun e => w_retC rfl (h1 e)) fun e => w_cont (h2 e)
theorem i_zipT {a b : E} {r s : List Nat} (ha : E.ev cd a g = .ok (.fz (tupN r))) (hb : E.ev cd b g = .ok (.fz (tupN s))) : It.evi cd (.zip a b) g = .ok ((r.zip s).map prD) := by
  have z : ∀ r s : List Nat, zipD (r.map nD) (s.map nD) = (r.zip s).map prD := by
    intro r
    induction r with
    | nil => intro s; rfl
    | cons x r ih =>
      intro s
      cases s with
      | nil => rfl
      | cons y s => rw [List.map_cons, List.map_cons, zipD, ih, List.zip_cons_cons, List.map_cons]; rfl
  have : It.evi cd (.zip a b) g = .ok (zipD (r.map nD) (s.map nD)) := by
    simp only [It.evi, ha, hb, R.ok_bind, asD_fz]
    rfl
  rw [this, z]
theorem isN_n {x : Nat} : isNone (nD x) = false := rfl
theorem isN_t {x : List Nat} : isNone (tupN x) = false := rfl
theorem isN_none : isNone .none = true := rfl
end
theorem cut_toM {α : Type} {enc : α → D} {l : List α} {k : Nat} (h : k ≤ l.length) : (O.fz (.list (l.map enc))).cut none (some ((k : Nat) : Int)) = .ok (.list ((l.take k).map enc)) := by
  show R.ok (PyData.list (cutD (l.map enc) none (some ((k : Nat) : Int)))) = _
  have e : cutD (l.map enc) none (some ((k : Nat) : Int)) = (l.map enc).take k := by
    unfold cutD
    have h1 : HT.sIx (l.map enc).length 0 none = 0 := rfl
    have h2 : HT.sIx (l.map enc).length (l.map enc).length (some ((k : Nat) : Int)) = k := by
      have z : ¬ ((k : Nat) : Int) < 0 := by omega
      simp [HT.sIx, z]
      omega
    rw [h1, h2]
    rfl
  rw [e, List.map_take]
theorem zipIdx_range {α : Type} (f : Nat → α) (n : Nat) : ((List.range n).map f).zipIdx = (List.range n).map fun a => (f a, a) := by
  refine List.ext_getElem? fun i => ?_
  rw [List.getElem?_zipIdx, List.getElem?_map, List.getElem?_map]
  by_cases h : i < n
  · rw [List.getElem?_range h]; simp
  · rw [List.getElem?_eq_none (by simp; omega)]; rfl
def unlikeN (r s : List Nat) : Nat := ((r.zip s).filter fun p => !decide (p.1 = p.2)).length
/-- at how many marks two places are apart -/
def cntW (w : Web) (ms : List Nat) (a b : Nat) : Nat := (ms.filter fun m => !decide (dis w m a = dis w m b)).length
def sureW (w : Web) (ms : List Nat) (e : Nat) : Bool := (List.range w.1).all fun a => (List.range a).all fun b => decide (2 * e < cntW w ms a b)
theorem unlike_cnt {w : Web} {a b : Nat} : ∀ ms : List Nat, unlikeN (rowW w ms a) (rowW w ms b) = cntW w ms a b
  | [] => rfl
  | m :: ms => by
    have ih := unlike_cnt (w := w) (a := a) (b := b) ms
    unfold unlikeN cntW rowW at ih ⊢
    rw [List.map_cons, List.map_cons, List.zip_cons_cons, List.filter_cons, List.filter_cons]
    by_cases e : dis w m a = dis w m b
    · simp [e, ih]
    · simp [e, ih]
section
variable {T : String → Option Fn} {n : Nat} {w : Web}
theorem c_unlike [Has T "unlike" f_unlike] {r s : List Nat} (hr : r.length ≤ 1000) : callD T 2000 (n + 1) "unlike" [tupN r, tupN s] = .ok (nD (unlikeN r s)) := by
  rw [callH f_unlike]
  refine run_post (g := [some (.fz (tupN r)), some (.fz (tupN s)), none, none]) rfl rfl ?_
  apply w_ret
  · apply e_bi
    · apply es_cons
      · apply e_cmps (enc := prD) (xs := r.zip s) (i_zipT (e_var rfl) (e_var rfl)) (by rw [List.length_zip]; omega)
        intro p hp
        (apply turn_if; (next => sizeOf_list_dec); (next => array_get_dec); (next => array_get_dec))
      · array_get_dec
    · array_get_dec
  · rfl
theorem c_sureIn [Has T "unlike" f_unlike] [Has T "row_in" f_row_in] [Has T "are_sure_in" f_are_sure_in] (h : SmW w) {ms : List Nat} (hm : ∀ m ∈ ms, m < w.1) (hl : ms.length ≤ 1000) {e : Nat} (he : e ≤ 1000) : callD T 2000 (n + 2) "are_sure_in" [dT w, tupN ms, nD e] = .ok (.bool (sureW w ms e)) := by
  rw [callH f_are_sure_in]
  have few := h.few
  have f1 : bi .len [.fz (dT w)] = .ok (nD w.1) := by unfold dT; rw [bi_lenM, List.length_range]
  have f2 := fun p (hp : p < w.1) => c_row (T := T) (n := n) h hm hl hp
  refine run_post (g := [some (.fz (dT w)), some (.fz (tupN ms)), some (.fz (nD e)), none, none, none, none, none]) rfl rfl ?_
  apply w_set
  · apply e_allr (n := w.1)
    · array_get_dec
    · omega
    · intro x hx
      (apply turn_on; (next => sizeOf_list_dec); (next => array_get_dec))
  · sizeOf_list_dec
  have er : E.ev (callD T 2000 (n + 1)) (.var 3) [some (.fz (dT w)), some (.fz (tupN ms)), some (.fz (nD e)), some (.fz (.list ((List.range w.1).map fun x => tupN (rowW w ms x)))), none, none, none, none] = .ok (.fz (.list (((List.range w.1).map (rowW w ms)).map tupN))) := by
    rw [List.map_map]; rfl
  have ie := i_enum er
  rw [zipIdx_range, List.map_map] at ie
  refine w_all (xs := List.range w.1) (fun a => (List.range a).all fun b => decide (2 * e < cntW w ms a b)) ie (fun a ha => ?_) (fun q => ?_) fun q => ?_
  · have ha := List.mem_range.mp ha
    have f3 := fun x => c_unlike (T := T) (n := n) (r := rowW w ms a) (s := rowW w ms x) (by unfold rowW; rw [List.length_map]; exact hl)
    have f4 : bop .mul (nD 2) (nD e) = .ok (nD (2 * e)) := b_mulN (by decide) (by omega)
    apply turnP
    · apply tput2 rfl rfl
      dsimp only [List.set]
    apply w_ifF (t := (List.range a).any fun b => decide (unlikeN (rowW w ms a) (rowW w ms b) ≤ 2 * e))
    · apply e_bi
      · apply es_cons
        · apply e_alls (enc := fun b => tupN (rowW w ms b)) (xs := List.range a)
          · have := seqL (e_sl (cd := callD T 2000 (n + 1)) (g := [some (.fz (dT w)), some (.fz (tupN ms)), some (.fz (nD e)), some (.fz (.list ((List.range w.1).map fun x => tupN (rowW w ms x)))), some (.fz (nD a)), some (.fz (tupN (rowW w ms a))), none, none]) (a := .var 3) (lo := .no) (hi := .so (.var 4)) (e_var rfl) o_no (o_so (e_var rfl)) (cut_toM (enc := fun x => tupN (rowW w ms x)) (l := List.range w.1) (k := a) (by simp; omega)))
            rwa [List.take_range, Nat.min_eq_left (by omega)] at this
          · simp; omega
          · intro b hb
            (apply turn_on; (next => sizeOf_list_dec); (next => array_get_dec))
        · array_get_dec
      · array_get_dec
    · rfl
    · intro q
      refine .inl ⟨?_, rfl⟩
      rw [List.any_eq_true] at q
      obtain ⟨b, hb, q⟩ := q
      rw [List.all_eq_false]
      refine ⟨b, hb, ?_⟩
      rw [unlike_cnt] at q
      simp only [decide_eq_true_eq] at q ⊢
      omega
    · intro q
      refine w_allT ?_ rfl
      rw [List.any_eq_false] at q
      rw [List.all_eq_true]
      intro b hb
      have := q b hb
      rw [unlike_cnt] at this
      simp only [decide_eq_true_eq] at this ⊢
      omega
  · show _ = _
    rw [show sureW w ms e = false from q]
  · refine w_ret rfl ?_
    rw [show sureW w ms e = true from q]
theorem c_sure [Has T "neighbours" f_neighbours] [Has T "steps_from" f_steps_from] [Has T "all_steps" f_all_steps] [Has T "unlike" f_unlike] [Has T "row_in" f_row_in] [Has T "are_sure_in" f_are_sure_in] [Has T "are_sure" f_are_sure] (h : SmW w) {ms : List Nat} (hm : ∀ m ∈ ms, m < w.1) (hl : ms.length ≤ 1000) {e : Nat} (he : e ≤ 1000) : callD T 2000 (n + 4) "are_sure" [webD w, tupN ms, nD e] = .ok (.bool (sureW w ms e)) := by
  rw [callH f_are_sure]
  have f1 := c_all (T := T) (n := n) h
  have f2 := c_sureIn (T := T) (n := n + 1) h hm hl he
  refine run_post (g := [some (.fz (webD w)), some (.fz (tupN ms)), some (.fz (nD e))]) rfl rfl ?_
  (apply w_ret; (next => array_get_dec))
  rfl
theorem c_choose [Has T "choose" f_choose] {m : Nat} {l : List Nat} (hl : l.length ≤ 14) (hm : m ≤ 1000) (hn : m < n) : callD T 2000 n "choose" [listN l, nD m] = .ok (.list ((chooseL m l).map tupN)) :=
  choose_run (fun _ _ => callH f_choose _) m l n hl hm hn
theorem c_allMarks [Has T "choose" f_choose] [Has T "all_marks" f_all_marks] {m : Nat} (hm : m ≤ 14) (hn : m + 2 ≤ n) : callD T 2000 n "all_marks" [nD m] = .ok (.list ((allMarks m).map tupN)) := by
  obtain ⟨n, rfl⟩ : ∃ k, n = k + 1 := ⟨n - 1, by omega⟩
  rw [callH f_all_marks]
  exact allMarks_run hm fun k hk => c_choose (by rw [List.length_range]; exact hm) (by omega) (by omega)
/-- the first of all marks of which something holds -/
def leastOf (w : Web) (p : List Nat → Bool) : Option (List Nat) := (allMarks w.1).find? p
theorem c_leastSure [Has T "neighbours" f_neighbours] [Has T "steps_from" f_steps_from] [Has T "all_steps" f_all_steps] [Has T "unlike" f_unlike] [Has T "row_in" f_row_in] [Has T "are_sure_in" f_are_sure_in] [Has T "choose" f_choose] [Has T "all_marks" f_all_marks] [Has T "least_sure" f_least_sure] (h : SmW w) (h14 : w.1 ≤ 14) (hn : w.1 + 4 ≤ n) {e : Nat} (he : e ≤ 1000) :
    callD T 2000 n "least_sure" [webD w, nD e] = .ok (optM (leastOf w fun ms => sureW w ms e)) := by
  obtain ⟨n, rfl⟩ : ∃ k, n = k + 4 := ⟨n - 4, by omega⟩
  rw [callH f_least_sure]
  have f1 := c_all (T := T) (n := n) h
  have f2 := c_allMarks (T := T) (n := n + 3) h14 (by omega)
  refine run_post (g := [some (.fz (webD w)), some (.fz (nD e)), none, none]) rfl rfl ?_
  (apply w_set; (next => array_get_dec); (next => sizeOf_list_dec))
  apply w_find (fun ms => sureW w ms e) tupN (i_seqL (enc := tupN) (xs := allMarks w.1) (by array_get_dec))
  · intro ms hms
    obtain ⟨h1, h2⟩ := mem_allMarks hms
    have f3 := c_sureIn (T := T) (n := n + 1) h h1 (by omega) he
    (apply turnP; (next => sizeOf_list_dec))
    apply w_iteB
    · array_get_dec
    · intro t
      exact w_retC rfl (.inl ⟨t, rfl⟩)
    · intro t
      exact w_cont (w_nil (.inr ⟨t, _, .inl rfl, rfl⟩))
  · intro ms q
    show _ = _
    unfold leastOf
    rw [q]; rfl
  · intro q
    refine w_ret rfl ?_
    unfold leastOf
    rw [q]; rfl
end
end Q

set_option Elab.async false
set_option linter.all false
set_option maxRecDepth 100000
set_option maxHeartbeats 1000000
/-! W7: least and greatest numbers of a list; by how many marks places are apart. -/
namespace Q
open PySem
set_option hygiene false
local macro_rules | `(tactic| array_get_dec) => `(tactic| (repeat' (first | ((with_reducible apply e_var); rfl) | with_reducible (first | apply e_cmp | apply e_not | apply e_and | apply e_or | apply e_bin | apply e_ix | apply e_call | apply e_bi | apply e_tup | apply e_lst | apply e_rgT | apply e_rgF | apply e_rg1 | apply e_isN | apply es_cons | apply f_cons | apply at_dT | apply at_rT | apply at_mD | apply at_mR | apply at_nT | apply at_nL | apply o_so | apply e_sl | exact e_bl | exact e_non | exact e_str | exact e_l0 | exact e_l1 | exact e_l2 | exact e_l3 | exact e_l4 | exact e_l5 | exact e_l6 | exact e_l7 | exact e_l8 | exact e_l9 | exact e_l10 | exact e_l11 | exact e_l12 | exact e_l13 | exact e_l14 | exact e_l15 | exact e_l16 | exact e_l17 | exact e_l18 | exact e_l19 | exact e_l20 | exact e_intL | exact c_ltN | exact c_leN | exact c_gtN | exact c_geN | exact cop_eqN _ _ | exact cop_neN _ _ | exact c_eqB _ _ | exact cop_neB _ _ | exact c_isB _ _ | exact c_isnB _ _ | exact c_eqT _ _ | exact cop_neT _ _ | exact c_eqL _ _ | exact c_neL _ _ | exact c_eqPs _ _ | exact c_nePs _ _ | exact c_eqLP _ _ | exact c_neLP _ _ | exact c_eqP _ _ | exact c_neP _ _ | exact inN _ _ | exact ninN _ _ | exact c_inP _ _ | exact c_ninP _ _ | exact c_inLN _ _ | exact c_inLP _ _ | exact c_ninLN _ _ | exact c_ninLP _ _ | exact b_addN | exact b_addI | exact bi_tupleN | exact bi_tupleNN | exact bi_listN | exact bi_listNN | exact bi_tupleP | exact bi_lenNT | exact bi_lenL' | exact bi_tupleON | exact neN_nil _ | exact eqN_nil _ | exact neP_nil _ | exact prs_nil _ | exact b_modN (by decide) | exact web_n' | exact web_t' | exact pr_0 | exact pr_1 | exact t_bool | exact f_nil | exact es_nil | exact bi_min | exact bi_max | exact bi_lenM | exact bi_lenTM | exact bi_lenOM | exact bi_any | exact bi_all | exact bi_sortN | exact bi_sortP | exact bi_intB | exact bi_tuple | exact bi_tupleT | exact bi_listL | exact bi_listT | exact bi_tupleO | exact t_list | exact t_ol | exact cut_nT | exact cut_nL | exact o_no | exact isN_n | exact isN_t | exact isN_none | apply f1 | apply f2 | apply f3 | apply f4 | apply f5 | apply f6 | apply f7 | apply f8 | apply f9 | apply f10 | apply f11 | apply f12 | apply f13 | apply f14 | apply f15) | with_reducible assumption | omega)))
local macro_rules | `(tactic| sizeOf_list_dec) => `(tactic| (first | (apply put_lit; (next => rfl); (next => dsimp only [List.set]; try exact rfl)) | (apply tput1; (next => rfl); (next => dsimp only [wipe, List.map, List.set]; try exact rfl)) | (apply tput2; (next => rfl); (next => rfl); (next => dsimp only [wipe, List.map, List.set]; try exact rfl)) | (apply tput3; (next => rfl); (next => rfl); (next => rfl); (next => dsimp only [wipe, List.map, List.set]; try exact rfl))))
def minN : List Nat → Nat
  | [] => 0
  | x :: l => l.foldl min x
def maxN : List Nat → Nat
  | [] => 0
  | x :: l => l.foldl max x
theorem foldl_min_is : ∀ (l : List Nat) (x : Nat), (l.foldl min x = x ∨ l.foldl min x ∈ l) ∧ l.foldl min x ≤ x ∧ ∀ y ∈ l, l.foldl min x ≤ y
  | [], x => ⟨.inl rfl, Nat.le_refl _, fun y h => nomatch h⟩
  | z :: l, x => by
    obtain ⟨h1, h2, h3⟩ := foldl_min_is l (min x z)
    rw [List.foldl_cons]
    refine ⟨?_, by omega, fun y hy => ?_⟩
    · rcases h1 with h1 | h1
      · rw [h1]
        by_cases c : x ≤ z
        · left; omega
        · right; rw [Nat.min_eq_right (by omega)]; exact List.mem_cons_self ..
      · exact .inr (List.mem_cons_of_mem _ h1)
    · rcases List.mem_cons.mp hy with q | q
      · omega
      · exact h3 y q
theorem foldl_max_is : ∀ (l : List Nat) (x : Nat), (l.foldl max x = x ∨ l.foldl max x ∈ l) ∧ x ≤ l.foldl max x ∧ ∀ y ∈ l, y ≤ l.foldl max x
  | [], x => ⟨.inl rfl, Nat.le_refl _, fun y h => nomatch h⟩
  | z :: l, x => by
    obtain ⟨h1, h2, h3⟩ := foldl_max_is l (max x z)
    rw [List.foldl_cons]
    refine ⟨?_, by omega, fun y hy => ?_⟩
    · rcases h1 with h1 | h1
      · rw [h1]
        by_cases c : z ≤ x
        · left; omega
        · right; rw [Nat.max_eq_right (by omega)]; exact List.mem_cons_self ..
      · exact .inr (List.mem_cons_of_mem _ h1)
    · rcases List.mem_cons.mp hy with q | q
      · omega
      · exact h3 y q
theorem minN_is {l : List Nat} (h : l ≠ []) : minN l ∈ l ∧ ∀ y ∈ l, minN l ≤ y := by
  match l, h with
  | x :: l, _ =>
    obtain ⟨h1, h2, h3⟩ := foldl_min_is l x
    refine ⟨?_, fun y hy => ?_⟩
    · rcases h1 with h1 | h1
      · show l.foldl min x ∈ _
        rw [h1]; exact List.mem_cons_self ..
      · exact List.mem_cons_of_mem _ h1
    · rcases List.mem_cons.mp hy with q | q
      · rw [q]; exact h2
      · exact h3 y q
theorem maxN_is {l : List Nat} (h : l ≠ []) : maxN l ∈ l ∧ ∀ y ∈ l, y ≤ maxN l := by
  match l, h with
  | x :: l, _ =>
    obtain ⟨h1, h2, h3⟩ := foldl_max_is l x
    refine ⟨?_, fun y hy => ?_⟩
    · rcases h1 with h1 | h1
      · show l.foldl max x ∈ _
        rw [h1]; exact List.mem_cons_self ..
      · exact List.mem_cons_of_mem _ h1
    · rcases List.mem_cons.mp hy with q | q
      · rw [q]; exact h2
      · exact h3 y q
theorem foldl_min_cast : ∀ (l : List Nat) (x : Nat), (l.map fun (i : Nat) => (i : Int)).foldl min ((x : Nat) : Int) = ((l.foldl min x : Nat) : Int)
  | [], _ => rfl
  | z :: l, x => by
    rw [List.map_cons, List.foldl_cons, List.foldl_cons, show min ((x : Nat) : Int) (z : Int) = ((min x z : Nat) : Int) by omega]
    exact foldl_min_cast l (min x z)
theorem foldl_max_cast : ∀ (l : List Nat) (x : Nat), (l.map fun (i : Nat) => (i : Int)).foldl max ((x : Nat) : Int) = ((l.foldl max x : Nat) : Int)
  | [], _ => rfl
  | z :: l, x => by
    rw [List.map_cons, List.foldl_cons, List.foldl_cons, show max ((x : Nat) : Int) (z : Int) = ((max x z : Nat) : Int) by omega]
    exact foldl_max_cast l (max x z)
theorem bi_min1N {l : List Nat} (h : l ≠ []) : bi .min1 [.fz (listN l)] = .ok (nD (minN l)) := by
  match l, h with
  | x :: l, _ =>
    show (match ints? ((x :: l).map nD) with | some (n :: ns) => R.ok (PyData.int (ns.foldl min n)) | _ => .bad) = _
    rw [ints_n]
    show R.ok (PyData.int ((l.map fun (i : Nat) => (i : Int)).foldl min ((x : Nat) : Int))) = _
    rw [foldl_min_cast]
    rfl
theorem bi_max1N {l : List Nat} (h : l ≠ []) : bi .max1 [.fz (listN l)] = .ok (nD (maxN l)) := by
  match l, h with
  | x :: l, _ =>
    show (match ints? ((x :: l).map nD) with | some (n :: ns) => R.ok (PyData.int (ns.foldl max n)) | _ => .bad) = _
    rw [ints_n]
    show R.ok (PyData.int ((l.map fun (i : Nat) => (i : Int)).foldl max ((x : Nat) : Int))) = _
    rw [foldl_max_cast]
    rfl
def fewL (w : Web) (ms : List Nat) : List Nat := (List.range w.1).flatMap fun a => (List.range a).map fun b => (ms.filter fun m => decide (m ∈ parW w a b)).length
theorem cnt_par {w : Web} {ms : List Nat} (hm : ∀ m ∈ ms, m < w.1) (a b : Nat) : (ms.filter fun m => decide (m ∈ parW w a b)).length = cntW w ms a b := by
  unfold cntW
  refine congrArg List.length (List.filter_congr fun m hmm => ?_)
  rw [Bool.eq_iff_iff]
  simp [mem_parW, hm m hmm]
theorem foldl_mapA {α β : Type} (f : α → β) : ∀ (l : List α) (s : List β), l.foldl (fun s a => s ++ [f a]) s = s ++ l.map f
  | [], s => by simp
  | x :: l, s => by rw [List.foldl_cons, foldl_mapA f l, List.map_cons]; simp
theorem c_fewest {T : String → Option Fn} {n : Nat} {w : Web} [Has T "neighbours" f_neighbours] [Has T "steps_from" f_steps_from] [Has T "all_steps" f_all_steps] [Has T "parters" f_parters] [Has T "_law_fewest" f__law_fewest] (h : SmW w) (h14 : w.1 ≤ 14) (h2 : 2 ≤ w.1) {ms : List Nat} (hl : ms.length ≤ 1000) :
    callD T 2000 (n + 5) "_law_fewest" [webD w, tupN ms] = .ok (nD (minN (fewL w ms))) := by
  rw [callH f__law_fewest]
  refine run_post (g := [some (.fz (webD w)), some (.fz (tupN ms)), none, none, none, none, none]) rfl rfl ?_
  (apply w_setO lst0 rfl; (next => sizeOf_list_dec))
  apply w_foldN (fun s : List Nat => [some (O.fz (webD w)), some (.fz (tupN ms)), some (.ol ((s.map nD).map .fz)), none, none, none, none]) (fun s a => s ++ (List.range a).map fun b => (ms.filter fun m => decide (m ∈ parW w a b)).length) (fun k s => s.length ≤ k * 14) [] (i_rng (n := w.1) (by array_get_dec) (by omega)) rfl (Nat.le_refl _)
  · intro k s a ha hs
    obtain ⟨ha1, ha2⟩ := List.getElem?_eq_some_iff.mp ha
    rw [List.length_range] at ha1
    rw [List.getElem_range] at ha2
    have ha : a < w.1 := by omega
    refine ⟨by rw [List.length_append, List.length_map, List.length_range]; omega, ?_⟩
    (apply turnP; (next => sizeOf_list_dec))
    apply w_foldN (fun s : List Nat => [some (O.fz (webD w)), some (.fz (tupN ms)), some (.ol ((s.map nD).map .fz)), some (.fz (nD a)), none, none, none]) (fun s b => s ++ [(ms.filter fun m => decide (m ∈ parW w a b)).length]) (fun j s => s.length ≤ k * 14 + j) s (i_rng (n := a) (e_var rfl) (by omega)) rfl hs
    · intro j s b hb hs
      obtain ⟨hb1, hb2⟩ := List.getElem?_eq_some_iff.mp hb
      rw [List.length_range] at hb1
      rw [List.getElem_range] at hb2
      have f1 := c_par (T := T) (n := n) h (a := a) (b := b) ha (by omega)
      refine ⟨by rw [List.length_append, List.length_singleton]; omega, ?_⟩
      (apply turnP; (next => sizeOf_list_dec))
      (apply w_set; (next => array_get_dec); (next => sizeOf_list_dec))
      apply w_app rfl
      · apply e_bi
        · apply es_cons
          · apply e_cmps (enc := nD) (xs := ms) (i_seqT (e_var rfl)) (by omega)
            intro m hm
            (apply turn_if; (next => sizeOf_list_dec); (next => array_get_dec); (next => array_get_dec))
          · array_get_dec
        · array_get_dec
      · simp only [List.length_map]; omega
      · sizeOf_list_dec
      refine w_back ?_
      simp only [List.map_append]
      rfl
    · intro _
      refine w_back ?_
      rw [foldl_mapA]
      rfl
  · intro _
    rw [foldl_app, List.nil_append]
    (apply w_frzL; (next => rfl); (next => dsimp only [List.set]; try exact rfl))
    have ne : fewL w ms ≠ [] := by
      unfold fewL
      intro e
      rw [List.flatMap_eq_nil_iff] at e
      have := e 1 (List.mem_range.mpr (by omega))
      simp at this
    have f1 := bi_min1N ne
    apply w_ret
    · apply e_bi
      · array_get_dec
      · exact f1
    · rfl
theorem few_sure {w : Web} (h2 : 2 ≤ w.1) {ms : List Nat} (hm : ∀ m ∈ ms, m < w.1) (e : Nat) : sureW w ms e = decide (2 * e < minN (fewL w ms)) := by
  have ne : fewL w ms ≠ [] := by
    unfold fewL
    intro e
    rw [List.flatMap_eq_nil_iff] at e
    have := e 1 (List.mem_range.mpr (by omega))
    simp at this
  obtain ⟨h3, h4⟩ := minN_is ne
  rw [Bool.eq_iff_iff]
  unfold sureW
  simp only [List.all_eq_true, List.mem_range, decide_eq_true_eq]
  constructor
  · intro z
    unfold fewL at h3
    obtain ⟨a, ha, hx⟩ := List.mem_flatMap.mp h3
    obtain ⟨b, hb, hx⟩ := List.mem_map.mp hx
    rw [List.mem_range] at ha hb
    have := z a ha b hb
    rw [cnt_par hm] at hx
    unfold fewL
    omega
  · intro z a ha b hb
    have := h4 (cntW w ms a b) (by
      unfold fewL
      refine List.mem_flatMap.mpr ⟨a, List.mem_range.mpr ha, List.mem_map.mpr ⟨b, List.mem_range.mpr hb, cnt_par hm a b⟩⟩)
    omega
theorem cnt_mono {w : Web} {ms r : List Nat} (s : ms.Sublist r) (a b : Nat) : cntW w ms a b ≤ cntW w r a b := (s.filter _).length_le
theorem sure_mono {w : Web} {ms r : List Nat} (s : ms.Sublist r) {e f : Nat} (hf : f ≤ e) (h : sureW w ms e = true) : sureW w r f = true := by
  unfold sureW at h ⊢
  simp only [List.all_eq_true, List.mem_range, decide_eq_true_eq] at h ⊢
  intro a ha b hb
  have := h a ha b hb
  have := cnt_mono (w := w) s a b
  omega
/-- against none wrong they are sure if they tell -/
theorem sure_zero {w : Web} {ms : List Nat} : sureW w ms 0 = (blW w ms).isEmpty := by
  rw [Bool.eq_iff_iff, List.isEmpty_iff, List.eq_nil_iff_forall_not_mem]
  unfold sureW cntW
  simp only [List.all_eq_true, List.mem_range, decide_eq_true_eq]
  constructor
  · rintro z ⟨a, b⟩ hq
    obtain ⟨h1, h2, h3⟩ := mem_blW.mp hq
    have := z b h2 a h1
    have e : (ms.filter fun m => !decide (dis w m b = dis w m a)) = [] := by
      rw [List.filter_eq_nil_iff]
      intro m hm
      simp [(h3 m hm).symm]
    rw [e] at this
    simp at this
  · intro z a ha b hb
    have := z (b, a)
    rw [mem_blW] at this
    refine Nat.pos_of_ne_zero fun q => this ⟨hb, ha, fun m hm => ?_⟩
    have q : (ms.filter fun m => !decide (dis w m a = dis w m b)).length = 0 := by omega
    have q := List.length_eq_zero_iff.mp q
    have := List.filter_eq_nil_iff.mp q m hm
    have : dis w m a = dis w m b := by simpa using this
    exact this.symm
end Q

set_option Elab.async false
set_option linter.all false
set_option maxRecDepth 100000
set_option maxHeartbeats 1000000
/-! M2: all sets of places, in order, are all marks. -/
namespace Q
open PySem
theorem pw_ext {α : Type} {R : α → α → Prop} (as : ∀ a b, R a b → R b a → False) : ∀ {a b : List α}, a.Pairwise R → b.Pairwise R → (∀ x, x ∈ a ↔ x ∈ b) → a = b
  | [], [], _, _, _ => rfl
  | [], y :: b, _, _, h => absurd ((h y).mpr (List.mem_cons_self ..)) (List.not_mem_nil)
  | x :: a, [], _, _, h => absurd ((h x).mp (List.mem_cons_self ..)) (List.not_mem_nil)
  | x :: a, y :: b, ha, hb, h => by
    have ha' := List.pairwise_cons.mp ha
    have hb' := List.pairwise_cons.mp hb
    have e : x = y := by
      rcases List.mem_cons.mp ((h x).mp (List.mem_cons_self ..)) with q | q
      · exact q
      · rcases List.mem_cons.mp ((h y).mpr (List.mem_cons_self ..)) with r | r
        · exact r.symm
        · exact (as _ _ (hb'.1 x q) (ha'.1 y r)).elim
    subst e
    rw [pw_ext as ha'.2 hb'.2 fun z => ?_]
    constructor
    · intro q
      rcases List.mem_cons.mp ((h z).mp (List.mem_cons_of_mem _ q)) with r | r
      · subst r; exact (as _ _ (ha'.1 z q) (ha'.1 z q)).elim
      · exact r
    · intro q
      rcases List.mem_cons.mp ((h z).mpr (List.mem_cons_of_mem _ q)) with r | r
      · subst r; exact (as _ _ (hb'.1 z q) (hb'.1 z q)).elim
      · exact r
theorem ltP_as (a b : Nat × Nat) (h : ltP a b) (g : ltP b a) : False := by
  unfold ltP at h g
  omega
theorem blW_lt (w : Web) (ms : List Nat) : (blW w ms).Pairwise ltP := by
  unfold blW
  have key : ∀ (L : List Nat), Up L → (L.flatMap fun a => ((List.range' (a + 1) (w.1 - (a + 1))).filter (same w ms a)).map fun b => (a, b)).Pairwise ltP := by
    intro L
    induction L with
    | nil => intro _; simp
    | cons a L ih =>
      intro h
      have h' := List.pairwise_cons.mp h
      rw [List.flatMap_cons]
      refine List.pairwise_append.mpr ⟨?_, ih h'.2, ?_⟩
      · refine List.pairwise_map.mpr (List.Pairwise.filter _ ?_)
        refine List.Pairwise.imp ?_ (List.pairwise_lt_range' (s := a + 1) (n := w.1 - (a + 1)) (step := 1))
        intro x y q
        exact .inr ⟨rfl, q⟩
      · intro p hp q hq
        obtain ⟨x, _, rfl⟩ := List.mem_map.mp hp
        obtain ⟨b, hb, hq⟩ := List.mem_flatMap.mp hq
        obtain ⟨y, _, rfl⟩ := List.mem_map.mp hq
        exact .inl (h'.1 b hb)
  exact key _ (range_up _)
def setOf (n x : Nat) : List Nat := (List.range n).filter fun p => decide (x / 2 ^ p % 2 = 1)
theorem setOf_up (n x : Nat) : Up (setOf n x) ∧ ∀ p ∈ setOf n x, p < n := ⟨List.Pairwise.filter _ (range_up n), fun p hp => List.mem_range.mp (List.mem_filter.mp hp).1⟩
theorem setOf_succ (n x : Nat) : setOf (n + 1) x = setOf n x ++ if x / 2 ^ n % 2 = 1 then [n] else [] := by
  unfold setOf
  rw [List.range_succ, List.filter_append]
  congr 1
  by_cases h : x / 2 ^ n % 2 = 1 <;> simp [h]
theorem setOf_add (n x k : Nat) : setOf n (x + 2 ^ n * k) = setOf n x := by
  refine List.filter_congr fun p hp => ?_
  have hp := List.mem_range.mp hp
  have e : 2 ^ n * k = 2 ^ p * (2 * (2 ^ (n - p - 1) * k)) := by
    have : 2 ^ n = 2 ^ p * (2 * 2 ^ (n - p - 1)) := by
      rw [← Nat.pow_succ', ← Nat.pow_add]
      congr 1
      omega
    rw [this, Nat.mul_assoc, Nat.mul_assoc]
  rw [e, Nat.add_mul_div_left _ _ (Nat.pow_pos (by decide)), Nat.add_mul_mod_self_left]
theorem setOf_all : ∀ (n : Nat) (ms : List Nat), Up ms → (∀ m ∈ ms, m < n) → ∃ x, x < 2 ^ n ∧ setOf n x = ms
  | 0, ms, _, h => ⟨0, by decide, by
    cases ms with
    | nil => rfl
    | cons m ms => exact absurd (h m (List.mem_cons_self ..)) (Nat.not_lt_zero _)⟩
  | n + 1, ms, hu, h => by
    have hf : Up (ms.filter fun m => decide (m < n)) := List.Pairwise.filter _ hu
    obtain ⟨x, hx, e⟩ := setOf_all n (ms.filter fun m => decide (m < n)) hf fun m hm => by simpa using (List.mem_filter.mp hm).2
    by_cases hn : n ∈ ms
    · refine ⟨x + 2 ^ n * 1, by rw [Nat.pow_succ]; omega, ?_⟩
      have b1 : (x + 2 ^ n * 1) / 2 ^ n % 2 = 1 := by
        rw [Nat.add_mul_div_left _ _ (Nat.pow_pos (by decide)), Nat.div_eq_of_lt hx]
      rw [setOf_succ, setOf_add, e, if_pos b1]
      refine up_ext ?_ hu fun m => ?_
      · refine List.pairwise_append.mpr ⟨hf, List.pairwise_singleton _ _, fun a ha b hb => ?_⟩
        rw [List.mem_singleton.mp hb]
        simpa using (List.mem_filter.mp ha).2
      · rw [List.mem_append, List.mem_filter, List.mem_singleton]
        constructor
        · rintro (q | q)
          · exact q.1
          · rw [q]; exact hn
        · intro q
          by_cases z : m = n
          · exact .inr z
          · exact .inl ⟨q, by have := h m q; simp; omega⟩
    · refine ⟨x, by rw [Nat.pow_succ]; omega, ?_⟩
      have b0 : ¬ x / 2 ^ n % 2 = 1 := by rw [Nat.div_eq_of_lt hx]; decide
      rw [setOf_succ, e, if_neg b0, List.append_nil]
      refine up_ext hf hu fun m => ?_
      rw [List.mem_filter]
      refine ⟨fun q => q.1, fun q => ⟨q, ?_⟩⟩
      have := h m q
      have z : m ≠ n := fun z => hn (by rw [← z]; exact q)
      simp
      omega
theorem setOf_inj : ∀ (n x y : Nat), x < 2 ^ n → y < 2 ^ n → setOf n x = setOf n y → x = y
  | 0, x, y, hx, hy, _ => by omega
  | n + 1, x, y, hx, hy, h => by
    rw [setOf_succ, setOf_succ] at h
    have nx : n ∉ setOf n x := fun z => Nat.lt_irrefl _ ((setOf_up n x).2 n z)
    have ny : n ∉ setOf n y := fun z => Nat.lt_irrefl _ ((setOf_up n y).2 n z)
    have hb : x / 2 ^ n % 2 = 1 ↔ y / 2 ^ n % 2 = 1 := by
      have m : n ∈ setOf n x ++ (if x / 2 ^ n % 2 = 1 then [n] else []) ↔ n ∈ setOf n y ++ (if y / 2 ^ n % 2 = 1 then [n] else []) := by rw [h]
      by_cases a : x / 2 ^ n % 2 = 1 <;> by_cases b : y / 2 ^ n % 2 = 1 <;> simp [a, b, nx, ny] at m ⊢
    have hl : setOf n x = setOf n y := by
      by_cases a : x / 2 ^ n % 2 = 1
      · rw [if_pos a, if_pos (hb.mp a)] at h
        exact List.append_cancel_right h
      · rw [if_neg a, if_neg fun z => a (hb.mpr z), List.append_nil, List.append_nil] at h
        exact h
    have d1 := Nat.div_add_mod x (2 ^ n)
    have d2 := Nat.div_add_mod y (2 ^ n)
    have m1 : x % 2 ^ n < 2 ^ n := Nat.mod_lt _ (Nat.pow_pos (by decide))
    have m2 : y % 2 ^ n < 2 ^ n := Nat.mod_lt _ (Nat.pow_pos (by decide))
    have l1 : setOf n (x % 2 ^ n) = setOf n x := by
      have := setOf_add n (x % 2 ^ n) (x / 2 ^ n)
      rw [Nat.add_comm, d1] at this
      exact this.symm
    have l2 : setOf n (y % 2 ^ n) = setOf n y := by
      have := setOf_add n (y % 2 ^ n) (y / 2 ^ n)
      rw [Nat.add_comm, d2] at this
      exact this.symm
    have e := setOf_inj n (x % 2 ^ n) (y % 2 ^ n) m1 m2 (by rw [l1, l2, hl])
    have q1 : x / 2 ^ n < 2 := by
      rw [Nat.div_lt_iff_lt_mul (Nat.pow_pos (by decide))]
      rw [Nat.pow_succ] at hx
      omega
    have q2 : y / 2 ^ n < 2 := by
      rw [Nat.div_lt_iff_lt_mul (Nat.pow_pos (by decide))]
      rw [Nat.pow_succ] at hy
      omega
    have q3 : x / 2 ^ n = y / 2 ^ n := by
      generalize x / 2 ^ n = u at hb q1
      generalize y / 2 ^ n = v at hb q2
      have h0 : u % 2 = v % 2 := by
        by_cases a : u % 2 = 1
        · have := hb.mp a; omega
        · have : ¬ v % 2 = 1 := fun z => a (hb.mpr z)
          omega
      omega
    rw [← d1, ← d2, q3, e]
/-- the row by which a set is sorted -/
def szRow (s : List Nat) : List Int := ((s.length : Nat) : Int) :: s.map fun (i : Nat) => (i : Int)
theorem lex_of_lt : ∀ (a b : List Nat), a < b → lexLt (a.map fun (i : Nat) => (i : Int)) (b.map fun (i : Nat) => (i : Int)) = true
  | [], [], h => absurd h (List.lt_irrefl _)
  | [], _ :: _, _ => rfl
  | x :: a, [], h => absurd h (List.not_lt_nil _)
  | x :: a, y :: b, h => by
    rw [List.map_cons, List.map_cons, lexLt]
    rcases List.cons_lt_cons_iff.mp h with q | ⟨q, r⟩
    · rw [if_neg (by omega)]
      exact decide_eq_true (by omega)
    · rw [if_pos (by omega)]
      exact lex_of_lt a b r
theorem szRow_lt {a b : List Nat} (h : ltM a b) : lexLt (szRow a) (szRow b) = true := by
  unfold szRow
  rw [lexLt]
  rcases h with h | ⟨h1, h2⟩
  · rw [if_neg (by omega)]
    exact decide_eq_true (by omega)
  · rw [if_pos (by omega)]
    exact lex_of_lt a b h2
theorem lex_asy (x y : List Int) (h : lexLt x y = true) : lexLt y x = false := by
  induction x generalizing y with
  | nil =>
    cases y with
    | nil => cases h
    | cons y ys => rfl
  | cons x xs ih =>
    cases y with
    | nil => cases h
    | cons y ys =>
      rw [lexLt] at h ⊢
      by_cases e : x = y
      · rw [if_pos e] at h
        rw [if_pos e.symm]
        exact ih ys h
      · rw [if_neg e] at h
        rw [if_neg fun z => e z.symm]
        have := of_decide_eq_true h
        exact decide_eq_false (by omega)
theorem ltM_irr {a : List Nat} (h : ltM a a) : False := by
  rcases h with h | ⟨_, h⟩
  · omega
  · exact List.lt_irrefl _ h
theorem allM_nodup (n : Nat) : (allMarks n).Nodup := List.Pairwise.imp (fun {a b} (h : ltM a b) (e : a = b) => ltM_irr (a := b) (by rw [e] at h; exact h)) (allM_lt n)
theorem sets_perm (n : Nat) : (allMarks n).Perm ((List.range (2 ^ n)).map (setOf n)) := by
  have nd : ((List.range (2 ^ n)).map (setOf n)).Nodup := by
    refine List.pairwise_map.mpr (List.Pairwise.imp_of_mem ?_ List.nodup_range)
    intro a b ha hb e q
    exact e (setOf_inj n a b (List.mem_range.mp ha) (List.mem_range.mp hb) q)
  rw [List.perm_ext_iff_of_nodup (allM_nodup n) nd]
  intro ms
  rw [mem_allM, List.mem_map]
  constructor
  · rintro ⟨h1, h2⟩
    obtain ⟨x, hx, e⟩ := setOf_all n ms h1 h2
    exact ⟨x, List.mem_range.mpr hx, e⟩
  · rintro ⟨x, _, rfl⟩
    exact setOf_up n x
end Q

set_option Elab.async false
set_option linter.all false
set_option maxRecDepth 100000
set_option maxHeartbeats 1000000
/-! W8: the least marks, and by hand. -/
namespace Q
open PySem
set_option hygiene false
local macro_rules | `(tactic| array_get_dec) => `(tactic| (repeat' (first | ((with_reducible apply e_var); rfl) | with_reducible (first | apply e_cmp | apply e_not | apply e_and | apply e_or | apply e_bin | apply e_ix | apply e_call | apply e_bi | apply e_tup | apply e_lst | apply e_rgT | apply e_rgF | apply e_rg1 | apply e_isN | apply es_cons | apply f_cons | apply at_dT | apply at_rT | apply at_mD | apply at_mR | apply at_nT | apply at_nL | apply o_so | apply e_sl | exact e_bl | exact e_non | exact e_str | exact e_l0 | exact e_l1 | exact e_l2 | exact e_l3 | exact e_l4 | exact e_l5 | exact e_l6 | exact e_l7 | exact e_l8 | exact e_l9 | exact e_l10 | exact e_l11 | exact e_l12 | exact e_l13 | exact e_l14 | exact e_l15 | exact e_l16 | exact e_l17 | exact e_l18 | exact e_l19 | exact e_l20 | exact e_intL | exact c_ltN | exact c_leN | exact c_gtN | exact c_geN | exact cop_eqN _ _ | exact cop_neN _ _ | exact c_eqB _ _ | exact cop_neB _ _ | exact c_isB _ _ | exact c_isnB _ _ | exact c_eqT _ _ | exact cop_neT _ _ | exact c_eqL _ _ | exact c_neL _ _ | exact c_eqPs _ _ | exact c_nePs _ _ | exact c_eqLP _ _ | exact c_neLP _ _ | exact c_eqP _ _ | exact c_neP _ _ | exact inN _ _ | exact ninN _ _ | exact c_inP _ _ | exact c_ninP _ _ | exact c_inLN _ _ | exact c_inLP _ _ | exact c_ninLN _ _ | exact c_ninLP _ _ | exact b_addN | exact b_addI | exact bi_tupleN | exact bi_tupleNN | exact bi_listN | exact bi_listNN | exact bi_tupleP | exact bi_lenNT | exact bi_lenL' | exact bi_tupleON | exact neN_nil _ | exact eqN_nil _ | exact neP_nil _ | exact prs_nil _ | exact b_modN (by decide) | exact web_n' | exact web_t' | exact pr_0 | exact pr_1 | exact t_bool | exact f_nil | exact es_nil | exact bi_min | exact bi_max | exact bi_lenM | exact bi_lenTM | exact bi_lenOM | exact bi_any | exact bi_all | exact bi_sortN | exact bi_sortP | exact bi_intB | exact bi_tuple | exact bi_tupleT | exact bi_listL | exact bi_listT | exact bi_tupleO | exact t_list | exact t_ol | exact cut_nT | exact cut_nL | exact o_no | exact isN_n | exact isN_t | exact isN_none | apply f1 | apply f2 | apply f3 | apply f4 | apply f5 | apply f6 | apply f7 | apply f8 | apply f9 | apply f10 | apply f11 | apply f12 | apply f13 | apply f14 | apply f15) | with_reducible assumption | omega)))
local macro_rules | `(tactic| sizeOf_list_dec) => `(tactic| (first | (apply put_lit; (next => rfl); (next => dsimp only [List.set]; try exact rfl)) | (apply tput1; (next => rfl); (next => dsimp only [wipe, List.map, List.set]; try exact rfl)) | (apply tput2; (next => rfl); (next => rfl); (next => dsimp only [wipe, List.map, List.set]; try exact rfl)) | (apply tput3; (next => rfl); (next => rfl); (next => rfl); (next => dsimp only [wipe, List.map, List.set]; try exact rfl))))
abbrev setsD (n : Nat) : D := .list ((allMarks n).map tupN)
theorem szD (s : List Nat) : ptD (szRow s) = .tuple [nD s.length, tupN s] := by
  show PyData.tuple [nD s.length, PyData.tuple ((s.map fun (i : Nat) => (i : Int)).map PyData.int)] = _
  rw [List.map_map]
  rfl
theorem pt_rows : ∀ L : List (List Nat), ptRows? (L.map fun s => PyData.tuple [nD s.length, tupN s]) = some (L.map szRow)
  | [] => rfl
  | s :: L => by
    show (match ints? (s.map nD), ptRows? (L.map fun s => PyData.tuple [nD s.length, tupN s]) with | some ns, some y => some ((((s.length : Nat) : Int) :: ns) :: y) | _, _ => none) = _
    rw [ints_n, pt_rows L]
    rfl
theorem no_ints {s : List Nat} {L : List D} : ints? (PyData.tuple [nD s.length, tupN s] :: L) = none := rfl
theorem no_rows {s : List Nat} {L : List D} : intRows? (PyData.tuple [nD s.length, tupN s] :: L) = none := rfl
theorem sort_sets (n : Nat) : sortD (((List.range (2 ^ n)).map (setOf n)).map fun s => PyData.tuple [nD s.length, tupN s]) = .ok ((allMarks n).map fun s => PyData.tuple [nD s.length, tupN s]) := by
  have e : sortR (((List.range (2 ^ n)).map (setOf n)).map szRow) = (allMarks n).map szRow := by
    refine (sortR_unique ((sets_perm n).map szRow) ?_).symm
    refine List.pairwise_map.mpr ((allM_lt n).imp fun {a b} h => ?_)
    exact lex_asy _ _ (szRow_lt h)
  have ne : ∃ x l, List.range (2 ^ n) = x :: l := by
    cases q : List.range (2 ^ n) with
    | nil =>
      have : (List.range (2 ^ n)).length = 0 := by rw [q]; rfl
      rw [List.length_range] at this
      have := Nat.pow_pos (n := n) (show 0 < 2 by decide)
      omega
    | cons x l => exact ⟨x, l, rfl⟩
  have p := pt_rows ((List.range (2 ^ n)).map (setOf n))
  obtain ⟨x, l, h⟩ := ne
  unfold sortD
  rw [h, List.map_cons, List.map_cons, no_ints, no_rows]
  rw [h, List.map_cons, List.map_cons] at p
  rw [h, List.map_cons, List.map_cons] at e
  show (match ptRows? _ with | some rs => R.ok ((sortR rs).map ptD) | none => .bad) = _
  rw [p]
  show R.ok ((sortR _).map ptD) = _
  rw [List.map_cons, e, List.map_map]
  exact congrArg R.ok (List.map_congr_left fun s _ => szD s)
theorem b_shl1 {n : Nat} (h : n ≤ 60) : bop .shl (nD 1) (nD n) = .ok (nD (2 ^ n)) := by
  show (if shlOk 1 (n : Int) then R.ok (PyData.int (1 * 2 ^ ((n : Nat) : Int).toNat)) else .bad) = _
  rw [if_pos (show shlOk 1 (n : Int) = true from decide_eq_true ⟨by omega, by omega, by decide⟩)]
  congr 2
  simp
theorem b_shr {x k : Nat} : bop .shr (nD x) (nD k) = .ok (nD (x / 2 ^ k)) := by
  show (if decide ((0 : Int) ≤ (k : Int)) then R.ok (PyData.int ((x : Int) / 2 ^ ((k : Nat) : Int).toNat)) else .bad) = _
  rw [if_pos (decide_eq_true (by omega))]
  congr 2
theorem b_band {x : Nat} : bop .band (nD x) (nD 1) = .ok (nD (x % 2)) := by
  show (if decide ((0 : Int) ≤ (x : Int) ∧ (1 : Int) = 1) then R.ok (PyData.int ((x : Int) % 2)) else .bad) = _
  rw [if_pos (decide_eq_true ⟨by omega, rfl⟩)]
  congr 2
theorem row_same {w : Web} {ms : List Nat} {a b : Nat} : rowW w ms a = rowW w ms b ↔ ∀ m ∈ ms, dis w m a = dis w m b := by
  unfold rowW
  rw [List.map_inj_left]
def blL (w : Web) (ms : List Nat) : List (Nat × Nat) := (List.range w.1).flatMap fun b => ((List.range b).filter fun a => decide (rowW w ms a = rowW w ms b)).map fun a => (a, b)
theorem mem_blL {w : Web} {ms : List Nat} {a b : Nat} : (a, b) ∈ blL w ms ↔ (a, b) ∈ blW w ms := by
  rw [mem_blW]
  unfold blL
  simp only [List.mem_flatMap, List.mem_range, List.mem_map, List.mem_filter, decide_eq_true_eq, Prod.mk.injEq, row_same]
  constructor
  · rintro ⟨y, hy, x, ⟨hx, hs⟩, rfl, rfl⟩
    exact ⟨hx, hy, hs⟩
  · rintro ⟨h1, h2, h3⟩
    exact ⟨b, h2, a, ⟨h1, h3⟩, rfl, rfl⟩
theorem blL_nodup (w : Web) (ms : List Nat) : (blL w ms).Nodup := by
  unfold blL
  have key : ∀ (L : List Nat), L.Nodup → (L.flatMap fun b => ((List.range b).filter fun a => decide (rowW w ms a = rowW w ms b)).map fun a => (a, b)).Nodup := by
    intro L
    induction L with
    | nil => intro _; simp
    | cons b L ih =>
      intro h
      have h' := List.nodup_cons.mp h
      rw [List.flatMap_cons]
      refine List.nodup_append.mpr ⟨?_, ih h'.2, ?_⟩
      · refine List.pairwise_map.mpr (List.Pairwise.filter _ (List.nodup_range.imp fun {x y} q e => q (Prod.mk.inj e).1))
      · intro p hp q hq e
        obtain ⟨x, _, rfl⟩ := List.mem_map.mp hp
        obtain ⟨b', hb, hq⟩ := List.mem_flatMap.mp hq
        obtain ⟨y, _, rfl⟩ := List.mem_map.mp hq
        have := (Prod.mk.inj e).2
        exact h'.1 (by rw [this]; exact hb)
  exact key _ List.nodup_range
theorem sort_blL (w : Web) (ms : List Nat) : sortP (blL w ms) = blW w ms := by
  refine pw_ext ltP_as (sortP_lt (blL_nodup w ms)) (blW_lt w ms) fun p => ?_
  obtain ⟨a, b⟩ := p
  rw [(sortP_perm _).mem_iff]
  exact mem_blL
section
variable {T : String → Option Fn} {n : Nat} {w : Web}
theorem c_lawrow [Has T "_law_row" f__law_row] {ms : List Nat} (hm : ∀ m ∈ ms, m < w.1) (hl : ms.length ≤ 1000) {p : Nat} (hp : p < w.1) : callD T 2000 (n + 1) "_law_row" [mxD w, tupN ms, nD p] = .ok (tupN (rowW w ms p)) := by
  rw [callH f__law_row]
  refine run_post (g := [some (.fz (mxD w)), some (.fz (tupN ms)), some (.fz (nD p)), none]) rfl rfl ?_
  apply w_ret
  · apply e_bi
    · apply es_cons
      · apply e_alls (enc := nD) (xs := ms) (i_seqT (e_var rfl)) (by omega)
        intro m hmm
        have := hm m hmm
        (apply turn_on; (next => sizeOf_list_dec); (next => array_get_dec))
      · array_get_dec
    · array_get_dec
  · unfold rowW tupN
    rw [List.map_map]
    rfl
theorem len_mD : bi .len [.fz (mxD w)] = .ok (nD w.1) := by unfold mxD; rw [bi_lenM, List.length_range]
theorem len_dT : bi .len [.fz (dT w)] = .ok (nD w.1) := by unfold dT; rw [bi_lenM, List.length_range]
theorem c_lawbl [Has T "_law_row" f__law_row] [Has T "_law_blurred" f__law_blurred] (h14 : w.1 ≤ 14) {ms : List Nat} (hm : ∀ m ∈ ms, m < w.1) (hl : ms.length ≤ 1000) : callD T 2000 (n + 2) "_law_blurred" [mxD w, tupN ms] = .ok (lstP (blW w ms)) := by
  rw [callH f__law_blurred]
  have f1 := len_mD (w := w)
  have f2 := fun p (hp : p < w.1) => c_lawrow (T := T) (n := n) hm hl hp
  refine run_post (g := [some (.fz (mxD w)), some (.fz (tupN ms)), none, none, none]) rfl rfl ?_
  (apply w_setO lst0 rfl; (next => sizeOf_list_dec))
  apply w_foldN (fun s : List (Nat × Nat) => [some (O.fz (mxD w)), some (.fz (tupN ms)), some (.ol ((s.map prD).map .fz)), none, none]) (fun s b => s ++ ((List.range b).filter fun a => decide (rowW w ms a = rowW w ms b)).map fun a => (a, b)) (fun k s => s.length ≤ k * 14) [] (i_rng (n := w.1) (by array_get_dec) (by omega)) rfl (Nat.le_refl _)
  · intro k s b hb hs
    obtain ⟨hb1, hb2⟩ := List.getElem?_eq_some_iff.mp hb
    rw [List.length_range] at hb1
    rw [List.getElem_range] at hb2
    have hb : b < w.1 := by omega
    have lf : ((List.range b).filter fun a => decide (rowW w ms a = rowW w ms b)).length ≤ b := by
      have := List.length_filter_le (fun a => decide (rowW w ms a = rowW w ms b)) (List.range b)
      rwa [List.length_range] at this
    refine ⟨by rw [List.length_append, List.length_map]; omega, ?_⟩
    (apply turnP; (next => sizeOf_list_dec))
    apply w_foldN (fun s : List (Nat × Nat) => [some (O.fz (mxD w)), some (.fz (tupN ms)), some (.ol ((s.map prD).map .fz)), some (.fz (nD b)), none]) (fun s a => s ++ (if decide (rowW w ms a = rowW w ms b) then [(a, b)] else [])) (fun j s => s.length ≤ k * 14 + j) s (i_rng (n := b) (e_var rfl) (by omega)) rfl hs
    · intro j s a ha hs
      obtain ⟨ha1, ha2⟩ := List.getElem?_eq_some_iff.mp ha
      rw [List.length_range] at ha1
      rw [List.getElem_range] at ha2
      have ha : a < w.1 := by omega
      refine ⟨by rw [List.length_append]; split <;> simp <;> omega, ?_⟩
      (apply turnP; (next => sizeOf_list_dec))
      apply w_iteB
      · array_get_dec
      · intro t
        refine w_app rfl (d := prD (a, b)) ?_ (by simp; omega) rfl (w_cont (w_back ?_))
        · exact pair_ev (e_var rfl) (e_var rfl)
        · rw [if_pos t]
          simp only [List.map_append]
          rfl
      · intro t
        refine w_cont (w_back ?_)
        rw [if_neg (by rw [t]; decide), List.append_nil]
        rfl
    · intro _
      refine w_back ?_
      rw [foldl_app]
      have e : ((List.range b).flatMap fun a => if decide (rowW w ms a = rowW w ms b) then [(a, b)] else []) = ((List.range b).filter fun a => decide (rowW w ms a = rowW w ms b)).map fun a => (a, b) := by
        generalize List.range b = L
        induction L with
        | nil => rfl
        | cons x L ih =>
          rw [List.flatMap_cons, ih, List.filter_cons]
          split <;> simp
      rw [e]
      rfl
  · intro _
    rw [foldl_app, List.nil_append]
    (apply w_frzL; (next => rfl); (next => dsimp only [List.set]; try exact rfl))
    apply w_ret
    · array_get_dec
    · show _ = _
      rw [show ((List.range w.1).flatMap fun b => ((List.range b).filter fun a => decide (rowW w ms a = rowW w ms b)).map fun a => (a, b)) = blL w ms from rfl, sort_blL]
theorem c_sets [Has T "_law_sets" f__law_sets] {m : Nat} (hm : m ≤ 14) : callD T 2000 (n + 1) "_law_sets" [nD m] = .ok (setsD m) := by
  rw [callH f__law_sets]
  have p2 : 2 ^ m ≤ 16384 := Nat.pow_le_pow_right (by decide) hm
  have f1 := b_shl1 (n := m) (by omega)
  have f2 := fun x k => b_shr (x := x) (k := k)
  have f3 := fun x => b_band (x := x)
  refine run_post (g := [some (.fz (nD m)), none, none, none, none, none]) rfl rfl ?_
  (apply w_setO lst0 rfl; (next => sizeOf_list_dec))
  apply w_foldN (fun s : List (List Nat) => [some (O.fz (nD m)), some (.ol ((s.map tupN).map .fz)), none, none, none, none]) (fun s x => s ++ [setOf m x]) (fun k s => s.length ≤ k) [] (i_rng (n := 2 ^ m) (by array_get_dec) (by omega)) rfl (Nat.le_refl _)
  · intro k s x hx hs
    obtain ⟨hx1, hx2⟩ := List.getElem?_eq_some_iff.mp hx
    rw [List.length_range] at hx1
    refine ⟨by rw [List.length_append, List.length_singleton]; omega, ?_⟩
    (apply turnP; (next => sizeOf_list_dec))
    refine w_app rfl (d := tupN (setOf m x)) ?_ (by simp; omega) rfl (w_back ?_)
    · apply e_bi
      · apply es_cons
        · apply e_cmpr (n := m) (p := fun p => decide (x / 2 ^ p % 2 = 1)) (r := nD) (e_var rfl) (by omega)
          intro p hp
          (apply turn_if; (next => sizeOf_list_dec); (next => array_get_dec); (next => array_get_dec))
        · array_get_dec
      · rfl
    · simp only [List.map_append]
      rfl
  · intro _
    rw [foldl_mapA, List.nil_append]
    (apply w_frzL; (next => rfl); (next => dsimp only [List.set]; try exact rfl))
    apply w_ret (d := setsD m)
    · have es : E.ev (callD T 2000 n) (.bi .sorted (.cons (.comp (.n 4) [("_law_some", 4)] (.seq (.var 1)) .no (.tup (.cons (.bi .len (.cons (.var 4) .nil)) (.cons (.var 4) .nil)))) .nil)) [some (O.fz (nD m)), some (.fz (.list (((List.range (2 ^ m)).map (setOf m)).map tupN))), none, none, none, none] = .ok (.fz (.list ((allMarks m).map fun s => PyData.tuple [nD s.length, tupN s]))) := by
        apply e_bi
        · apply es_cons
          · apply e_alls (enc := tupN) (xs := (List.range (2 ^ m)).map (setOf m)) (r := fun s => PyData.tuple [nD s.length, tupN s]) (i_seqL (e_var rfl)) (by simp; omega)
            intro s hs
            (apply turn_on; (next => sizeOf_list_dec); (next => array_get_dec))
          · array_get_dec
        · rw [bi_sorted, sort_sets]; rfl
      have al : (allMarks m).length ≤ 1000000 := by
        rw [(sets_perm m).length_eq, List.length_map, List.length_range]; omega
      apply e_alls (enc := fun s => PyData.tuple [nD s.length, tupN s]) (xs := allMarks m) (r := tupN) (i_seqL es) al
      intro s hs
      (apply turn_on; (next => sizeOf_list_dec); (next => array_get_dec))
    · rfl
theorem c_least [Has T "neighbours" f_neighbours] [Has T "steps_from" f_steps_from] [Has T "all_steps" f_all_steps] [Has T "row_in" f_row_in] [Has T "blurred_in" f_blurred_in] [Has T "choose" f_choose] [Has T "all_marks" f_all_marks] [Has T "least_marks" f_least_marks] (h : SmW w) (h14 : w.1 ≤ 14) (hn : w.1 + 4 ≤ n) :
    callD T 2000 n "least_marks" [webD w] = .ok (optM (leastOf w fun ms => (blW w ms).isEmpty)) := by
  obtain ⟨n, rfl⟩ : ∃ k, n = k + 4 := ⟨n - 4, by omega⟩
  rw [callH f_least_marks]
  have f1 := c_all (T := T) (n := n) h
  have f2 := c_allMarks (T := T) (n := n + 3) h14 (by omega)
  refine run_post (g := [some (.fz (webD w)), none, none]) rfl rfl ?_
  (apply w_set; (next => array_get_dec); (next => sizeOf_list_dec))
  apply w_find (fun ms => (blW w ms).isEmpty) tupN (i_seqL (enc := tupN) (xs := allMarks w.1) (by array_get_dec))
  · intro ms hms
    obtain ⟨h1, h2⟩ := mem_allMarks hms
    have f3 := c_bl (T := T) (n := n + 1) h h1 (by omega)
    (apply turnP; (next => sizeOf_list_dec))
    have e : (!(!((blW w ms).map prD).isEmpty)) = (blW w ms).isEmpty := by cases blW w ms <;> rfl
    apply w_iteB
    · array_get_dec
    · intro t
      rw [e] at t
      exact w_retC rfl (.inl ⟨t, rfl⟩)
    · intro t
      rw [e] at t
      exact w_cont (w_nil (.inr ⟨t, _, .inl rfl, rfl⟩))
  · intro ms q
    show _ = _
    unfold leastOf
    rw [q]; rfl
  · intro q
    refine w_ret rfl ?_
    unfold leastOf
    rw [q]; rfl
/-- all places tell -/
theorem all_tell (h : SmW w) : (blW w (List.range w.1)).isEmpty = true := by
  rw [List.isEmpty_iff, List.eq_nil_iff_forall_not_mem]
  rintro ⟨a, b⟩ hq
  obtain ⟨h1, h2, h3⟩ := mem_blW.mp hq
  have ha : a < w.1 := by omega
  have e := h3 a (List.mem_range.mpr ha)
  rw [(h.zero ha ha).mpr rfl] at e
  have := (h.zero ha h2).mp e.symm
  omega
/-- .. all but the last -/
theorem but_tell (h : SmW w) : (blW w (List.range (w.1 - 1))).isEmpty = true := by
  rw [List.isEmpty_iff, List.eq_nil_iff_forall_not_mem]
  rintro ⟨a, b⟩ hq
  obtain ⟨h1, h2, h3⟩ := mem_blW.mp hq
  have ha : a < w.1 := by omega
  have e := h3 a (List.mem_range.mpr (by omega))
  rw [(h.zero ha ha).mpr rfl] at e
  have := (h.zero ha h2).mp e.symm
  omega
/-- there are least marks -/
theorem least_some (h : SmW w) : ∃ ms, leastOf w (fun ms => (blW w ms).isEmpty) = some ms ∧ (Up ms ∧ ∀ m ∈ ms, m < w.1) ∧ (blW w ms).isEmpty = true ∧ ms.length ≤ w.1 - 1 ∧ ∀ r, Up r → (∀ x ∈ r, x < w.1) → (blW w r).isEmpty = true → ms = r ∨ ltM ms r := by
  cases q : leastOf w fun ms => (blW w ms).isEmpty with
  | none =>
    have := least_none q (r := List.range w.1) (range_up _) (fun m z => List.mem_range.mp z)
    rw [all_tell h] at this
    cases this
  | some ms =>
    obtain ⟨h1, h2, h3⟩ := least_is q
    refine ⟨ms, rfl, h2, h1, ?_, h3⟩
    have := ltM.le (h3 (List.range (w.1 - 1)) (range_up _) (fun x z => by have := List.mem_range.mp z; omega) (but_tell h))
    rwa [List.length_range] at this
theorem c_enough [Has T "neighbours" f_neighbours] [Has T "steps_from" f_steps_from] [Has T "all_steps" f_all_steps] [Has T "row_in" f_row_in] [Has T "blurred_in" f_blurred_in] [Has T "choose" f_choose] [Has T "all_marks" f_all_marks] [Has T "least_marks" f_least_marks] [Has T "enough" f_enough] (h : SmW w) (h14 : w.1 ≤ 14) (hn : w.1 + 5 ≤ n) {ms : List Nat} (hm : leastOf w (fun ms => (blW w ms).isEmpty) = some ms) (k : Nat) :
    callD T 2000 n "enough" [webD w, nD k] = .ok (.bool (decide (ms.length ≤ k))) := by
  obtain ⟨n, rfl⟩ : ∃ k, n = k + 1 := ⟨n - 1, by omega⟩
  rw [callH f_enough]
  have f1 := c_least (T := T) (n := n) h h14 (by omega)
  rw [hm] at f1
  replace f1 : callD T 2000 n "least_marks" [webD w] = .ok (tupN ms) := f1
  refine run_post (g := [some (.fz (webD w)), some (.fz (nD k))]) rfl rfl ?_
  (apply w_ret; (next => array_get_dec))
  rfl
end
/-- the cells of a script's beginning -/
theorem i_cells {cd : String → List D → R D} {g : Env} {ns : List Int} {k : Nat} (h0 : g[0]? = some (some (.fz (scr ns)))) : It.evi cd (.seq (.sl (.var 0) .no (.so (.int ((k : Nat) : Int))))) g = .ok ((ns.take k).map PyData.int) := by
  have e : (O.fz (scr ns)).cut none (some ((k : Nat) : Int)) = .ok (.list ((ns.take k).map PyData.int)) := by
    show R.ok (PyData.list (cutD ((ns.map fun n => ((PyData.int n, PyData.none) : D × D)).map (·.1)) none (some ((k : Nat) : Int)))) = _
    rw [List.map_map]
    have e2 : cutD (ns.map ((fun x : D × D => x.1) ∘ fun n => (PyData.int n, PyData.none))) none (some ((k : Nat) : Int)) = (ns.take k).map PyData.int := by
      unfold cutD
      have h1 : HT.sIx (ns.map ((fun x : D × D => x.1) ∘ fun n => (PyData.int n, PyData.none))).length 0 none = 0 := rfl
      have h2 : HT.sIx (ns.map ((fun x : D × D => x.1) ∘ fun n => (PyData.int n, PyData.none))).length (ns.map ((fun x : D × D => x.1) ∘ fun n => (PyData.int n, PyData.none))).length (some ((k : Nat) : Int)) = min k ns.length := by
        have z : ¬ ((k : Nat) : Int) < 0 := by omega
        simp [HT.sIx, z]
      rw [h1, h2, List.drop_zero, Nat.sub_zero, ← List.map_take]
      have : ns.take (min k ns.length) = ns.take k := by
        by_cases q : k ≤ ns.length
        · rw [Nat.min_eq_left q]
        · rw [Nat.min_eq_right (by omega), List.take_of_length_le (Nat.le_refl _), List.take_of_length_le (by omega)]
      rw [this]
      rfl
    rw [e2]
  exact seqL (e_sl (e_var h0) o_no (o_so (e_lit k)) e)
theorem sm_in {ns : List Int} (hb : Bits ns) {c : Int} (h : c ∈ ns) : Sm 0 c := ⟨c, 0, by omega, hb c h, by decide⟩
theorem e_isiB {cd : String → List D → R D} {g : Env} {a : E} {b : Bool} {t : Ty} (h : E.ev cd a g = .ok (.fz (.bool b))) : E.ev cd (.isi a t) g = .ok (.fz (.bool (isTy t (.bool b)))) := by
  simp only [E.ev, h, R.ok_bind, asD_fz]
end Q

set_option Elab.async false
set_option linter.all false
set_option maxRecDepth 100000
set_option maxHeartbeats 1000000
/-! W9: firm marks; more of slices. -/
namespace Q
open PySem
set_option hygiene false
local macro_rules | `(tactic| array_get_dec) => `(tactic| (repeat' (first | ((with_reducible apply e_var); rfl) | with_reducible (first | apply e_cmp | apply e_not | apply e_and | apply e_or | apply e_bin | apply e_ix | apply e_call | apply e_bi | apply e_tup | apply e_lst | apply e_rgT | apply e_rgF | apply e_rg1 | apply e_isN | apply es_cons | apply f_cons | apply at_dT | apply at_rT | apply at_mD | apply at_mR | apply at_nT | apply at_nL | apply o_so | apply e_sl | exact e_bl | exact e_non | exact e_str | exact e_l0 | exact e_l1 | exact e_l2 | exact e_l3 | exact e_l4 | exact e_l5 | exact e_l6 | exact e_l7 | exact e_l8 | exact e_l9 | exact e_l10 | exact e_l11 | exact e_l12 | exact e_l13 | exact e_l14 | exact e_l15 | exact e_l16 | exact e_l17 | exact e_l18 | exact e_l19 | exact e_l20 | exact e_intL | exact c_ltN | exact c_leN | exact c_gtN | exact c_geN | exact cop_eqN _ _ | exact cop_neN _ _ | exact c_eqB _ _ | exact cop_neB _ _ | exact c_isB _ _ | exact c_isnB _ _ | exact c_eqT _ _ | exact cop_neT _ _ | exact c_eqL _ _ | exact c_neL _ _ | exact c_eqPs _ _ | exact c_nePs _ _ | exact c_eqLP _ _ | exact c_neLP _ _ | exact c_eqP _ _ | exact c_neP _ _ | exact inN _ _ | exact ninN _ _ | exact c_inP _ _ | exact c_ninP _ _ | exact c_inLN _ _ | exact c_inLP _ _ | exact c_ninLN _ _ | exact c_ninLP _ _ | exact b_addN | exact b_addI | exact bi_tupleN | exact bi_tupleNN | exact bi_listN | exact bi_listNN | exact bi_tupleP | exact bi_lenNT | exact bi_lenL' | exact bi_tupleON | exact neN_nil _ | exact eqN_nil _ | exact neP_nil _ | exact prs_nil _ | exact b_modN (by decide) | exact web_n' | exact web_t' | exact pr_0 | exact pr_1 | exact t_bool | exact f_nil | exact es_nil | exact bi_min | exact bi_max | exact bi_lenM | exact bi_lenTM | exact bi_lenOM | exact bi_any | exact bi_all | exact bi_sortN | exact bi_sortP | exact bi_intB | exact bi_tuple | exact bi_tupleT | exact bi_listL | exact bi_listT | exact bi_tupleO | exact t_list | exact t_ol | exact cut_nT | exact cut_nL | exact o_no | exact isN_n | exact isN_t | exact isN_none | apply f1 | apply f2 | apply f3 | apply f4 | apply f5 | apply f6 | apply f7 | apply f8 | apply f9 | apply f10 | apply f11 | apply f12 | apply f13 | apply f14 | apply f15) | with_reducible assumption | omega)))
local macro_rules | `(tactic| sizeOf_list_dec) => `(tactic| (first | (apply put_lit; (next => rfl); (next => dsimp only [List.set]; try exact rfl)) | (apply tput1; (next => rfl); (next => dsimp only [wipe, List.map, List.set]; try exact rfl)) | (apply tput2; (next => rfl); (next => rfl); (next => dsimp only [wipe, List.map, List.set]; try exact rfl)) | (apply tput3; (next => rfl); (next => rfl); (next => rfl); (next => dsimp only [wipe, List.map, List.set]; try exact rfl))))
theorem cutD_to {α : Type} {l : List α} {k : Nat} : cutD l none (some ((k : Nat) : Int)) = l.take k := by
  unfold cutD
  have z : ¬ ((k : Nat) : Int) < 0 := by omega
  have h1 : HT.sIx l.length 0 none = 0 := rfl
  have h2 : HT.sIx l.length l.length (some ((k : Nat) : Int)) = min k l.length := by simp [HT.sIx, z]
  rw [h1, h2, List.drop_zero, Nat.sub_zero]
  by_cases q : k ≤ l.length
  · rw [Nat.min_eq_left q]
  · rw [Nat.min_eq_right (by omega), List.take_of_length_le (Nat.le_refl _), List.take_of_length_le (by omega)]
theorem cutD_from {α : Type} {l : List α} {k : Nat} : cutD l (some ((k : Nat) : Int)) none = l.drop k := by
  unfold cutD
  have z : ¬ ((k : Nat) : Int) < 0 := by omega
  have h1 : HT.sIx l.length 0 (some ((k : Nat) : Int)) = min k l.length := by simp [HT.sIx, z]
  have h2 : HT.sIx l.length l.length none = l.length := rfl
  rw [h1, h2]
  by_cases q : k ≤ l.length
  · rw [Nat.min_eq_left q, List.take_of_length_le (by rw [List.length_drop]; omega)]
  · rw [Nat.min_eq_right (by omega), List.drop_of_length_le (Nat.le_refl _), List.drop_of_length_le (by omega), List.take_nil]
theorem mem_cutD {α : Type} {l : List α} {x : α} {a b : Option Int} (h : x ∈ cutD l a b) : x ∈ l := List.mem_of_mem_drop (List.mem_of_mem_take h)
theorem cutD_map {α β : Type} (f : α → β) (l : List α) (a b : Option Int) : cutD (l.map f) a b = (cutD l a b).map f := by
  unfold cutD
  rw [List.length_map, List.map_take, List.map_drop]
theorem cutD_len {α : Type} {l : List α} {a b : Option Int} : (cutD l a b).length ≤ l.length := by
  unfold cutD
  rw [List.length_take, List.length_drop]
  omega
theorem cut_nT {l : List Nat} {a b : Option Int} : (O.fz (tupN l)).cut a b = .ok (tupN (cutD l a b)) := by
  show R.ok (PyData.tuple (cutD (l.map nD) a b)) = _
  rw [cutD_map]; rfl
theorem cut_nL {l : List Nat} {a b : Option Int} : (O.fz (listN l)).cut a b = .ok (listN (cutD l a b)) := by
  show R.ok (PyData.list (cutD (l.map nD) a b)) = _
  rw [cutD_map]
theorem b_addT {a b : List Nat} (h : a.length + b.length ≤ 1000000) : bop .add (tupN a) (tupN b) = .ok (tupN (a ++ b)) := by
  show (if szOk ((a.map nD).length + (b.map nD).length) then R.ok (PyData.tuple (a.map nD ++ b.map nD)) else .bad) = _
  rw [if_pos (sz_le (by simpa using h)), ← List.map_append]
  rfl
theorem b_addL {xs ys : List D} (h : xs.length + ys.length ≤ 1000000) : bop .add (.list xs) (.list ys) = .ok (.list (xs ++ ys)) := by
  show (if szOk (xs.length + ys.length) then R.ok (PyData.list (xs ++ ys)) else .bad) = _
  rw [if_pos (sz_le h)]
theorem i_cellsR {cd : String → List D → R D} {g : Env} {ns : List Int} {a b : Nat} (h0 : g[0]? = some (some (.fz (scr ns)))) : It.evi cd (.seq (.sl (.var 0) (.so (.int ((a : Nat) : Int))) (.so (.int ((b : Nat) : Int))))) g = .ok ((cutD ns (some ((a : Nat) : Int)) (some ((b : Nat) : Int))).map PyData.int) := by
  have e : (O.fz (scr ns)).cut (some ((a : Nat) : Int)) (some ((b : Nat) : Int)) = .ok (.list ((cutD ns (some ((a : Nat) : Int)) (some ((b : Nat) : Int))).map PyData.int)) := by
    show R.ok (PyData.list (cutD ((ns.map fun n => ((PyData.int n, PyData.none) : D × D)).map (·.1)) _ _)) = _
    rw [List.map_map, cutD_map]
    rfl
  exact seqL (e_sl (e_var h0) (o_so (e_lit a)) (o_so (e_lit b)) e)
theorem drop_one {l : List Nat} (h : l.Nodup) {k : Nat} (hk : k < l.length) : l.take k ++ l.drop (k + 1) = l.filter fun p => !decide (p = l[k]) := by
  have e : l = l.take k ++ l[k] :: l.drop (k + 1) := by rw [List.getElem_cons_drop, List.take_append_drop]
  have key : ∀ (a b : List Nat) (x : Nat), (a ++ x :: b).Nodup → (a ++ x :: b).filter (fun p => !decide (p = x)) = a ++ b := by
    intro a b x nd
    obtain ⟨n1, n2, n3⟩ := List.nodup_append.mp nd
    rw [List.filter_append, List.filter_cons, if_neg (by simp)]
    rw [List.filter_eq_self.mpr fun p hp => by have := n3 p hp x (List.mem_cons_self ..); simp [this], List.filter_eq_self.mpr fun p hp => by
      have := (List.nodup_cons.mp n2).1
      have z : p ≠ x := fun z => this (by rw [← z]; exact hp)
      simp [z]]
  generalize hx : l[k] = x at e
  rw [e] at h
  have q := key _ _ _ h
  rw [← e] at q
  exact q.symm
theorem up_nodup {l : List Nat} (h : Up l) : l.Nodup := h.imp fun {a b} q => by omega
def firmRows (ms : List Nat) : List (List Nat) := ms :: (List.range ms.length).map fun k => ms.take k ++ ms.drop (k + 1)
def firmW (w : Web) (ms : List Nat) : Bool := (firmRows ms).all fun r => (blW w r).isEmpty
def lessOne (ms : List Nat) (m : Nat) : List Nat := ms.filter fun p => !decide (p = m)
theorem firm_is {w : Web} {ms : List Nat} (h : Up ms) : firmW w ms = ((blW w ms).isEmpty && ms.all fun m => (blW w (lessOne ms m)).isEmpty) := by
  have nd := up_nodup h
  unfold firmW firmRows
  rw [List.all_cons]
  congr 1
  rw [Bool.eq_iff_iff]
  simp only [List.all_map, List.all_eq_true, List.mem_range, Function.comp]
  constructor
  · intro z m hm
    obtain ⟨k, hk, rfl⟩ := List.getElem_of_mem hm
    have := z k hk
    rw [drop_one nd hk] at this
    exact this
  · intro z k hk
    rw [drop_one nd hk]
    exact z _ (List.getElem_mem hk)
theorem up_less {ms : List Nat} (h : Up ms) (m : Nat) : Up (lessOne ms m) := List.Pairwise.filter _ h
theorem less_sub {ms : List Nat} {m x : Nat} (h : x ∈ lessOne ms m) : x ∈ ms := (List.mem_filter.mp h).1
section
variable {T : String → Option Fn} {n : Nat} {w : Web}
theorem c_firmIn [Has T "row_in" f_row_in] [Has T "blurred_in" f_blurred_in] [Has T "are_firm_in" f_are_firm_in] (h : SmW w) {ms : List Nat} (hm : ∀ m ∈ ms, m < w.1) (hl : ms.length ≤ 1000) : callD T 2000 (n + 3) "are_firm_in" [dT w, tupN ms] = .ok (.bool (firmW w ms)) := by
  rw [callH f_are_firm_in]
  refine run_post (g := [some (.fz (dT w)), some (.fz (tupN ms)), none, none, none]) rfl rfl ?_
  have er : E.ev (callD T 2000 (n + 2)) (.bin .add (.lst (.cons (.var 1) .nil)) (.comp (.n 3) [("k", 3)] (.rng1 (.bi .len (.cons (.var 1) .nil))) .no (.bin .add (.sl (.var 1) .no (.so (.var 3))) (.sl (.var 1) (.so (.bin .add (.var 3) (.int 1))) .no)))) [some (.fz (dT w)), some (.fz (tupN ms)), none, none, none] = .ok (.fz (.list ((firmRows ms).map tupN))) := by
    apply e_bin (x := .list [tupN ms]) (y := .list (((List.range ms.length).map fun k => ms.take k ++ ms.drop (k + 1)).map tupN))
    · array_get_dec
    · rw [List.map_map]
      apply e_allr (n := ms.length)
      · array_get_dec
      · omega
      · intro k hk
        have e1 : E.ev (callD T 2000 (n + 2)) (.bin .add (.var 3) (.int 1)) [some (.fz (dT w)), some (.fz (tupN ms)), none, some (.fz (nD k)), none] = .ok (.fz (nD (k + 1))) := by array_get_dec
        apply turn_on
        · sizeOf_list_dec
        · refine e_bin (e_sl (e_var rfl) o_no (o_so (e_var rfl)) cut_nT) (e_sl (e_var rfl) (o_so e1) o_no cut_nT) ?_
          rw [cutD_to, cutD_from]
          exact b_addT (by rw [List.length_take, List.length_drop]; omega)
    · exact b_addL (by simp; omega)
  apply w_set er
  · sizeOf_list_dec
  have hr : ∀ r ∈ firmRows ms, (∀ m ∈ r, m < w.1) ∧ r.length ≤ 1000 := by
    intro r hr
    rcases List.mem_cons.mp hr with q | q
    · rw [q]; exact ⟨hm, hl⟩
    · obtain ⟨k, _, rfl⟩ := List.mem_map.mp q
      refine ⟨fun m q => ?_, by rw [List.length_append, List.length_take, List.length_drop]; omega⟩
      rcases List.mem_append.mp q with q | q
      · exact hm m (List.mem_of_mem_take q)
      · exact hm m (List.mem_of_mem_drop q)
  have lr : (firmRows ms).length ≤ 1000000 := by unfold firmRows; simp; omega
  apply w_ret
  · apply e_bi
    · apply es_cons
      · apply e_alls (enc := tupN) (xs := firmRows ms) (r := fun r => .bool (blW w r).isEmpty) (i_seqL (e_var rfl)) lr
        intro r hr'
        obtain ⟨h1, h2⟩ := hr r hr'
        have f1 := c_bl (T := T) (n := n) h h1 h2
        have e : (!(!((blW w r).map prD).isEmpty)) = (blW w r).isEmpty := by cases blW w r <;> rfl
        have e2 : (!((blW w r).map prD).isEmpty) = !(blW w r).isEmpty := by cases blW w r <;> rfl
        apply turn_on
        · sizeOf_list_dec
        · have : E.ev (callD T 2000 (n + 2)) (.not (.call "blurred_in" (.cons (.var 0) (.cons (.var 4) .nil)))) [some (.fz (dT w)), some (.fz (tupN ms)), some (.fz (.list ((firmRows ms).map tupN))), none, some (.fz (tupN r))] = .ok (.fz (.bool (!(!((blW w r).map prD).isEmpty)))) := by array_get_dec
          rw [e] at this
          exact this
      · array_get_dec
    · array_get_dec
  · rfl
theorem c_firm [Has T "neighbours" f_neighbours] [Has T "steps_from" f_steps_from] [Has T "all_steps" f_all_steps] [Has T "row_in" f_row_in] [Has T "blurred_in" f_blurred_in] [Has T "are_firm_in" f_are_firm_in] [Has T "are_firm" f_are_firm] (h : SmW w) {ms : List Nat} (hm : ∀ m ∈ ms, m < w.1) (hl : ms.length ≤ 1000) : callD T 2000 (n + 4) "are_firm" [webD w, tupN ms] = .ok (.bool (firmW w ms)) := by
  rw [callH f_are_firm]
  have f1 := c_all (T := T) (n := n) h
  have f2 := c_firmIn (T := T) (n := n) h hm hl
  refine run_post (g := [some (.fz (webD w)), some (.fz (tupN ms))]) rfl rfl ?_
  (apply w_ret; (next => array_get_dec))
  rfl
theorem c_leastFirm [Has T "neighbours" f_neighbours] [Has T "steps_from" f_steps_from] [Has T "all_steps" f_all_steps] [Has T "row_in" f_row_in] [Has T "blurred_in" f_blurred_in] [Has T "are_firm_in" f_are_firm_in] [Has T "choose" f_choose] [Has T "all_marks" f_all_marks] [Has T "least_firm" f_least_firm] (h : SmW w) (h14 : w.1 ≤ 14) (hn : w.1 + 4 ≤ n) :
    callD T 2000 n "least_firm" [webD w] = .ok (optM (leastOf w (firmW w))) := by
  obtain ⟨n, rfl⟩ : ∃ k, n = k + 4 := ⟨n - 4, by omega⟩
  rw [callH f_least_firm]
  have f1 := c_all (T := T) (n := n) h
  have f2 := c_allMarks (T := T) (n := n + 3) h14 (by omega)
  refine run_post (g := [some (.fz (webD w)), none, none]) rfl rfl ?_
  (apply w_set; (next => array_get_dec); (next => sizeOf_list_dec))
  apply w_find (firmW w) tupN (i_seqL (enc := tupN) (xs := allMarks w.1) (by array_get_dec))
  · intro ms hms
    obtain ⟨h1, h2⟩ := mem_allMarks hms
    have f3 := c_firmIn (T := T) (n := n) h h1 (by omega)
    (apply turnP; (next => sizeOf_list_dec))
    apply w_iteB
    · array_get_dec
    · intro t
      exact w_retC rfl (.inl ⟨t, rfl⟩)
    · intro t
      exact w_cont (w_nil (.inr ⟨t, _, .inl rfl, rfl⟩))
  · intro ms q
    show _ = _
    unfold leastOf
    rw [q]; rfl
  · intro q
    refine w_ret rfl ?_
    unfold leastOf
    rw [q]; rfl
theorem c_lawfirm [Has T "_law_row" f__law_row] [Has T "_law_blurred" f__law_blurred] [Has T "_law_firm" f__law_firm] (h14 : w.1 ≤ 14) {ms : List Nat} (hu : Up ms) (hm : ∀ m ∈ ms, m < w.1) (hl : ms.length ≤ 1000) : callD T 2000 (n + 3) "_law_firm" [mxD w, tupN ms] = .ok (.bool (firmW w ms)) := by
  rw [callH f__law_firm, firm_is hu]
  have f1 := c_lawbl (T := T) (n := n) (w := w) h14 hm hl
  refine run_post (g := [some (.fz (mxD w)), some (.fz (tupN ms)), none, none]) rfl rfl ?_
  apply w_ifF
  · array_get_dec
  · exact t_list
  · intro q
    have : (blW w ms).isEmpty = false := by cases e : blW w ms <;> simp [e] at q ⊢
    rw [this]
    rfl
  · intro q
    have : (blW w ms).isEmpty = true := by cases e : blW w ms <;> simp [e] at q ⊢
    rw [this, Bool.true_and]
    refine w_all (enc := nD) (xs := ms) (fun m => (blW w (lessOne ms m)).isEmpty) (i_seqT (e_var rfl)) (fun m hmm => ?_) (fun z => by rw [z]) fun z => w_ret rfl (by rw [z])
    have f2 := c_lawbl (T := T) (n := n) (w := w) h14 (ms := lessOne ms m) (fun x hx => hm x (less_sub hx)) (Nat.le_trans (List.length_filter_le _ _) hl)
    (apply turnP; (next => sizeOf_list_dec))
    apply w_ifF
    · apply e_call
      · apply es_cons
        · array_get_dec
        · apply es_cons
          · apply e_bi
            · apply es_cons
              · apply e_cmps (enc := nD) (xs := ms) (i_seqT (e_var rfl)) (by omega)
                intro x hx
                (apply turn_if; (next => sizeOf_list_dec); (next => array_get_dec); (next => array_get_dec))
              · array_get_dec
            · array_get_dec
          · array_get_dec
      · array_get_dec
      · exact f2
    · exact t_list
    · intro q
      refine .inl ⟨?_, rfl⟩
      cases e : blW w (lessOne ms m) <;> simp [e] at q ⊢
    · intro q
      refine w_allT ?_ rfl
      cases e : blW w (lessOne ms m) <;> simp [e] at q ⊢
theorem c_lawmarks [Has T "_law_mix" f__law_mix] [Has T "_law_marks" f__law_marks] {c : Int} (hc : Sm 10000 c) (h : w.1 ≤ 1000) : ∃ ms : List Nat, callD T 2000 (n + 2) "_law_marks" [webD w, .int c] = .ok (tupN ms) ∧ Up ms ∧ (∀ m ∈ ms, m < w.1) ∧ ms.length ≤ w.1 := by
  refine ⟨(List.range w.1).filter fun (k : Nat) => decide ((mixI (c + 3 * (k : Int)) 9923 ((3 : Nat) : Int)).toNat = 0), ?_, List.Pairwise.filter _ (range_up _), fun m q => List.mem_range.mp (List.mem_filter.mp q).1, Nat.le_trans (List.length_filter_le _ _) (by simp)⟩
  rw [callH f__law_marks]
  refine run_post (g := [some (.fz (webD w)), some (.fz (.int c)), none]) rfl rfl ?_
  apply w_ret
  · apply e_bi
    · apply es_cons
      · apply e_cmpr (n := w.1) (p := fun (k : Nat) => decide ((mixI (c + 3 * (k : Int)) 9923 ((3 : Nat) : Int)).toNat = 0)) (r := nD)
        · array_get_dec
        · omega
        · intro k hk
          apply turn_if
          · sizeOf_list_dec
          · refine cmpE (mix_evN (c_mix (T := T) (n := n)) (lin_ev (a := .var 1) (i := 2) (k := k) (c := c) (q := 3) (e_var rfl) (e_var rfl) (by decide) (by decide) (by omega)) (m := 3) (e3 := .int 3) rfl (p := 9923) (by decide) (by decide) (by decide) ((hc.add (k := 3000) (by omega)).log (by decide))).1 e_l0 (cop_eqN _ 0)
          · array_get_dec
      · array_get_dec
    · array_get_dec
  · rfl
end
section
variable {w : Web} (h : SmW w)
include h
theorem less_tell (m : Nat) : (blW w (lessOne (List.range w.1) m)).isEmpty = true := by
  rw [List.isEmpty_iff, List.eq_nil_iff_forall_not_mem]
  rintro ⟨a, b⟩ hq
  obtain ⟨h1, h2, h3⟩ := mem_blW.mp hq
  have ha : a < w.1 := by omega
  by_cases e : a = m
  · have hb : b ≠ m := by omega
    have := h3 b (List.mem_filter.mpr ⟨List.mem_range.mpr h2, by simpa using hb⟩)
    rw [(h.zero h2 h2).mpr rfl] at this
    have := (h.zero h2 ha).mp this
    omega
  · have := h3 a (List.mem_filter.mpr ⟨List.mem_range.mpr ha, by simpa using e⟩)
    rw [(h.zero ha ha).mpr rfl] at this
    have := (h.zero ha h2).mp this.symm
    omega
theorem all_firm : firmW w (List.range w.1) = true := by
  rw [firm_is (range_up _), all_tell h, Bool.true_and, List.all_eq_true]
  intro m _
  exact less_tell h m
theorem firm_some : ∃ ms, leastOf w (firmW w) = some ms ∧ (Up ms ∧ ∀ m ∈ ms, m < w.1) ∧ firmW w ms = true ∧ ∀ r, Up r → (∀ x ∈ r, x < w.1) → firmW w r = true → ms = r ∨ ltM ms r := by
  cases q : leastOf w (firmW w) with
  | none =>
    have := least_none q (r := List.range w.1) (range_up _) (fun m z => List.mem_range.mp z)
    rw [all_firm h] at this
    cases this
  | some ms =>
    obtain ⟨h1, h2, h3⟩ := least_is q
    exact ⟨ms, rfl, h2, h1, h3⟩
theorem none_tell (h2 : 2 ≤ w.1) : (blW w []).isEmpty = false := by
  have : (0, 1) ∈ blW w [] := mem_blW.mpr ⟨by decide, by omega, fun m hm => nomatch hm⟩
  cases e : blW w [] with
  | nil => rw [e] at this; cases this
  | cons x l => rfl
/-- firm marks are more than the least that tell -/
theorem firm_more (h2 : 2 ≤ w.1) {ms r : List Nat} (hr : Up r) (hr2 : ∀ x ∈ r, x < w.1) (f : firmW w r = true) (hle : ∀ r, Up r → (∀ x ∈ r, x < w.1) → (blW w r).isEmpty = true → ms = r ∨ ltM ms r) : ms.length < r.length := by
  rw [firm_is hr, Bool.and_eq_true, List.all_eq_true] at f
  cases r with
  | nil => rw [none_tell h h2] at f; cases f.1
  | cons x r =>
    have t := f.2 x (List.mem_cons_self ..)
    have l := ltM.le (hle (lessOne (x :: r) x) (up_less hr x) (fun y hy => hr2 y (less_sub hy)) t)
    have : (lessOne (x :: r) x).length ≤ r.length := by
      unfold lessOne
      rw [List.filter_cons, if_neg (by simp)]
      exact List.length_filter_le _ _
    rw [List.length_cons]
    omega
end
end Q

set_option Elab.async false
set_option linter.all false
set_option maxRecDepth 100000
set_option maxHeartbeats 1000000
/-! W10: places tied alike; a place more. -/
namespace Q
open PySem
set_option hygiene false
local macro_rules | `(tactic| array_get_dec) => `(tactic| (repeat' (first | ((with_reducible apply e_var); rfl) | with_reducible (first | apply e_cmp | apply e_not | apply e_and | apply e_or | apply e_bin | apply e_ix | apply e_call | apply e_bi | apply e_tup | apply e_lst | apply e_rgT | apply e_rgF | apply e_rg1 | apply e_isN | apply es_cons | apply f_cons | apply at_dT | apply at_rT | apply at_mD | apply at_mR | apply at_nT | apply at_nL | apply o_so | apply e_sl | exact e_bl | exact e_non | exact e_str | exact e_l0 | exact e_l1 | exact e_l2 | exact e_l3 | exact e_l4 | exact e_l5 | exact e_l6 | exact e_l7 | exact e_l8 | exact e_l9 | exact e_l10 | exact e_l11 | exact e_l12 | exact e_l13 | exact e_l14 | exact e_l15 | exact e_l16 | exact e_l17 | exact e_l18 | exact e_l19 | exact e_l20 | exact e_intL | exact c_ltN | exact c_leN | exact c_gtN | exact c_geN | exact cop_eqN _ _ | exact cop_neN _ _ | exact c_eqB _ _ | exact cop_neB _ _ | exact c_isB _ _ | exact c_isnB _ _ | exact c_eqT _ _ | exact cop_neT _ _ | exact c_eqL _ _ | exact c_neL _ _ | exact c_eqPs _ _ | exact c_nePs _ _ | exact c_eqLP _ _ | exact c_neLP _ _ | exact c_eqP _ _ | exact c_neP _ _ | exact inN _ _ | exact ninN _ _ | exact c_inP _ _ | exact c_ninP _ _ | exact c_inLN _ _ | exact c_inLP _ _ | exact c_ninLN _ _ | exact c_ninLP _ _ | exact b_addN | exact b_addI | exact bi_tupleN | exact bi_tupleNN | exact bi_listN | exact bi_listNN | exact bi_tupleP | exact bi_lenNT | exact bi_lenL' | exact bi_tupleON | exact neN_nil _ | exact eqN_nil _ | exact neP_nil _ | exact prs_nil _ | exact b_modN (by decide) | exact web_n' | exact web_t' | exact pr_0 | exact pr_1 | exact t_bool | exact f_nil | exact es_nil | exact bi_min | exact bi_max | exact bi_lenM | exact bi_lenTM | exact bi_lenOM | exact bi_any | exact bi_all | exact bi_sortN | exact bi_sortP | exact bi_intB | exact bi_tuple | exact bi_tupleT | exact bi_listL | exact bi_listT | exact bi_tupleO | exact t_list | exact t_ol | exact cut_nT | exact cut_nL | exact o_no | exact isN_n | exact isN_t | exact isN_none | apply f1 | apply f2 | apply f3 | apply f4 | apply f5 | apply f6 | apply f7 | apply f8 | apply f9 | apply f10 | apply f11 | apply f12 | apply f13 | apply f14 | apply f15) | with_reducible assumption | omega)))
local macro_rules | `(tactic| sizeOf_list_dec) => `(tactic| (first | (apply put_lit; (next => rfl); (next => dsimp only [List.set]; try exact rfl)) | (apply tput1; (next => rfl); (next => dsimp only [wipe, List.map, List.set]; try exact rfl)) | (apply tput2; (next => rfl); (next => rfl); (next => dsimp only [wipe, List.map, List.set]; try exact rfl)) | (apply tput3; (next => rfl); (next => rfl); (next => rfl); (next => dsimp only [wipe, List.map, List.set]; try exact rfl))))
def exc (l : List Nat) (x : Nat) : List Nat := l.filter fun p => !decide (p = x)
def twinB (w : Web) (a b : Nat) : Bool := decide (exc (nb w.2 a) b = exc (nb w.2 b) a)
def twinRow (w : Web) (a : Nat) : List Nat := (List.range w.1).filter fun b => decide (b = a) || twinB w a b
def twinHead (w : Web) (a : Nat) : Bool := decide (1 < (twinRow w a).length) && decide ((twinRow w a)[0]?.getD 0 = a)
def twinsW (w : Web) : List (List Nat) := ((List.range w.1).filter (twinHead w)).map (twinRow w)
abbrev tupsD (l : List (List Nat)) : D := .tuple (l.map tupN)
theorem eqe_tups : EqE tupsD := eqe_tup eqe_tn
theorem pl_tups (l : List (List Nat)) : Pl 2 (tupsD l) := pl_tup (pl_map pl_tn l)
theorem c_neTs (a b : List (List Nat)) : cop .ne (tupsD a) (tupsD b) = .ok (!decide (a = b)) := cop_ne eqe_tups pl_tups (by decide) a b
theorem i_tupN {cd : String → List D → R D} {g : Env} {e : E} {xs : List Nat} (h : E.ev cd e g = .ok (.fz (tupN xs))) : It.evi cd (.seq e) g = .ok (xs.map nD) := seqT h
theorem i_listN {cd : String → List D → R D} {g : Env} {e : E} {xs : List Nat} (h : E.ev cd e g = .ok (.fz (listN xs))) : It.evi cd (.seq e) g = .ok (xs.map nD) := seqL h
theorem fold_ifmap {α β : Type} (p : α → Bool) (f : α → β) : ∀ (l : List α) (s : List β), l.foldl (fun s x => s ++ if p x then [f x] else []) s = s ++ (l.filter p).map f
  | [], s => by simp
  | x :: l, s => by
    rw [List.foldl_cons, fold_ifmap p f l, List.filter_cons]
    cases p x <;> simp
section
variable {w : Web} (h : SmW w)
include h
theorem nb_mem {a b : Nat} (ha : a < w.1) : b ∈ nb w.2 a ↔ b < w.1 ∧ dis w a b = 1 := by
  rw [h.near ha, List.mem_filter, List.mem_range]
  simp
theorem nb_len {a : Nat} (ha : a < w.1) : (nb w.2 a).length ≤ w.1 := by
  rw [h.near ha]
  have := List.length_filter_le (fun b => decide (dis w a b = 1)) (List.range w.1)
  rwa [List.length_range] at this
/-- a last step -/
theorem last_step {p a : Nat} (hp : p < w.1) (ha : a < w.1) (n : p ≠ a) : ∃ x, x < w.1 ∧ dis w x a = 1 ∧ dis w p x + 1 = dis w p a := by
  have i := h.isD hp ha
  have z : dis w p a ≠ 0 := fun z => n ((h.zero hp ha).mp z)
  obtain ⟨d, hd⟩ : ∃ d, dis w p a = d + 1 := ⟨dis w p a - 1, by omega⟩
  rw [hd] at i
  cases i.1 with
  | @step _ _ x _ r q =>
    have hx := (h.rng.adj q).1
    have l1 := (h.isD hp hx).2 _ r
    have l2 := i.2 _ (.step (h.isD hp hx).1 q)
    exact ⟨x, hx, (h.one hx ha).mpr q, by omega⟩
theorem twin_dis {a b : Nat} (ha : a < w.1) (hb : b < w.1) (n : a ≠ b) : twinB w a b = true ↔ ∀ p, p < w.1 → p ≠ a → p ≠ b → dis w p a = dis w p b := by
  unfold twinB
  rw [decide_eq_true_eq]
  have key : ∀ a b, a < w.1 → b < w.1 → (∀ x, x ∈ exc (nb w.2 a) b → x ∈ nb w.2 b) → ∀ p, p < w.1 → p ≠ a → p ≠ b → dis w p b ≤ dis w p a := by
    intro a b ha hb hs p hp na nb'
    obtain ⟨x, hx, h1, h2⟩ := last_step h hp ha na
    by_cases e : x = b
    · subst e; omega
    · have m : x ∈ exc (nb w.2 a) b := List.mem_filter.mpr ⟨(nb_mem h ha).mpr ⟨hx, by rw [h.symm ha hx]; exact h1⟩, by simpa using e⟩
      have := ((nb_mem h hb).mp (hs x m)).2
      have t := h.tri hp hb hx
      rw [h.symm hx hb] at t
      omega
  constructor
  · intro e p hp na nb'
    have h1 := key a b ha hb (fun x hx => by rw [e] at hx; exact (List.mem_filter.mp hx).1) p hp na nb'
    have h2 := key b a hb ha (fun x hx => by rw [← e] at hx; exact (List.mem_filter.mp hx).1) p hp nb' na
    omega
  · intro e
    unfold exc
    rw [h.near ha, h.near hb, List.filter_filter, List.filter_filter]
    refine List.filter_congr fun p hp => ?_
    have hp := List.mem_range.mp hp
    rw [Bool.eq_iff_iff]
    simp only [Bool.and_eq_true, Bool.not_eq_true', decide_eq_false_iff_not, decide_eq_true_eq]
    have s1 := h.symm hp ha
    have s2 := h.symm hp hb
    have z1 := (h.zero ha ha).mpr rfl
    have z2 := (h.zero hb hb).mpr rfl
    constructor
    · rintro ⟨q1, q2⟩
      have q3 : p ≠ a := fun z => by subst z; omega
      have := e p hp q3 q1
      exact ⟨q3, by omega⟩
    · rintro ⟨q1, q2⟩
      have q3 : p ≠ b := fun z => by subst z; omega
      have := e p hp q1 q3
      exact ⟨q3, by omega⟩
theorem twin_symm {a b : Nat} (ha : a < w.1) (hb : b < w.1) (n : a ≠ b) (t : twinB w a b = true) : twinB w b a = true :=
  (twin_dis h hb ha n.symm).mpr fun p hp h1 h2 => ((twin_dis h ha hb n).mp t p hp h2 h1).symm
theorem twin_trans {a b c : Nat} (ha : a < w.1) (hb : b < w.1) (hc : c < w.1) (n1 : a ≠ b) (n2 : b ≠ c) (n3 : a ≠ c) (t : twinB w a b = true) (u : twinB w b c = true) : twinB w a c = true := by
  have t' := (twin_dis h ha hb n1).mp t
  have u' := (twin_dis h hb hc n2).mp u
  refine (twin_dis h ha hc n3).mpr fun p hp h1 h2 => ?_
  by_cases e : p = b
  · subst e
    have e1 := t' c hc n3.symm (Ne.symm h2)
    have e2 := u' a ha (Ne.symm h1) n3
    have s1 := h.symm hp ha
    have s2 := h.symm hp hc
    have s3 := h.symm ha hc
    omega
  · rw [t' p hp h1 e, u' p hp e h2]
/-- two places have no other parters than themselves just if they are twins -/
theorem twin_par {a b : Nat} (hab : a < b) (hb : b < w.1) : twinB w a b = true ↔ parW w a b = [a, b] := by
  have ha : a < w.1 := by omega
  rw [twin_dis h ha hb (by omega)]
  have z1 := (h.zero ha ha).mpr rfl
  have z2 := (h.zero hb hb).mpr rfl
  have z3 : dis w a b ≠ 0 := fun z => by have := (h.zero ha hb).mp z; omega
  have z4 := h.symm ha hb
  constructor
  · intro e
    refine up_ext (List.Pairwise.filter _ (range_up _)) (by simp; omega) fun p => ?_
    rw [mem_parW]
    simp only [List.mem_cons, List.not_mem_nil, or_false]
    constructor
    · rintro ⟨hp, q⟩
      by_cases e1 : p = a
      · exact .inl e1
      · by_cases e2 : p = b
        · exact .inr e2
        · exact absurd (e p hp e1 e2) q
    · rintro (rfl | rfl)
      · exact ⟨ha, by omega⟩
      · exact ⟨hb, by omega⟩
  · intro e p hp n1 n2
    refine Classical.byContradiction fun q => ?_
    have : p ∈ parW w a b := mem_parW.mpr ⟨hp, q⟩
    rw [e] at this
    simp at this
    omega
theorem row_mem {a b : Nat} : b ∈ twinRow w a ↔ b < w.1 ∧ (b = a ∨ twinB w a b = true) := by
  unfold twinRow
  rw [List.mem_filter, List.mem_range]
  simp
theorem row_self {a : Nat} (ha : a < w.1) : a ∈ twinRow w a := (row_mem h).mpr ⟨ha, .inl rfl⟩
theorem row_up (a : Nat) : Up (twinRow w a) := List.Pairwise.filter _ (range_up _)
theorem row_eq {a b : Nat} (ha : a < w.1) (hb : b ∈ twinRow w a) : twinRow w b = twinRow w a := by
  obtain ⟨hb1, hb2⟩ := (row_mem h).mp hb
  rcases hb2 with rfl | hb2
  · rfl
  · by_cases e : a = b
    · rw [e]
    · have hb3 := twin_symm h ha hb1 e hb2
      refine up_ext (row_up h _) (row_up h _) fun c => ?_
      rw [row_mem h, row_mem h]
      constructor
      · rintro ⟨hc, q | q⟩
        · rw [q]; exact ⟨hb1, .inr hb2⟩
        · by_cases e2 : c = a
          · exact ⟨hc, .inl e2⟩
          · by_cases e3 : b = c
            · rw [← e3]; exact ⟨hb1, .inr hb2⟩
            · exact ⟨hc, .inr (twin_trans h ha hb1 hc e e3 (Ne.symm e2) hb2 q)⟩
      · rintro ⟨hc, q | q⟩
        · rw [q]; exact ⟨ha, .inr hb3⟩
        · by_cases e2 : c = b
          · exact ⟨hc, .inl e2⟩
          · by_cases e3 : a = c
            · rw [← e3]; exact ⟨ha, .inr hb3⟩
            · exact ⟨hc, .inr (twin_trans h hb1 ha hc (Ne.symm e) e3 (Ne.symm e2) hb3 q)⟩
end
section
variable {T : String → Option Fn} {n : Nat} {w : Web}
theorem c_areTwins [Has T "neighbours" f_neighbours] [Has T "are_twins" f_are_twins] (h : SmW w) {a b : Nat} (ha : a < w.1) (hb : b < w.1) : callD T 2000 (n + 2) "are_twins" [webD w, nD a, nD b] = .ok (.bool (twinB w a b)) := by
  rw [callH f_are_twins]
  have few := h.few
  have f1 := fun p => c_nb (T := T) (n := n) h p
  have l1 := nb_len h ha
  have l2 := nb_len h hb
  refine run_post (g := [some (.fz (webD w)), some (.fz (nD a)), some (.fz (nD b)), none, none]) rfl rfl ?_
  apply w_set
  · apply e_cmps (enc := nD) (xs := nb w.2 a) (i_tupN (by array_get_dec)) (by omega)
    intro p hp
    (apply turn_if; (next => sizeOf_list_dec); (next => array_get_dec); (next => array_get_dec))
  · sizeOf_list_dec
  apply w_ret
  · apply e_cmp
    · array_get_dec
    · apply e_cmps (enc := nD) (xs := nb w.2 b) (i_tupN (by array_get_dec)) (by omega)
      intro p hp
      (apply turn_if; (next => sizeOf_list_dec); (next => array_get_dec); (next => array_get_dec))
    · array_get_dec
  · rfl
theorem c_twins [Has T "neighbours" f_neighbours] [Has T "are_twins" f_are_twins] [Has T "twins" f_twins] (h : SmW w) : callD T 2000 (n + 3) "twins" [webD w] = .ok (tupsD (twinsW w)) := by
  rw [callH f_twins]
  have few := h.few
  refine run_post (g := [some (.fz (webD w)), none, none, none, none]) rfl rfl ?_
  (apply w_setO lst0 rfl; (next => sizeOf_list_dec))
  apply w_foldN (fun s : List (List Nat) => [some (O.fz (webD w)), some (.ol ((s.map tupN).map .fz)), none, none, none]) (fun s a => s ++ if twinHead w a then [twinRow w a] else []) (fun k s => s.length ≤ k) [] (i_rng (n := w.1) (by array_get_dec) (by omega)) rfl (Nat.le_refl _)
  · intro k s a ha hs
    obtain ⟨ha1, ha2⟩ := List.getElem?_eq_some_iff.mp ha
    rw [List.length_range] at ha1
    rw [List.getElem_range] at ha2
    have ha : a < w.1 := by omega
    refine ⟨by rw [List.length_append]; split <;> simp <;> omega, ?_⟩
    have f1 := fun b (hb : b < w.1) => c_areTwins (T := T) (n := n) h ha hb
    have e0 : 0 < (twinRow w a).length := List.length_pos_of_mem (row_self h ha)
    (apply turnP; (next => sizeOf_list_dec))
    apply w_set (d := tupN (twinRow w a))
    · apply e_bi
      · apply es_cons
        · apply e_cmpr (n := w.1) (p := fun b => decide (b = a) || twinB w a b) (r := nD)
          · array_get_dec
          · omega
          · intro b hb
            (apply turn_if; (next => sizeOf_list_dec); (next => array_get_dec); (next => array_get_dec))
        · array_get_dec
      · rfl
    · sizeOf_list_dec
    apply w_iteB
    · array_get_dec
    · intro t
      refine w_app rfl (e_var rfl) (by simp; omega) rfl (w_cont (w_back ?_))
      have t' : twinHead w a = true := t
      rw [t', if_pos rfl, List.map_append, List.map_append]
      rfl
    · intro t
      refine w_cont (w_back ?_)
      have t' : twinHead w a = false := t
      rw [t', if_neg (by decide), List.append_nil]
      rfl
  · intro _
    rw [fold_ifmap, List.nil_append]
    (apply w_frzL; (next => rfl); (next => dsimp only [List.set]; try exact rfl))
    (apply w_ret; (next => array_get_dec))
    rfl
end
/-! ### a place more, tied to some -/
def addW (w : Web) (S : List Nat) : Web := (w.1 + 1, sortP (w.2 ++ S.map fun p => (p, w.1)))
theorem add_sm {w : Web} (h : SmW w) {S : List Nat} (hS : S ≠ []) (nd : S.Nodup) (hlt : ∀ p ∈ S, p < w.1) (f1 : w.1 < 1000) (f2 : w.2.length + S.length ≤ 400000) : SmW (addW w S) := by
  have adj : ∀ x y, Adj w.2 x y → Adj (addW w S).2 x y := fun x y a => adj_sort.mpr (a.elim (fun q => .inl (List.mem_append_left _ q)) fun q => .inr (List.mem_append_left _ q))
  have adj2 : ∀ x ∈ S, Adj (addW w S).2 x w.1 := fun x hx => adj_sort.mpr (.inl (List.mem_append_right _ (List.mem_map.mpr ⟨x, hx, rfl⟩)))
  have mem : ∀ t, t ∈ (addW w S).2 ↔ t ∈ w.2 ++ S.map fun p => (p, w.1) := fun t => (sortP_perm _).mem_iff
  obtain ⟨s, hs⟩ : ∃ s, s ∈ S := by
    cases S with
    | nil => exact absurd rfl hS
    | cons s S => exact ⟨s, List.mem_cons_self ..⟩
  have to : ∀ p, p < w.1 + 1 → ∃ k, Rch (addW w S).2 k p s := by
    intro p hp
    by_cases e : p = w.1
    · subst e
      exact ⟨1, .one (adj2 s hs).symm⟩
    · obtain ⟨k, r⟩ := h.con p s (by omega) (hlt s hs)
      exact ⟨k, r.mono adj⟩
  exact {
    pos := by show 1 ≤ w.1 + 1; omega
    lt := fun t ht => by
      rcases List.mem_append.mp ((mem t).mp ht) with q | q
      · have := h.lt t q
        show t.1 < t.2 ∧ t.2 < w.1 + 1
        omega
      · obtain ⟨p, hp, rfl⟩ := List.mem_map.mp q
        have := hlt p hp
        show p < w.1 ∧ w.1 < w.1 + 1
        omega
    srt := by
      refine sortP_lt (List.nodup_append.mpr ⟨h.nodup, List.pairwise_map.mpr (nd.imp fun {a b} q e => q (Prod.mk.inj e).1), fun t ht u hu e => ?_⟩)
      obtain ⟨p, hp, rfl⟩ := List.mem_map.mp hu
      have := h.lt t ht
      rw [e] at this
      omega
    con := fun p q hp hq => by
      obtain ⟨k, r⟩ := to p hp
      obtain ⟨l, u⟩ := to q hq
      exact ⟨_, r.trans u.symm⟩
    few := by show w.1 + 1 ≤ 1000; omega
    fews := by
      show (sortP _).length ≤ _
      rw [(sortP_perm _).length_eq, List.length_append, List.length_map]
      exact f2 }
theorem b_modIN {i : Int} {n : Nat} (h : 0 < n) : bop .mod (.int i) (nD n) = .ok (nD (i % (n : Int)).toNat) := by
  rw [bop_mod (by omega)]
  have : ((i % (n : Int)).toNat : Int) = i % (n : Int) := Int.toNat_of_nonneg (Int.emod_nonneg _ (by omega))
  show R.ok (PyData.int (i % (n : Int))) = R.ok (PyData.int (((i % (n : Int)).toNat : Nat) : Int))
  rw [this]
theorem b_fdivI {i : Int} {n : Nat} (h : 0 < n) (h2 : n ≤ 1000) : bop .fdiv (.int i) (nD n) = .ok (.int (i / (n : Int))) := by
  have l := small_log (i := (n : Int)) (by omega) (by omega)
  show (if divOk (n : Int) then R.ok (PyData.int (i / (n : Int))) else .bad) = _
  rw [if_pos (show divOk (n : Int) = true from decide_eq_true ⟨by omega, by omega⟩)]
end Q

set_option Elab.async false
set_option linter.all false
set_option maxRecDepth 100000
set_option maxHeartbeats 1000000
/-! W11: whether a thing is a number, places, a web. -/
namespace Q
open PySem
set_option hygiene false
local macro_rules | `(tactic| array_get_dec) => `(tactic| (repeat' (first | ((with_reducible apply e_var); rfl) | with_reducible (first | apply e_cmp | apply e_not | apply e_and | apply e_or | apply e_bin | apply e_ix | apply e_call | apply e_bi | apply e_tup | apply e_lst | apply e_rgT | apply e_rgF | apply e_rg1 | apply e_isN | apply es_cons | apply f_cons | apply at_dT | apply at_rT | apply at_mD | apply at_mR | apply at_nT | apply at_nL | apply o_so | apply e_sl | exact e_bl | exact e_non | exact e_str | exact e_l0 | exact e_l1 | exact e_l2 | exact e_l3 | exact e_l4 | exact e_l5 | exact e_l6 | exact e_l7 | exact e_l8 | exact e_l9 | exact e_l10 | exact e_l11 | exact e_l12 | exact e_l13 | exact e_l14 | exact e_l15 | exact e_l16 | exact e_l17 | exact e_l18 | exact e_l19 | exact e_l20 | exact e_intL | exact c_ltN | exact c_leN | exact c_gtN | exact c_geN | exact cop_eqN _ _ | exact cop_neN _ _ | exact c_eqB _ _ | exact cop_neB _ _ | exact c_isB _ _ | exact c_isnB _ _ | exact c_eqT _ _ | exact cop_neT _ _ | exact c_eqL _ _ | exact c_neL _ _ | exact c_eqPs _ _ | exact c_nePs _ _ | exact c_eqLP _ _ | exact c_neLP _ _ | exact c_eqP _ _ | exact c_neP _ _ | exact inN _ _ | exact ninN _ _ | exact c_inP _ _ | exact c_ninP _ _ | exact c_inLN _ _ | exact c_inLP _ _ | exact c_ninLN _ _ | exact c_ninLP _ _ | exact b_addN | exact b_addI | exact bi_tupleN | exact bi_tupleNN | exact bi_listN | exact bi_listNN | exact bi_tupleP | exact bi_lenNT | exact bi_lenL' | exact bi_tupleON | exact neN_nil _ | exact eqN_nil _ | exact neP_nil _ | exact prs_nil _ | exact b_modN (by decide) | exact web_n' | exact web_t' | exact pr_0 | exact pr_1 | exact t_bool | exact f_nil | exact es_nil | exact bi_min | exact bi_max | exact bi_lenM | exact bi_lenTM | exact bi_lenOM | exact bi_any | exact bi_all | exact bi_sortN | exact bi_sortP | exact bi_intB | exact bi_tuple | exact bi_tupleT | exact bi_listL | exact bi_listT | exact bi_tupleO | exact t_list | exact t_ol | exact cut_nT | exact cut_nL | exact o_no | exact isN_n | exact isN_t | exact isN_none | apply f1 | apply f2 | apply f3 | apply f4 | apply f5 | apply f6 | apply f7 | apply f8 | apply f9 | apply f10 | apply f11 | apply f12 | apply f13 | apply f14 | apply f15) | with_reducible assumption | omega)))
local macro_rules | `(tactic| sizeOf_list_dec) => `(tactic| (first | (apply put_lit; (next => rfl); (next => dsimp only [List.set]; try exact rfl)) | (apply tput1; (next => rfl); (next => dsimp only [wipe, List.map, List.set]; try exact rfl)) | (apply tput2; (next => rfl); (next => rfl); (next => dsimp only [wipe, List.map, List.set]; try exact rfl)) | (apply tput3; (next => rfl); (next => rfl); (next => rfl); (next => dsimp only [wipe, List.map, List.set]; try exact rfl))))
section
variable {cd : String → List D → R D} {g : Env}
theorem e_isi {a : E} {x : D} {t : Ty} (h : E.ev cd a g = .ok (.fz x)) (hd : ∀ kvs, x ≠ .dict kvs) : E.ev cd (.isi a t) g = .ok (.fz (.bool (isTy t x))) := by
  simp only [E.ev, h, R.ok_bind, asD_fz]
theorem e_cmp2 {o p : COp} {a b c : E} {x y z : D} {u v : Bool} (ha : E.ev cd a g = .ok (.fz x)) (hb : E.ev cd b g = .ok (.fz y)) (hc : E.ev cd c g = .ok (.fz z)) (h1 : cop o x y = .ok u) (h2 : cop p y z = .ok v) : E.ev cd (.cmp2 o p a b c) g = .ok (.fz (.bool (u && v))) := by
  simp only [E.ev, ha, hb, hc, R.ok_bind, asD_fz, h1]
  cases u
  · rfl
  · simp only [if_true, R.ok_bind, h2, Bool.true_and]
theorem e_neg {a : E} {i : Int} (h : E.ev cd a g = .ok (.fz (.int i))) : E.ev cd (.neg a) g = .ok (.fz (.int (-i))) := by
  rw [ev_neg, h, R.ok_bind, asD_fz, R.ok_bind, asInt_int, R.ok_bind]
end
def noDict (d : D) : Prop := ∀ kvs, d ≠ .dict kvs
def numB (d : D) (l m : Int) : Bool := match d with
  | .int i => decide (l ≤ i) && decide (i ≤ m)
  | _ => false
def adj {α : Type} (lt : α → α → Bool) (l : List α) : Bool := (List.range' 1 (l.length - 1)).all fun k => match l[k - 1]?, l[k]? with
  | some x, some y => lt x y
  | _, _ => true
def placesB (d : D) (m : Nat) : Bool := match d with
  | .tuple ds => (ds.all fun x => numB x 0 ((m - 1 : Nat) : Int)) && (match ints? ds with
    | some l => adj (fun a b => decide (a < b)) l
    | none => false)
  | _ => false
def tieB (d : D) (m : Nat) : Bool := placesB d m && (match d with
  | .tuple ds => decide (ds.length = 2)
  | _ => false)
section
variable {T : String → Option Fn} {n : Nat}
theorem c_number [Has T "is_number" f_is_number] {d : D} {l m : Int} (hd : noDict d) : callD T 2000 (n + 1) "is_number" [d, .int l, .int m] = .ok (.bool (numB d l m)) := by
  rw [callH f_is_number]
  refine run_post (g := [some (.fz d), some (.fz (.int l)), some (.fz (.int m))]) rfl rfl ?_
  cases d with
  | int i =>
    refine w_ret (e_and (e_isi (e_var rfl) hd) (e_and (e_not (e_isi (e_var rfl) hd) rfl) (e_cmp2 (e_var rfl) (e_var rfl) (e_var rfl) cop_le cop_le))) ?_
    rfl
  | bool b =>
    refine w_ret (e_and (y := false) (e_isi (e_var rfl) hd) (e_andI (y := false) (e_not (e_isi (e_var rfl) hd) rfl) fun z => nomatch z)) ?_
    rfl
  | dict kvs => exact absurd rfl (hd kvs)
  | _ =>
    refine w_ret (e_andI (y := false) (e_isi (e_var rfl) hd) fun z => nomatch z) ?_
    rfl
theorem c_rising [Has T "is_rising" f_is_rising] {α : Type} (enc : α → D) (lt : α → α → Bool) {l : List α} (hl : l.length ≤ 1000) (hlt : ∀ x ∈ l, ∀ y ∈ l, cop .lt (enc x) (enc y) = .ok (lt x y)) : callD T 2000 (n + 1) "is_rising" [.tuple (l.map enc)] = .ok (.bool (adj lt l)) := by
  rw [callH f_is_rising]
  refine run_post (g := [some (.fz (.tuple (l.map enc))), none]) rfl rfl ?_
  have f1 : bi .len [.fz (.tuple (l.map enc))] = .ok (nD l.length) := bi_lenTM
  have ec : E.ev (callD T 2000 n) (.comp (.n 1) [("k", 1)] (.rng2 (.int 1) (.bi .len (.cons (.var 0) .nil))) .no (.cmp .lt (.ix (.var 0) (.bin .sub (.var 1) (.int 1))) (.ix (.var 0) (.var 1)))) [some (.fz (.tuple (l.map enc))), none] = .ok (.fz (.list ((List.range' 1 (l.length - 1)).map fun k => PyData.bool (match l[k - 1]?, l[k]? with | some x, some y => lt x y | _, _ => true)))) := by
    apply e_allr2 (i := 1) (j := l.length)
    · array_get_dec
    · array_get_dec
    · omega
    · omega
    · intro k h1 h2
      have g1 : l[k - 1]? = some l[k - 1] := List.getElem?_eq_getElem (by omega)
      have g2 : l[k]? = some l[k] := List.getElem?_eq_getElem h2
      have f2 : bop .sub (nD k) (nD 1) = .ok (nD (k - 1)) := b_subN h1
      have f3 : (O.fz (.tuple (l.map enc))).at ((k - 1 : Nat) : Int) = .ok (.fz (enc l[k - 1])) := at_tup (by rw [List.getElem?_map, g1]; rfl)
      have f4 : (O.fz (.tuple (l.map enc))).at ((k : Nat) : Int) = .ok (.fz (enc l[k])) := at_tup (by rw [List.getElem?_map, g2]; rfl)
      have f5 := hlt l[k - 1] (List.getElem_mem _) l[k] (List.getElem_mem _)
      rw [g1, g2]
      (apply turn_on; (next => sizeOf_list_dec); (next => array_get_dec))
  refine w_ret (e_bi (es_cons ec es_nil) bi_all) ?_
  rfl
theorem nums_ints : ∀ {ds : List D} {a b : Int}, (ds.all fun x => numB x a b) = true → ∃ l, ints? ds = some l ∧ ds = l.map PyData.int
  | [], _, _, _ => ⟨[], rfl, rfl⟩
  | d :: ds, a, b, h => by
    rw [List.all_cons, Bool.and_eq_true] at h
    obtain ⟨l, h1, h2⟩ := nums_ints h.2
    cases d with
    | int i => exact ⟨i :: l, by rw [ints?, h1]; rfl, by rw [List.map_cons, ← h2]⟩
    | _ => exact absurd h.1 (by simp [numB])
theorem c_places [Has T "is_number" f_is_number] [Has T "is_rising" f_is_rising] [Has T "are_places" f_are_places] {d : D} {m : Nat} (hm : 1 ≤ m) (hm2 : m ≤ 1000) (hd : noDict d) (hds : ∀ ds, d = .tuple ds → (∀ x ∈ ds, noDict x) ∧ ds.length ≤ 1000) : callD T 2000 (n + 2) "are_places" [d, nD m] = .ok (.bool (placesB d m)) := by
  rw [callH f_are_places]
  refine run_post (g := [some (.fz d), some (.fz (nD m)), none]) rfl rfl ?_
  by_cases ht : ∃ ds, d = .tuple ds
  · obtain ⟨ds, rfl⟩ := ht
    obtain ⟨h1, h2⟩ := hds ds rfl
    have f1 : bop .sub (nD m) (nD 1) = .ok (nD (m - 1)) := b_subN hm
    have ea : E.ev (callD T 2000 (n + 1)) (.bi .all (.cons (.comp (.n 2) [("one", 2)] (.seq (.var 0)) .no (.call "is_number" (.cons (.var 2) (.cons (.int 0) (.cons (.bin .sub (.var 1) (.int 1)) .nil))))) .nil)) [some (.fz (.tuple ds)), some (.fz (nD m)), none] = .ok (.fz (.bool (ds.all fun x => numB x 0 ((m - 1 : Nat) : Int)))) := by
      apply e_bi
      · apply es_cons
        · apply e_alls (enc := id) (xs := ds) (r := fun x => .bool (numB x 0 ((m - 1 : Nat) : Int))) (i_seqT (by rw [List.map_id]; exact e_var rfl)) (by omega)
          intro x hx
          have f2 : callD T 2000 (n + 1) "is_number" [id x, nD 0, nD (m - 1)] = .ok (.bool (numB x 0 ((m - 1 : Nat) : Int))) := c_number (T := T) (n := n) (d := x) (l := ((0 : Nat) : Int)) (m := ((m - 1 : Nat) : Int)) (h1 x hx)
          (apply turn_on; (next => sizeOf_list_dec); (next => array_get_dec))
        · array_get_dec
      · array_get_dec
    apply w_ret (d := .bool (isTy .tuple (.tuple ds) && ((ds.all fun x => numB x 0 ((m - 1 : Nat) : Int)) && (match ints? ds with | some l => adj (fun a b => decide (a < b)) l | none => false))))
    · refine e_and (e_isi (e_var rfl) hd) (e_andI ea fun z => ?_)
      obtain ⟨l, g1, g2⟩ := nums_ints z
      rw [g1]
      have f3 := c_rising (T := T) (n := n) PyData.int (fun a b => decide (a < b)) (l := l) (by have := congrArg List.length g2; rw [List.length_map] at this; omega) fun _ _ _ _ => cop_lt
      rw [← g2] at f3
      array_get_dec
    · rfl
  · have ht2 : isTy .tuple d = false := by
      cases d <;> first | rfl | exact absurd ⟨_, rfl⟩ ht
    have hp : placesB d m = false := by
      cases d <;> first | rfl | exact absurd ⟨_, rfl⟩ ht
    rw [hp]
    refine w_ret (e_andI (x := isTy .tuple d) (y := false) (e_isi (e_var rfl) hd) fun z => ?_) ?_
    · rw [ht2] at z; cases z
    · rw [ht2]; rfl
variable [Has T "is_number" f_is_number] [Has T "is_rising" f_is_rising] [Has T "are_places" f_are_places] [Has T "is_web" f_is_web]
omit [Has T "is_number" f_is_number] [Has T "is_rising" f_is_rising] [Has T "are_places" f_are_places] in
theorem web_no1 {d : D} (hd : noDict d) (ht : isTy .tuple d = false) : callD T 2000 (n + 1) "is_web" [d] = .ok (.bool false) := by
  rw [callH f_is_web]
  refine run_post (g := [some (.fz d), none, none, none]) rfl rfl ?_
  refine w_ifF (t := true) (o := .fz (.bool (!(isTy .tuple d) || false))) (e_orI (y := false) (e_not (e_isi (e_var rfl) hd) rfl) fun z => ?_) ?_ (fun _ => rfl) fun z => nomatch z
  · rw [ht] at z; cases z
  · rw [ht]; rfl
omit [Has T "is_number" f_is_number] [Has T "is_rising" f_is_rising] [Has T "are_places" f_are_places] in
theorem web_no2 {ds : List D} (hl : ds.length ≠ 2) : callD T 2000 (n + 1) "is_web" [.tuple ds] = .ok (.bool false) := by
  rw [callH f_is_web]
  refine run_post (g := [some (.fz (.tuple ds)), none, none, none]) rfl rfl ?_
  have f1 : bi .len [.fz (.tuple ds)] = .ok (nD ds.length) := bi_lenT
  have e2 : E.ev (callD T 2000 n) (.cmp .ne (.bi .len (.cons (.var 0) .nil)) (.int 2)) [some (.fz (.tuple ds)), none, none, none] = .ok (.fz (.bool (!decide (ds.length = 2)))) := by array_get_dec
  refine w_ifF (t := true) (o := .fz (.bool (!(isTy .tuple (.tuple ds)) || ((!decide (ds.length = 2)) || false)))) (e_or (e_not (e_isi (e_var rfl) fun _ z => nomatch z) rfl) (e_orI (y := false) e2 fun z => ?_)) ?_ (fun _ => rfl) fun z => nomatch z
  · simp [hl] at z
  · simp [hl, isTy, truth]
omit [Has T "is_rising" f_is_rising] [Has T "are_places" f_are_places] in
theorem web_no3 {x y : D} (hx : noDict x) (h : numB x 1 8 = false) : callD T 2000 (n + 2) "is_web" [.tuple [x, y]] = .ok (.bool false) := by
  rw [callH f_is_web]
  refine run_post (g := [some (.fz (.tuple [x, y])), none, none, none]) rfl rfl ?_
  have f1 : bi .len [.fz (.tuple [x, y])] = .ok (nD 2) := rfl
  have f2 : (O.fz (.tuple [x, y])).at ((0 : Nat) : Int) = .ok (.fz x) := rfl
  have f3 := c_number (T := T) (n := n) (d := x) (l := ((1 : Nat) : Int)) (m := ((8 : Nat) : Int)) hx
  rw [show numB x ((1 : Nat) : Int) ((8 : Nat) : Int) = false from h] at f3
  have e2 : E.ev (callD T 2000 (n + 1)) (.or (.cmp .ne (.bi .len (.cons (.var 0) .nil)) (.int 2)) (.not (.call "is_number" (.cons (.ix (.var 0) (.int 0)) (.cons (.int 1) (.cons (.int 8) .nil)))))) [some (.fz (.tuple [x, y])), none, none, none] = .ok (.fz (.bool ((!decide (2 = 2)) || !false))) := by array_get_dec
  exact w_ifF (t := true) (e_or (e_not (e_isi (e_var rfl) fun _ z => nomatch z) rfl) e2) rfl (fun _ => rfl) fun z => nomatch z
omit [Has T "is_rising" f_is_rising] [Has T "are_places" f_are_places] in
/-- a pair of a number and another thing, up to where its ties are looked at -/
theorem web_in {m : Nat} {y : D} (h1 : 1 ≤ m) (h8 : m ≤ 8) {b : Bool} (k : Post (fun r => r = .rt (.bool b)) (Ss.exs (callD T 2000 (n + 1)) 2000 (.cons (.ite (.or (.not (.isi (.var 2) .tuple)) (.not (.bi .all (.cons (.comp (.n 3) [("tie", 3)] (.seq (.var 2)) .no (.and (.call "are_places" (.cons (.var 3) (.cons (.var 1) .nil))) (.cmp .eq (.bi .len (.cons (.var 3) .nil)) (.int 2)))) .nil)))) (.cons (.ret (.bl false)) .nil) .nil) (.cons (.ret (.and (.call "is_rising" (.cons (.var 2) .nil)) (.cmp .nin .non (.call "steps_from" (.cons (.var 0) (.cons (.int 0) .nil)))))) .nil)) [some (.fz (.tuple [nD m, y])), some (.fz (nD m)), some (.fz y), none])) :
    callD T 2000 (n + 2) "is_web" [.tuple [nD m, y]] = .ok (.bool b) := by
  rw [callH f_is_web]
  refine run_post (g := [some (.fz (.tuple [nD m, y])), none, none, none]) rfl rfl ?_
  have f1 : bi .len [.fz (.tuple [nD m, y])] = .ok (nD 2) := rfl
  have f2 : (O.fz (.tuple [nD m, y])).at ((0 : Nat) : Int) = .ok (.fz (nD m)) := rfl
  have f3 := c_number (T := T) (n := n) (d := nD m) (l := ((1 : Nat) : Int)) (m := ((8 : Nat) : Int)) fun _ z => nomatch z
  have e : numB (nD m) ((1 : Nat) : Int) ((8 : Nat) : Int) = true := by
    unfold numB
    simp only [Bool.and_eq_true, decide_eq_true_eq]
    omega
  rw [e] at f3
  have e2 : E.ev (callD T 2000 (n + 1)) (.or (.cmp .ne (.bi .len (.cons (.var 0) .nil)) (.int 2)) (.not (.call "is_number" (.cons (.ix (.var 0) (.int 0)) (.cons (.int 1) (.cons (.int 8) .nil)))))) [some (.fz (.tuple [nD m, y])), none, none, none] = .ok (.fz (.bool ((!decide (2 = 2)) || !true))) := by array_get_dec
  refine w_ifF (t := false) (e_or (e_not (e_isi (e_var rfl) fun _ z => nomatch z) rfl) e2) rfl (fun z => nomatch z) fun _ => ?_
  apply w_setT
  · exact e_var rfl
  · sizeOf_list_dec
  exact k
theorem web_no4 {m : Nat} {y : D} (h1 : 1 ≤ m) (h8 : m ≤ 8) (hd : noDict y) (ht : isTy .tuple y = false) : callD T 2000 (n + 2) "is_web" [.tuple [nD m, y]] = .ok (.bool false) := by
  refine web_in h1 h8 ?_
  refine w_ifF (t := true) (o := .fz (.bool (!(isTy .tuple y) || false))) (e_orI (y := false) (e_not (e_isi (e_var rfl) hd) rfl) fun z => ?_) ?_ (fun _ => rfl) fun z => nomatch z
  · rw [ht] at z; cases z
  · rw [ht]; rfl
/-- what is looked at of the ties -/
theorem e_ties {m : Nat} {x0 : D} {ds : List D} (h1 : 1 ≤ m) (h8 : m ≤ 8) (hl : ds.length ≤ 1000) (hd : ∀ d ∈ ds, noDict d ∧ ∀ es, d = .tuple es → (∀ x ∈ es, noDict x) ∧ es.length ≤ 1000) :
    E.ev (callD T 2000 (n + 2)) (.or (.not (.isi (.var 2) .tuple)) (.not (.bi .all (.cons (.comp (.n 3) [("tie", 3)] (.seq (.var 2)) .no (.and (.call "are_places" (.cons (.var 3) (.cons (.var 1) .nil))) (.cmp .eq (.bi .len (.cons (.var 3) .nil)) (.int 2)))) .nil)))) [some (.fz x0), some (.fz (nD m)), some (.fz (.tuple ds)), none] = .ok (.fz (.bool (!(isTy .tuple (.tuple ds)) || !(ds.all fun d => tieB d m)))) := by
  refine e_or (e_not (e_isi (e_var rfl) fun _ z => nomatch z) rfl) (e_not (o := .fz (.bool (ds.all fun d => tieB d m))) ?_ rfl)
  apply e_bi
  · apply es_cons
    · apply e_alls (enc := id) (xs := ds) (r := fun d => .bool (tieB d m)) (i_seqT (by rw [List.map_id]; exact e_var rfl)) (by omega)
      intro d hdd
      obtain ⟨g1, g2⟩ := hd d hdd
      have f1 := c_places (T := T) (n := n) (d := d) h1 (by omega) g1 g2
      apply turn_on
      · sizeOf_list_dec
      · refine e_andI (e_call (es_cons (e_var rfl) (es_cons (e_var rfl) es_nil)) rfl f1) fun z => ?_
        cases d with
        | tuple es =>
          have f2 : bi .len [.fz (.tuple es)] = .ok (nD es.length) := bi_lenT
          have : E.ev (callD T 2000 (n + 2)) (.cmp .eq (.bi .len (.cons (.var 3) .nil)) (.int 2)) [some (.fz x0), some (.fz (nD m)), some (.fz (.tuple ds)), some (.fz (.tuple es))] = .ok (.fz (.bool (decide (es.length = 2)))) := by array_get_dec
          exact this
        | _ => exact absurd z (by simp [placesB])
    · array_get_dec
  · array_get_dec
theorem web_no5 {m : Nat} {ds : List D} (h1 : 1 ≤ m) (h8 : m ≤ 8) (hl : ds.length ≤ 1000) (hd : ∀ d ∈ ds, noDict d ∧ ∀ es, d = .tuple es → (∀ x ∈ es, noDict x) ∧ es.length ≤ 1000) {d : D} (hm : d ∈ ds) (hb : tieB d m = false) : callD T 2000 (n + 3) "is_web" [.tuple [nD m, .tuple ds]] = .ok (.bool false) := by
  refine web_in h1 h8 ?_
  have e : (ds.all fun d => tieB d m) = false := by
    rw [List.all_eq_false]
    exact ⟨d, hm, by rw [hb]; decide⟩
  have := e_ties (T := T) (n := n) (x0 := .tuple [nD m, .tuple ds]) h1 h8 hl hd
  rw [e] at this
  exact w_ifF (t := true) this rfl (fun _ => rfl) fun z => nomatch z
theorem tie_good {w : Web} (h : SmW w) {t : Nat × Nat} (ht : t ∈ w.2) : tieB (prD t) w.1 = true := by
  obtain ⟨h1, h2⟩ := h.lt t ht
  unfold tieB placesB prD
  simp only [List.all_cons, List.all_nil, ints?, numB, Option.map_some, adj, List.length_cons, List.length_nil, Bool.and_eq_true, decide_eq_true_eq, Bool.and_true]
  refine ⟨⟨⟨⟨by omega, by omega⟩, by omega, by omega⟩, ?_⟩, trivial⟩
  show (decide ((t.1 : Int) < (t.2 : Int)) && true) = true
  simp
  omega
theorem c_isWeb [Has T "neighbours" f_neighbours] [Has T "steps_from" f_steps_from] {w : Web} (h : SmW w) (h8 : w.1 ≤ 8) (hl : w.2.length ≤ 1000) : callD T 2000 (n + 3) "is_web" [webD w] = .ok (.bool true) := by
  have pos := h.pos
  refine web_in pos h8 ?_
  have e : ((w.2.map prD).all fun d => tieB d w.1) = true := by
    rw [List.all_map, List.all_eq_true]
    intro t ht
    exact tie_good h ht
  have := e_ties (T := T) (n := n) (x0 := webD w) (ds := w.2.map prD) pos h8 (by rw [List.length_map]; exact hl) (by
    intro d hd
    obtain ⟨t, _, rfl⟩ := List.mem_map.mp hd
    refine ⟨fun _ z => (nomatch z), fun es q => ?_⟩
    cases q
    refine ⟨fun x hx => ?_, by simp⟩
    simp only [List.mem_cons, List.not_mem_nil, or_false] at hx
    rcases hx with rfl | rfl <;> exact fun _ z => nomatch z)
  rw [e] at this
  refine w_ifF (t := false) this rfl (fun z => nomatch z) fun _ => ?_
  have f1 := c_rising (T := T) (n := n + 1) prD (fun p q => decide (ltP p q)) (l := w.2) hl (by
    intro x _ y _
    show R.ok (lexLt [(x.1 : Int), (x.2 : Int)] [(y.1 : Int), (y.2 : Int)]) = _
    have := lex_row x y
    unfold rowI at this
    rw [this])
  have up : adj (fun p q => decide (ltP p q)) w.2 = true := by
    unfold adj
    rw [List.all_eq_true]
    intro k hk
    rw [List.mem_range'_1] at hk
    have g1 : w.2[k - 1]? = some w.2[k - 1] := List.getElem?_eq_getElem (by omega)
    have g2 : w.2[k]? = some w.2[k] := List.getElem?_eq_getElem (by omega)
    rw [g1, g2]
    exact decide_eq_true (List.pairwise_iff_getElem.mp h.srt (k - 1) k (by omega) (by omega) (by omega))
  rw [up] at f1
  have f2 : callD T 2000 (n + 1 + 1) "steps_from" [.tuple [nD w.1, .tuple (w.2.map prD)], nD 0] = .ok (rT w 0) := c_steps (T := T) (n := n) h (p := 0) (by omega)
  have f3 : cop .nin .none (rT w 0) = .ok true := by
    show (if SeqAt.shaped .none && SeqAt.shaped (rT w 0) then R.ok (!((((List.range w.1).map (dis w 0)).map nD).any fun z => PyData.eqv z .none)) else .bad) = _
    have s1 : SeqAt.shaped (.none : D) = true := (pl_none (k := 0)).sh (by decide)
    have s2 : SeqAt.shaped (rT w 0) = true := (pl_tn _).sh (by decide)
    rw [s1, s2]
    have : ((((List.range w.1).map (dis w 0)).map nD).any fun z => PyData.eqv z .none) = false := by
      rw [List.any_map, List.any_eq_false]
      intro x _
      show ¬ PyData.eqv (.int x) .none = true
      simp [PyData.eqv]
    rw [this]
    rfl
  apply w_ret
  · array_get_dec
  · rfl
end
end Q

set_option Elab.async false
set_option linter.all false
set_option maxRecDepth 100000
set_option maxHeartbeats 1000000
/-! W12: sorted(set(..)), places one walk later. -/
namespace Q
open PySem
set_option hygiene false
local macro_rules | `(tactic| array_get_dec) => `(tactic| (repeat' (first | ((with_reducible apply e_var); rfl) | with_reducible (first | apply e_cmp | apply e_not | apply e_and | apply e_or | apply e_bin | apply e_ix | apply e_call | apply e_bi | apply e_tup | apply e_lst | apply e_rgT | apply e_rgF | apply e_rg1 | apply e_isN | apply es_cons | apply f_cons | apply at_dT | apply at_rT | apply at_mD | apply at_mR | apply at_nT | apply at_nL | apply o_so | apply e_sl | exact e_bl | exact e_non | exact e_str | exact e_l0 | exact e_l1 | exact e_l2 | exact e_l3 | exact e_l4 | exact e_l5 | exact e_l6 | exact e_l7 | exact e_l8 | exact e_l9 | exact e_l10 | exact e_l11 | exact e_l12 | exact e_l13 | exact e_l14 | exact e_l15 | exact e_l16 | exact e_l17 | exact e_l18 | exact e_l19 | exact e_l20 | exact e_intL | exact c_ltN | exact c_leN | exact c_gtN | exact c_geN | exact cop_eqN _ _ | exact cop_neN _ _ | exact c_eqB _ _ | exact cop_neB _ _ | exact c_isB _ _ | exact c_isnB _ _ | exact c_eqT _ _ | exact cop_neT _ _ | exact c_eqL _ _ | exact c_neL _ _ | exact c_eqPs _ _ | exact c_nePs _ _ | exact c_eqLP _ _ | exact c_neLP _ _ | exact c_eqP _ _ | exact c_neP _ _ | exact inN _ _ | exact ninN _ _ | exact c_inP _ _ | exact c_ninP _ _ | exact c_inLN _ _ | exact c_inLP _ _ | exact c_ninLN _ _ | exact c_ninLP _ _ | exact b_addN | exact b_addI | exact bi_tupleN | exact bi_tupleNN | exact bi_listN | exact bi_listNN | exact bi_tupleP | exact bi_lenNT | exact bi_lenL' | exact bi_tupleON | exact neN_nil _ | exact eqN_nil _ | exact neP_nil _ | exact prs_nil _ | exact b_modN (by decide) | exact web_n' | exact web_t' | exact pr_0 | exact pr_1 | exact t_bool | exact f_nil | exact es_nil | exact bi_min | exact bi_max | exact bi_lenM | exact bi_lenTM | exact bi_lenOM | exact bi_any | exact bi_all | exact bi_sortN | exact bi_sortP | exact bi_intB | exact bi_tuple | exact bi_tupleT | exact bi_listL | exact bi_listT | exact bi_tupleO | exact t_list | exact t_ol | exact cut_nT | exact cut_nL | exact o_no | exact isN_n | exact isN_t | exact isN_none | apply f1 | apply f2 | apply f3 | apply f4 | apply f5 | apply f6 | apply f7 | apply f8 | apply f9 | apply f10 | apply f11 | apply f12 | apply f13 | apply f14 | apply f15) | with_reducible assumption | omega)))
local macro_rules | `(tactic| sizeOf_list_dec) => `(tactic| (first | (apply put_lit; (next => rfl); (next => dsimp only [List.set]; try exact rfl)) | (apply tput1; (next => rfl); (next => dsimp only [wipe, List.map, List.set]; try exact rfl)) | (apply tput2; (next => rfl); (next => rfl); (next => dsimp only [wipe, List.map, List.set]; try exact rfl)) | (apply tput3; (next => rfl); (next => rfl); (next => rfl); (next => dsimp only [wipe, List.map, List.set]; try exact rfl))))
def insUN (x : Nat) : List Nat → List Nat
  | [] => [x]
  | y :: ys => if x < y then x :: y :: ys else if x = y then y :: ys else y :: insUN x ys
def usortN : List Nat → List Nat
  | [] => []
  | x :: xs => insUN x (usortN xs)
theorem insUN_cast (x : Nat) : ∀ l : List Nat, insU (x : Int) (l.map fun (i : Nat) => (i : Int)) = (insUN x l).map fun (i : Nat) => (i : Int)
  | [] => rfl
  | y :: ys => by
    rw [List.map_cons, insU, insUN]
    by_cases h : x < y
    · rw [if_pos h, if_pos (by omega)]; rfl
    · rw [if_neg h, if_neg (by omega)]
      by_cases e : x = y
      · rw [if_pos e, if_pos (by omega)]; rfl
      · rw [if_neg e, if_neg (by omega), insUN_cast x ys]; rfl
theorem usortN_cast : ∀ l : List Nat, usortI (l.map fun (i : Nat) => (i : Int)) = (usortN l).map fun (i : Nat) => (i : Int)
  | [] => rfl
  | x :: xs => by rw [List.map_cons, usortI, usortN_cast xs, insUN_cast]; rfl
theorem mem_insUN {x y : Nat} : ∀ {l : List Nat}, y ∈ insUN x l ↔ y = x ∨ y ∈ l
  | [] => by simp [insUN]
  | z :: l => by
    rw [insUN]
    by_cases h : x < z
    · rw [if_pos h]; simp
    · rw [if_neg h]
      by_cases e : x = z
      · rw [if_pos e]; subst e; simp
      · rw [if_neg e, List.mem_cons, mem_insUN, List.mem_cons]
        constructor
        · rintro (q | q | q)
          · exact .inr (.inl q)
          · exact .inl q
          · exact .inr (.inr q)
        · rintro (q | q | q)
          · exact .inr (.inl q)
          · exact .inl q
          · exact .inr (.inr q)
theorem mem_usortN {y : Nat} : ∀ {l : List Nat}, y ∈ usortN l ↔ y ∈ l
  | [] => Iff.rfl
  | x :: l => by rw [usortN, mem_insUN, mem_usortN, List.mem_cons]
theorem insUN_up {x : Nat} : ∀ {l : List Nat}, Up l → Up (insUN x l)
  | [], _ => by simp [insUN, Up]
  | y :: l, h => by
    have h' := List.pairwise_cons.mp h
    rw [insUN]
    by_cases g : x < y
    · rw [if_pos g]
      refine List.pairwise_cons.mpr ⟨fun z hz => ?_, h⟩
      rcases List.mem_cons.mp hz with q | q
      · omega
      · have := h'.1 z q; omega
    · rw [if_neg g]
      by_cases e : x = y
      · rw [if_pos e]; exact h
      · rw [if_neg e]
        refine List.pairwise_cons.mpr ⟨fun z hz => ?_, insUN_up h'.2⟩
        rcases mem_insUN.mp hz with q | q
        · omega
        · exact h'.1 z q
theorem usortN_up : ∀ l : List Nat, Up (usortN l)
  | [] => List.Pairwise.nil
  | x :: l => insUN_up (usortN_up l)
theorem usortN_is {l r : List Nat} (hr : Up r) (h : ∀ x, x ∈ l ↔ x ∈ r) : usortN l = r := up_ext (usortN_up l) hr fun x => mem_usortN.trans (h x)
theorem usortN_len {l : List Nat} {m : Nat} (h : ∀ x ∈ l, x < m) : (usortN l).length ≤ m := up_len (usortN_up l) fun x hx => h x (mem_usortN.mp hx)
section
variable {cd : String → List D → R D} {N : Nat} {g : Env}
theorem ssetD_n {l : List Nat} (hl : l.length ≤ 1000) (hm : (usortN l).length < 64) : ssetD (l.map nD) = .ok (.fz (listN (usortN l))) := by
  unfold ssetD
  rw [ints_n]
  show (if ssetOk (l.map fun (i : Nat) => (i : Int)) then R.ok (O.fz (PyData.list ((usortI (l.map fun (i : Nat) => (i : Int))).map PyData.int))) else R.bad) = _
  rw [usortN_cast]
  have : ssetOk (l.map fun (i : Nat) => (i : Int)) = true := by
    unfold ssetOk
    rw [usortN_cast, List.length_map, List.length_map]
    exact decide_eq_true ⟨hl, hm⟩
  rw [this, if_pos rfl, List.map_map]
  rfl
theorem e_sset {a : E} {o : O} {l : List Nat} (h : E.ev cd a g = .ok o) (hi : o.items = .ok (l.map nD)) (hl : l.length ≤ 1000) (hm : (usortN l).length < 64) : E.ev cd (.sset a) g = .ok (.fz (listN (usortN l))) := by
  rw [ev_sset, h, R.ok_bind, hi, R.ok_bind, ssetD_n hl hm]
theorem e_ssetT {a : E} {l : List Nat} {m : Nat} (h : E.ev cd a g = .ok (.fz (tupN l))) (hl : l.length ≤ 1000) (hm : ∀ x ∈ l, x < m) (h64 : m < 64) : E.ev cd (.sset a) g = .ok (.fz (listN (usortN l))) := e_sset h rfl hl (by have := usortN_len hm; omega)
theorem e_ssetL {a : E} {l : List Nat} {m : Nat} (h : E.ev cd a g = .ok (.fz (listN l))) (hl : l.length ≤ 1000) (hm : ∀ x ∈ l, x < m) (h64 : m < 64) : E.ev cd (.sset a) g = .ok (.fz (listN (usortN l))) := e_sset h rfl hl (by have := usortN_len hm; omega)
/-- tuple(sorted(set(..))) -/
theorem e_usT {a : E} {l : List Nat} {m : Nat} (h : E.ev cd a g = .ok (.fz (tupN l))) (hl : l.length ≤ 1000) (hm : ∀ x ∈ l, x < m) (h64 : m < 64) : E.ev cd (.bi .tuple (.cons (.sset a) .nil)) g = .ok (.fz (tupN (usortN l))) := e_bi (es_cons (e_ssetT h hl hm h64) es_nil) bi_tupleN
theorem e_usL {a : E} {l : List Nat} {m : Nat} (h : E.ev cd a g = .ok (.fz (listN l))) (hl : l.length ≤ 1000) (hm : ∀ x ∈ l, x < m) (h64 : m < 64) : E.ev cd (.bi .tuple (.cons (.sset a) .nil)) g = .ok (.fz (tupN (usortN l))) := e_bi (es_cons (e_ssetL h hl hm h64) es_nil) bi_tupleN
theorem w_extT {P : SO → Prop} {ss : Ss} {g' : Env} {i : Nat} {e : E} {ds : List D} {os : List O} (hs : slotL g i = .ok os) (h : E.ev cd e g = .ok (.fz (.tuple ds))) (hz : os.length + ds.length ≤ 1000000) (hg : putS g i (.ol (os ++ ds.map .fz)) = .nx g') (k : Post P (Ss.exs cd N ss g')) : Post P (Ss.exs cd N (.cons (.ext i e) ss) g) := by
  refine post_thn ?_ k
  rw [ex_ext, hs, R.thn_ok, h, R.ok_bind, asD_fz, R.thn_ok]
  show (if szOk (os.length + ds.length) then _ else _) = _
  rw [if_pos (sz_le hz), hg]
end
theorem bits_le {z : Int} {B : Nat} (h : z.natAbs < 2 ^ B) : Builtin.Int.intBits z ≤ B := by
  unfold Builtin.Int.intBits
  by_cases h0 : z = 0
  · rw [if_pos (by simpa using h0)]; exact Nat.zero_le _
  · rw [if_neg (by simpa using h0)]
    have hn : z.natAbs ≠ 0 := by omega
    exact (Nat.log2_lt hn).mpr h
theorem bits_div {z : Int} {B k : Nat} (h : Builtin.Int.intBits z ≤ B) : Builtin.Int.intBits (z / (k : Int)) ≤ B :=
  bits_le (Nat.lt_of_le_of_lt (Int.natAbs_ediv_le_natAbs z k) (bits_lt h))
theorem Sm.div {c : Int} (h : Sm 0 c) (k : Nat) : Sm 0 (c / (k : Int)) := by
  obtain ⟨z, d, rfl, h2, h3⟩ := h
  have : d = 0 := by omega
  subst this
  rw [Int.add_zero]
  exact ⟨z / (k : Int), 0, (Int.add_zero _).symm, bits_div h2, by decide⟩
theorem fold_fst {α β γ : Type} (f : α → List β) (g : α → γ) : ∀ (l : List α) (s : List β × γ), (l.foldl (fun s a => (s.1 ++ f a, g a)) s).1 = s.1 ++ l.flatMap f
  | [], s => by simp
  | a :: l, s => by rw [List.foldl_cons, fold_fst f g l]; simp [List.flatMap_cons]
/-- what _law_mix tells -/
def mixN (a p : Int) (m : Nat) : Nat := (mixI a p (m : Int)).toNat
theorem mixN_lt {a p : Int} {m : Nat} (h : 0 < m) : mixN a p m < m := by
  have := mixI_lt (c := a) (p := p) (m := (m : Int)) (by omega)
  unfold mixN
  omega
theorem c_mixV {T : String → Option Fn} {n : Nat} [Has T "_law_mix" f__law_mix] {a p : Int} {m : Nat} (h0 : 0 < m) (hl : a.natAbs.log2 ≤ 2000000) (hp : 0 < p) (hp2 : p ≤ 1000000) : callD T 2000 (n + 1) "_law_mix" [.int a, .int p, nD m] = .ok (nD (mixN a p m)) := by
  rw [c_mix (T := T) (n := n) a p (m : Int) hp hp2 (by omega) hl]
  have := mixI_lt (c := a) (p := p) (m := (m : Int)) (by omega)
  show _ = R.ok (PyData.int (((mixI a p (m : Int)).toNat : Nat) : Int))
  rw [show (((mixI a p (m : Int)).toNat : Nat) : Int) = mixI a p (m : Int) by omega]
/-! ### walks -/
def nextW (w : Web) (ps : List Nat) : List Nat := (List.range w.1).filter fun p => ps.any fun q => decide (dis w p q < 2)
theorem mem_nextW {w : Web} {ps : List Nat} {p : Nat} : p ∈ nextW w ps ↔ p < w.1 ∧ ∃ q ∈ ps, dis w p q < 2 := by
  unfold nextW
  rw [List.mem_filter, List.mem_range, List.any_eq_true]
  simp only [decide_eq_true_eq]
theorem nextW_up (w : Web) (ps : List Nat) : Up (nextW w ps) := List.Pairwise.filter _ (range_up _)
theorem nextW_lt {w : Web} {ps : List Nat} {p : Nat} (h : p ∈ nextW w ps) : p < w.1 := (mem_nextW.mp h).1
theorem nextW_len (w : Web) (ps : List Nat) : (nextW w ps).length ≤ w.1 := up_len (nextW_up w ps) fun _ h => nextW_lt h
section
variable {T : String → Option Fn} {n : Nat} {w : Web}
theorem c_walked [Has T "walked" f_walked] (h : SmW w) {ps : List Nat} (hp : ∀ p ∈ ps, p < w.1) (hl : ps.length ≤ 1000) : callD T 2000 (n + 1) "walked" [dT w, tupN ps] = .ok (tupN (nextW w ps)) := by
  rw [callH f_walked]
  have few := h.few
  have f1 := len_dT (w := w)
  refine run_post (g := [some (.fz (dT w)), some (.fz (tupN ps)), none, none]) rfl rfl ?_
  apply w_ret
  · apply e_bi
    · apply es_cons
      · apply e_cmpr (n := w.1) (p := fun p => ps.any fun q => decide (dis w p q < 2)) (r := nD)
        · array_get_dec
        · omega
        · intro p hpp
          apply turn_if
          · sizeOf_list_dec
          · apply e_bi
            · apply es_cons
              · apply e_alls (enc := nD) (xs := ps) (r := fun q => .bool (decide (dis w p q < 2))) (i_seqT (e_var rfl)) (by omega)
                intro q hq
                have := hp q hq
                (apply turn_on; (next => sizeOf_list_dec); (next => array_get_dec))
              · array_get_dec
            · exact bi_any
          · array_get_dec
      · array_get_dec
    · array_get_dec
  · rfl
theorem c_next [Has T "neighbours" f_neighbours] [Has T "steps_from" f_steps_from] [Has T "all_steps" f_all_steps] [Has T "walked" f_walked] [Has T "next_places" f_next_places] (h : SmW w) {ps : List Nat} (hp : ∀ p ∈ ps, p < w.1) (hl : ps.length ≤ 1000) : callD T 2000 (n + 4) "next_places" [webD w, tupN ps] = .ok (tupN (nextW w ps)) := by
  rw [callH f_next_places]
  have f1 := c_all (T := T) (n := n) h
  have f2 := c_walked (T := T) (n := n + 2) h hp hl
  refine run_post (g := [some (.fz (webD w)), some (.fz (tupN ps))]) rfl rfl ?_
  exact w_ret (by array_get_dec) rfl
end
variable {w : Web} (h : SmW w)
include h
theorem lt2_iff {p q : Nat} (hp : p < w.1) (hq : q < w.1) : dis w p q < 2 ↔ p = q ∨ q ∈ nb w.2 p := by
  rw [nb_mem h hp, ← h.zero hp hq]
  constructor
  · intro g
    rcases Nat.lt_or_ge (dis w p q) 1 with z | z
    · exact .inl (by omega)
    · exact .inr ⟨hq, by omega⟩
  · rintro (g | ⟨_, g⟩) <;> omega
/-- the places themselves, and all that are tied to one of them -/
theorem next_is {ps : List Nat} (hp : ∀ p ∈ ps, p < w.1) : nextW w ps = usortN (ps ++ ps.flatMap fun p => nb w.2 p) := by
  refine (usortN_is (nextW_up w ps) fun x => ?_).symm
  rw [mem_nextW, List.mem_append, List.mem_flatMap]
  constructor
  · rintro (q | ⟨p, q1, q2⟩)
    · exact ⟨hp x q, x, q, by rw [(h.zero (hp x q) (hp x q)).mpr rfl]; decide⟩
    · have hx := (nb_mem h (hp p q1)).mp q2
      exact ⟨hx.1, p, q1, by rw [h.symm hx.1 (hp p q1)]; omega⟩
  · rintro ⟨hx, p, q1, q2⟩
    rw [h.symm hx (hp p q1), lt2_iff h (hp p q1) hx] at q2
    rcases q2 with q2 | q2
    · exact .inl (q2 ▸ q1)
    · exact .inr ⟨p, q1, q2⟩
theorem next_all : nextW w (List.range w.1) = List.range w.1 := by
  refine up_ext (nextW_up _ _) (range_up _) fun x => ?_
  rw [mem_nextW, List.mem_range]
  exact ⟨fun q => q.1, fun q => ⟨q, x, List.mem_range.mpr q, by rw [(h.zero q q).mpr rfl]; decide⟩⟩
omit h in
theorem next_nil : nextW w [] = [] := by
  unfold nextW
  rw [List.filter_eq_nil_iff]
  intro p _
  simp
omit h in
theorem next_app (a b : List Nat) : nextW w (usortN (a ++ b)) = usortN (nextW w a ++ nextW w b) := by
  refine (usortN_is (nextW_up _ _) fun x => ?_).symm
  rw [List.mem_append, mem_nextW, mem_nextW, mem_nextW]
  constructor
  · rintro (⟨q, p, q1, q2⟩ | ⟨q, p, q1, q2⟩)
    · exact ⟨q, p, mem_usortN.mpr (List.mem_append.mpr (.inl q1)), q2⟩
    · exact ⟨q, p, mem_usortN.mpr (List.mem_append.mpr (.inr q1)), q2⟩
  · rintro ⟨q, p, q1, q2⟩
    rcases List.mem_append.mp (mem_usortN.mp q1) with z | z
    · exact .inl ⟨q, p, z, q2⟩
    · exact .inr ⟨q, p, z, q2⟩
/-- how far one comes in so many walks -/
def ball (w : Web) (p k : Nat) : List Nat := (List.range w.1).filter fun q => decide (dis w p q ≤ k)
omit h in
theorem mem_ball {p k q : Nat} : q ∈ ball w p k ↔ q < w.1 ∧ dis w p q ≤ k := by
  unfold ball
  rw [List.mem_filter, List.mem_range, decide_eq_true_eq]
theorem ball_zero {p : Nat} (hp : p < w.1) : ball w p 0 = [p] := by
  refine up_ext (List.Pairwise.filter _ (range_up _)) (by simp) fun x => ?_
  rw [mem_ball, List.mem_singleton]
  constructor
  · rintro ⟨q1, q2⟩
    exact ((h.zero hp q1).mp (by omega)).symm
  · intro e
    subst e
    exact ⟨hp, by rw [(h.zero hp hp).mpr rfl]; exact Nat.le_refl 0⟩
theorem ball_next {p : Nat} (hp : p < w.1) (k : Nat) : nextW w (ball w p k) = ball w p (k + 1) := by
  refine up_ext (nextW_up _ _) (List.Pairwise.filter _ (range_up _)) fun x => ?_
  rw [mem_nextW, mem_ball]
  constructor
  · rintro ⟨q, y, q1, q2⟩
    have hy := mem_ball.mp q1
    refine ⟨q, ?_⟩
    have := h.tri hp q hy.1
    rw [h.symm q hy.1] at q2
    omega
  · rintro ⟨q, z⟩
    refine ⟨q, ?_⟩
    by_cases e : x = p
    · subst e
      exact ⟨x, mem_ball.mpr ⟨q, by rw [(h.zero q q).mpr rfl]; omega⟩, by rw [(h.zero q q).mpr rfl]; decide⟩
    · obtain ⟨y, y1, y2, y3⟩ := last_step h hp q (fun e' => e e'.symm)
      exact ⟨y, mem_ball.mpr ⟨y1, by omega⟩, by rw [h.symm q y1]; omega⟩
theorem ball_full {p : Nat} (hp : p < w.1) : ball w p w.1 = List.range w.1 := by
  refine up_ext (List.Pairwise.filter _ (range_up _)) (range_up _) fun x => ?_
  rw [mem_ball, List.mem_range]
  exact ⟨fun q => q.1, fun q => ⟨q, by have := dis_lt h hp q; omega⟩⟩
end Q

set_option Elab.async false
set_option linter.all false
set_option maxRecDepth 100000
set_option maxHeartbeats 1000000
/-! W13: doubtful readings. -/
namespace Q
open PySem
set_option hygiene false
local macro_rules | `(tactic| array_get_dec) => `(tactic| (repeat' (first | ((with_reducible apply e_var); rfl) | with_reducible (first | apply e_cmp | apply e_not | apply e_and | apply e_or | apply e_bin | apply e_ix | apply e_call | apply e_bi | apply e_tup | apply e_lst | apply e_rgT | apply e_rgF | apply e_rg1 | apply e_isN | apply es_cons | apply f_cons | apply at_dT | apply at_rT | apply at_mD | apply at_mR | apply at_nT | apply at_nL | apply o_so | apply e_sl | exact e_bl | exact e_non | exact e_str | exact e_l0 | exact e_l1 | exact e_l2 | exact e_l3 | exact e_l4 | exact e_l5 | exact e_l6 | exact e_l7 | exact e_l8 | exact e_l9 | exact e_l10 | exact e_l11 | exact e_l12 | exact e_l13 | exact e_l14 | exact e_l15 | exact e_l16 | exact e_l17 | exact e_l18 | exact e_l19 | exact e_l20 | exact e_intL | exact c_ltN | exact c_leN | exact c_gtN | exact c_geN | exact cop_eqN _ _ | exact cop_neN _ _ | exact c_eqB _ _ | exact cop_neB _ _ | exact c_isB _ _ | exact c_isnB _ _ | exact c_eqT _ _ | exact cop_neT _ _ | exact c_eqL _ _ | exact c_neL _ _ | exact c_eqPs _ _ | exact c_nePs _ _ | exact c_eqLP _ _ | exact c_neLP _ _ | exact c_eqP _ _ | exact c_neP _ _ | exact inN _ _ | exact ninN _ _ | exact c_inP _ _ | exact c_ninP _ _ | exact c_inLN _ _ | exact c_inLP _ _ | exact c_ninLN _ _ | exact c_ninLP _ _ | exact b_addN | exact b_addI | exact bi_tupleN | exact bi_tupleNN | exact bi_listN | exact bi_listNN | exact bi_tupleP | exact bi_lenNT | exact bi_lenL' | exact bi_tupleON | exact neN_nil _ | exact eqN_nil _ | exact neP_nil _ | exact prs_nil _ | exact b_modN (by decide) | exact web_n' | exact web_t' | exact pr_0 | exact pr_1 | exact t_bool | exact f_nil | exact es_nil | exact bi_min | exact bi_max | exact bi_lenM | exact bi_lenTM | exact bi_lenOM | exact bi_any | exact bi_all | exact bi_sortN | exact bi_sortP | exact bi_intB | exact bi_tuple | exact bi_tupleT | exact bi_listL | exact bi_listT | exact bi_tupleO | exact t_list | exact t_ol | exact cut_nT | exact cut_nL | exact o_no | exact isN_n | exact isN_t | exact isN_none | apply f1 | apply f2 | apply f3 | apply f4 | apply f5 | apply f6 | apply f7 | apply f8 | apply f9 | apply f10 | apply f11 | apply f12 | apply f13 | apply f14 | apply f15) | with_reducible assumption | omega)))
local macro_rules | `(tactic| sizeOf_list_dec) => `(tactic| (first | (apply put_lit; (next => rfl); (next => dsimp only [List.set]; try exact rfl)) | (apply tput1; (next => rfl); (next => dsimp only [wipe, List.map, List.set]; try exact rfl)) | (apply tput2; (next => rfl); (next => rfl); (next => dsimp only [wipe, List.map, List.set]; try exact rfl)) | (apply tput3; (next => rfl); (next => rfl); (next => rfl); (next => dsimp only [wipe, List.map, List.set]; try exact rfl))))
abbrev optT (s : List (Option Nat)) : D := .tuple (s.map optD)
abbrev optL (s : List (Option Nat)) : D := .list (s.map optD)
def pO (p : Nat × Option Nat) : D := .tuple [nD p.1, optD p.2]
def bad1 (p : Nat × Option Nat) : Bool := (true ^^ p.2.isNone) && !decide (some p.1 = p.2)
def unlikeO (r : List Nat) (s : List (Option Nat)) : Nat := ((r.zip s).filter bad1).length
theorem zip_pO : ∀ (r : List Nat) (s : List (Option Nat)), zipD (r.map nD) (s.map optD) = (r.zip s).map pO
  | [], _ => by simp [zipD]
  | _ :: _, [] => by simp [zipD]
  | x :: r, y :: s => by rw [List.map_cons, List.map_cons, zipD, zip_pO r s]; rfl
theorem optT_some (l : List Nat) : tupN l = optT (l.map some) := by
  unfold tupN optT
  rw [List.map_map]
  rfl
theorem optL_some (l : List Nat) : listN l = optL (l.map some) := by
  unfold listN optL
  rw [List.map_map]
  rfl
theorem isN_opt (o : Option Nat) : isNone (optD o) = o.isNone := by cases o <;> rfl
theorem c_neO (a : Nat) (o : Option Nat) : cop .ne (nD a) (optD o) = .ok (!decide (some a = o)) := cop_ne eqe_opt (pl_opt (k := 0)) (by decide) (some a) o
theorem c_neO2 (a : Nat) (o : Option Nat) : cop .ne (optD o) (nD a) = .ok (!decide (some a = o)) := by
  have := cop_ne eqe_opt (pl_opt (k := 0)) (by decide) o (some a)
  rw [show decide (o = some a) = decide (some a = o) from decide_eq_decide.mpr eq_comm] at this
  exact this
section
variable {cd : String → List D → R D} {N : Nat} {g g' : Env} {P : SO → Prop} {ss : Ss}
theorem i_zipO {a b : E} {r : List Nat} {s : List (Option Nat)} (ha : E.ev cd a g = .ok (.fz (tupN r))) (hb : E.ev cd b g = .ok (.fz (optT s))) : It.evi cd (.zip a b) g = .ok ((r.zip s).map pO) := by
  simp only [It.evi, ha, hb, R.ok_bind, asD_fz, tupN, optT, zip_pO]
theorem e_slTo {a b : E} {l : List Nat} {k : Nat} (ha : E.ev cd a g = .ok (.fz (tupN l))) (hb : E.ev cd b g = .ok (.fz (nD k))) : E.ev cd (.sl a .no (.so b)) g = .ok (.fz (tupN (l.take k))) := by
  rw [← cutD_to]; exact e_sl ha o_no (o_so hb) cut_nT
theorem e_slFrom {a b : E} {l : List Nat} {k : Nat} (ha : E.ev cd a g = .ok (.fz (tupN l))) (hb : E.ev cd b g = .ok (.fz (nD k))) : E.ev cd (.sl a (.so b) .no) g = .ok (.fz (tupN (l.drop k))) := by
  rw [← cutD_from]; exact e_sl ha (o_so hb) o_no cut_nT
theorem b_addTT {xs ys : List D} (h : xs.length + ys.length ≤ 1000000) : bop .add (.tuple xs) (.tuple ys) = .ok (.tuple (xs ++ ys)) := by
  show (if szOk (xs.length + ys.length) then R.ok (PyData.tuple (xs ++ ys)) else R.bad) = _
  rw [if_pos (sz_le h)]
theorem w_setI {i : Nat} {b e : E} {k : Nat} {v : D} {l : List D} (hs : slotL g i = .ok (l.map .fz)) (he : E.ev cd e g = .ok (.fz v)) (hb : E.ev cd b g = .ok (.fz (nD k))) (hk : k < l.length) (hg : putS g i (.ol ((l.set k v).map .fz)) = .nx g') (k' : Post P (Ss.exs cd N ss g')) : Post P (Ss.exs cd N (.cons (.setI i b e) ss) g) := by
  refine post_thn ?_ k'
  rw [ex_setI, he, R.ok_bind, asD_fz, R.thn_ok, hs, R.thn_ok, hb, R.ok_bind, asD_fz, R.ok_bind, asInt_int, R.thn_ok, setL_n (by rw [List.length_map]; exact hk), R.thn_ok, ← hg, List.map_set]
end
def plW (w : Web) (ms : List Nat) (s : List (Option Nat)) (e : Nat) : List Nat := (List.range w.1).filter fun p => decide (unlikeO (rowW w ms p) s ≤ e)
theorem mem_plW {w : Web} {ms : List Nat} {s : List (Option Nat)} {e p : Nat} : p ∈ plW w ms s e ↔ p < w.1 ∧ unlikeO (rowW w ms p) s ≤ e := by
  unfold plW
  rw [List.mem_filter, List.mem_range, decide_eq_true_eq]
theorem plW_up (w : Web) (ms : List Nat) (s : List (Option Nat)) (e : Nat) : Up (plW w ms s e) := List.Pairwise.filter _ (range_up _)
theorem rowW_len (w : Web) (ms : List Nat) (p : Nat) : (rowW w ms p).length = ms.length := by unfold rowW; rw [List.length_map]
section
variable {T : String → Option Fn} {n : Nat} {w : Web}
theorem c_unlikeO [Has T "unlike" f_unlike] {r : List Nat} {s : List (Option Nat)} (hr : r.length ≤ 1000) : callD T 2000 (n + 1) "unlike" [tupN r, optT s] = .ok (nD (unlikeO r s)) := by
  rw [callH f_unlike]
  refine run_post (g := [some (.fz (tupN r)), some (.fz (optT s)), none, none]) rfl rfl ?_
  apply w_ret
  · apply e_bi
    · apply es_cons
      · apply e_cmps (enc := pO) (xs := r.zip s) (p := bad1) (r := fun _ => nD 1) (i_zipO (e_var rfl) (e_var rfl)) (by rw [List.length_zip]; omega)
        intro p hp
        apply turn_if
        · exact tput2 (x := nD p.1) (y := optD p.2) rfl rfl rfl
        · exact e_and (e_isN (e_var rfl) (isN_opt _)) (e_cmp (e_var rfl) (e_var rfl) (c_neO _ _))
        · array_get_dec
      · array_get_dec
    · array_get_dec
  · rfl
theorem c_placesBy [Has T "neighbours" f_neighbours] [Has T "steps_from" f_steps_from] [Has T "all_steps" f_all_steps] [Has T "unlike" f_unlike] [Has T "row_in" f_row_in] [Has T "places_by" f_places_by] (h : SmW w) {ms : List Nat} (hm : ∀ m ∈ ms, m < w.1) (hl : ms.length ≤ 1000) {s : List (Option Nat)} {e : Nat} : callD T 2000 (n + 4) "places_by" [webD w, tupN ms, optT s, nD e] = .ok (tupN (plW w ms s e)) := by
  rw [callH f_places_by]
  have few := h.few
  have f1 := c_all (T := T) (n := n) h
  refine run_post (g := [some (.fz (webD w)), some (.fz (tupN ms)), some (.fz (optT s)), some (.fz (nD e)), none, none]) rfl rfl ?_
  (apply w_set; (next => array_get_dec); (next => sizeOf_list_dec))
  apply w_ret
  · apply e_bi
    · apply es_cons
      · apply e_cmpr (n := w.1) (p := fun p => decide (unlikeO (rowW w ms p) s ≤ e)) (r := nD)
        · array_get_dec
        · omega
        · intro p hp
          have f2 := c_row (T := T) (n := n + 2) h hm hl hp
          have f3 := c_unlikeO (T := T) (n := n + 2) (r := rowW w ms p) (s := s) (by rw [rowW_len]; omega)
          (apply turn_if; (next => sizeOf_list_dec); (next => array_get_dec); (next => array_get_dec))
      · array_get_dec
    · array_get_dec
  · rfl
theorem cnt_range {r : List Nat} {s : List (Option Nat)} (h : s.length = r.length) : ((List.range r.length).filter fun k => bad1 (r[k]?.getD 0, s[k]?.getD none)).length = unlikeO r s := by
  unfold unlikeO
  have e : r.zip s = (List.range r.length).map fun k => (r[k]?.getD 0, s[k]?.getD none) := by
    apply List.ext_getElem
    · rw [List.length_zip, List.length_map, List.length_range]; omega
    · intro i h1 h2
      rw [List.length_map, List.length_range] at h2
      rw [List.getElem_zip, List.getElem_map, List.getElem_range, List.getElem?_eq_getElem h2, List.getElem?_eq_getElem (by omega)]
      rfl
  rw [e, List.filter_map, List.length_map]
  rfl
theorem len_mD' : bi .len [.fz (mxD w)] = .ok (nD w.1) := len_mD
theorem at_optL {s : List (Option Nat)} {i : Nat} (h : i < s.length) : (O.fz (optL s)).at ((i : Nat) : Int) = .ok (.fz (optD (s[i]?.getD none))) := by
  refine at_list ?_
  rw [List.getElem?_map, List.getElem?_eq_getElem h]
  rfl
theorem c_lawplaces [Has T "_law_row" f__law_row] [Has T "_law_places" f__law_places] (h14 : w.1 ≤ 14) {ms : List Nat} (hm : ∀ m ∈ ms, m < w.1) (hl : ms.length ≤ 1000) {s : List (Option Nat)} (hs : s.length = ms.length) {e : Nat} : callD T 2000 (n + 2) "_law_places" [mxD w, tupN ms, optL s, nD e] = .ok (listN (plW w ms s e)) := by
  rw [callH f__law_places]
  have f1 := len_mD (w := w)
  have f2 := fun p (hp : p < w.1) => c_lawrow (T := T) (n := n) hm hl hp
  refine run_post (g := [some (.fz (mxD w)), some (.fz (tupN ms)), some (.fz (optL s)), some (.fz (nD e)), none, none, none, none]) rfl rfl ?_
  (apply w_setO lst0 rfl; (next => sizeOf_list_dec))
  apply w_foldN (fun r : List Nat => [some (O.fz (mxD w)), some (.fz (tupN ms)), some (.fz (optL s)), some (.fz (nD e)), some (.ol ((r.map nD).map .fz)), none, none, none]) (fun r p => if decide (unlikeO (rowW w ms p) s ≤ e) then r ++ [p] else r) (fun k r => r.length ≤ k) [] (i_rng (n := w.1) (by array_get_dec) (by omega)) rfl (Nat.le_refl _)
  · intro k r p hp hr
    obtain ⟨hp1, hp2⟩ := List.getElem?_eq_some_iff.mp hp
    rw [List.length_range] at hp1
    rw [List.getElem_range] at hp2
    have hp : p < w.1 := by omega
    refine ⟨by split; (rw [List.length_append, List.length_singleton]; omega); omega, ?_⟩
    (apply turnP; (next => sizeOf_list_dec))
    (apply w_set; (next => array_get_dec); (next => sizeOf_list_dec))
    have hr' := rowW_len w ms p
    apply w_iteB (t := decide (unlikeO (rowW w ms p) s ≤ e))
    · apply e_cmp (x := nD (unlikeO (rowW w ms p) s))
      · apply e_bi
        · apply es_cons
          · apply e_cmpr (n := ms.length) (p := fun k => bad1 ((rowW w ms p)[k]?.getD 0, s[k]?.getD none)) (r := nD)
            · array_get_dec
            · omega
            · intro k hk
              have a1 : (O.fz (optL s)).at ((k : Nat) : Int) = .ok (.fz (optD (s[k]?.getD none))) := at_optL (by omega)
              have a2 : (O.fz (tupN (rowW w ms p))).at ((k : Nat) : Int) = .ok (.fz (nD ((rowW w ms p)[k]?.getD 0))) := at_nT (by omega)
              apply turn_if
              · sizeOf_list_dec
              · exact e_and (e_isN (e_ix (e_var rfl) (e_var rfl) a1) (isN_opt _)) (e_cmp (e_ix (e_var rfl) (e_var rfl) a1) (e_ix (e_var rfl) (e_var rfl) a2) (c_neO2 _ _))
              · array_get_dec
          · array_get_dec
        · rw [bi_lenM, ← hr', cnt_range (by omega)]
      · array_get_dec
      · array_get_dec
    · intro t
      refine w_app rfl (e_var rfl) (by simp; omega) rfl (w_cont (w_back ?_))
      rw [if_pos t]
      simp only [List.map_append]
      rfl
    · intro t
      refine w_cont (w_back ?_)
      rw [if_neg (by rw [t]; decide)]
      rfl
  · intro _
    rw [fold_filter, List.nil_append]
    (apply w_frzL; (next => rfl); (next => dsimp only [List.set]; try exact rfl))
    exact w_ret (e_var rfl) rfl
theorem c_lawsure [Has T "_law_sure" f__law_sure] (h14 : w.1 ≤ 14) {ms : List Nat} (hm : ∀ m ∈ ms, m < w.1) (hl : ms.length ≤ 1000) {e : Nat} (he : e ≤ 1000) : callD T 2000 (n + 1) "_law_sure" [mxD w, tupN ms, nD e] = .ok (.bool (sureW w ms e)) := by
  rw [callH f__law_sure]
  have f1 := len_mD (w := w)
  refine run_post (g := [some (.fz (mxD w)), some (.fz (tupN ms)), some (.fz (nD e)), none, none, none, none]) rfl rfl ?_
  apply w_all (fun a => (List.range a).all fun b => decide (2 * e < cntW w ms a b)) (i_rng (n := w.1) (by array_get_dec) (by omega))
  · intro a ha
    have ha := List.mem_range.mp ha
    (apply turnP; (next => sizeOf_list_dec))
    apply w_all (fun b => decide (2 * e < cntW w ms a b)) (i_rng (n := a) (by array_get_dec) (by omega))
    · intro b hb
      have hb := List.mem_range.mp hb
      have hb2 : b < w.1 := by omega
      (apply turnP; (next => sizeOf_list_dec))
      apply w_set (d := listN (ms.filter fun m => !decide (dis w m b = dis w m a)))
      · apply e_cmps (enc := nD) (xs := ms) (r := nD) (i_seqT (e_var rfl)) (by omega)
        intro m hmm
        have := hm m hmm
        (apply turn_if; (next => sizeOf_list_dec); (next => array_get_dec); (next => array_get_dec))
      · sizeOf_list_dec
      have ce : (ms.filter fun m => !decide (dis w m b = dis w m a)).length = cntW w ms a b := by
        unfold cntW
        congr 1
        refine List.filter_congr fun m _ => ?_
        rw [show decide (dis w m b = dis w m a) = decide (dis w m a = dis w m b) from decide_eq_decide.mpr eq_comm]
      have f3 : bop .mul (nD 2) (nD e) = .ok (nD (2 * e)) := b_mulN (by decide) (by omega)
      apply w_iteB
      · array_get_dec
      · intro t
        rw [ce, decide_eq_true_eq] at t
        refine w_retC rfl ?_
        exact .inl ⟨decide_eq_false (by omega), rfl⟩
      · intro t
        rw [ce, decide_eq_false_iff_not] at t
        refine w_cont ?_
        exact w_allT (decide_eq_true (by omega)) rfl
    · intro z
      exact .inl ⟨z, rfl⟩
    · intro z
      exact w_allT z rfl
  · intro z
    show SO.rt _ = _
    rw [show sureW w ms e = false from z]
  · intro z
    exact w_ret rfl (by show SO.rt _ = _; rw [show sureW w ms e = true from z])
end
/-! ### between two rows -/
def btw : Nat → List (Nat × Nat) → List Nat
  | _, [] => []
  | e, (a, y) :: l => if (!decide (a = y)) && decide (0 < e) then y :: btw (e - 1) l else a :: btw e l
def btS (A Y : List Nat) (s : List Nat × Nat) (k : Nat) : List Nat × Nat := if (!decide (A[k]?.getD 0 = Y[k]?.getD 0)) && decide (0 < s.2) then (s.1.set k (Y[k]?.getD 0), s.2 - 1) else s
theorem btw_fold {A Y : List Nat} (hl : Y.length = A.length) : ∀ (m j : Nat) (pre : List Nat) (e : Nat), pre.length = j → j + m = A.length → ((List.range' j m).foldl (btS A Y) (pre ++ A.drop j, e)).1 = pre ++ btw e ((A.zip Y).drop j)
  | 0, j, pre, e, h1, h2 => by
    rw [List.drop_of_length_le (by omega), List.drop_of_length_le (by rw [List.length_zip]; omega)]
    rfl
  | m + 1, j, pre, e, h1, h2 => by
    have hj : j < A.length := by omega
    have hy : j < Y.length := by omega
    have hz : j < (A.zip Y).length := by rw [List.length_zip]; omega
    rw [List.range'_succ, List.foldl_cons, List.drop_eq_getElem_cons hz, List.getElem_zip, btw]
    have ga : A[j]?.getD 0 = A[j] := by rw [List.getElem?_eq_getElem hj]; rfl
    have gy : Y[j]?.getD 0 = Y[j] := by rw [List.getElem?_eq_getElem hy]; rfl
    unfold btS
    rw [ga, gy]
    show ((List.range' (j + 1) m).foldl (btS A Y) (if ((!decide (A[j] = Y[j])) && decide (0 < e)) = true then ((pre ++ A.drop j).set j Y[j], e - 1) else (pre ++ A.drop j, e))).1 = _
    have hd : A.drop j = A[j] :: A.drop (j + 1) := List.drop_eq_getElem_cons hj
    by_cases c : ((!decide (A[j] = Y[j])) && decide (0 < e)) = true
    · rw [if_pos c, if_pos c]
      have : (pre ++ A.drop j).set j Y[j] = (pre ++ [Y[j]]) ++ A.drop (j + 1) := by
        rw [hd, List.set_append_right _ _ (by omega), h1, Nat.sub_self, List.set_cons_zero, List.append_assoc]
        rfl
      rw [this, btw_fold hl m (j + 1) (pre ++ [Y[j]]) (e - 1) (by simp [h1]) (by omega), List.append_assoc]
      rfl
    · rw [if_neg c, if_neg c]
      have : pre ++ A.drop j = (pre ++ [A[j]]) ++ A.drop (j + 1) := by
        rw [hd, List.append_assoc]
        rfl
      rw [this, btw_fold hl m (j + 1) (pre ++ [A[j]]) e (by simp [h1]) (by omega), List.append_assoc]
      rfl
theorem btS_len {A Y : List Nat} {s : List Nat × Nat} {k : Nat} : (btS A Y s k).1.length = s.1.length := by
  unfold btS
  split
  · exact List.length_set
  · rfl
theorem btw_len : ∀ (l : List (Nat × Nat)) (e : Nat), (btw e l).length = l.length
  | [], _ => rfl
  | (a, y) :: l, e => by rw [btw]; split <;> simp [btw_len l]
theorem btw_diff : ∀ (l : List (Nat × Nat)) (e : Nat), unlikeN (l.map (·.1)) (btw e l) = min e (l.filter fun p => !decide (p.1 = p.2)).length ∧ unlikeN (l.map (·.2)) (btw e l) = (l.filter fun p => !decide (p.1 = p.2)).length - min e (l.filter fun p => !decide (p.1 = p.2)).length
  | [], e => by simp [btw, unlikeN]
  | (a, y) :: l, e => by
    rw [btw]
    have ih1 := btw_diff l (e - 1)
    have ih := btw_diff l e
    unfold unlikeN at ih1 ih ⊢
    by_cases d : a = y
    · subst d
      simp only [decide_true, Bool.not_true, Bool.false_and, Bool.false_eq_true, if_false, List.map_cons, List.zip_cons_cons, List.filter_cons]
      exact ih
    · by_cases p : 0 < e
      · have dy : ¬ y = a := fun z => d z.symm
        simp only [d, p, decide_true, decide_false, Bool.not_false, Bool.and_self, if_true, List.map_cons, List.zip_cons_cons, List.filter_cons, Bool.not_true, Bool.false_eq_true, if_false, List.length_cons]
        omega
      · have dy : ¬ y = a := fun z => d z.symm
        simp only [d, dy, p, decide_true, decide_false, Bool.not_false, Bool.and_false, if_true, List.map_cons, List.zip_cons_cons, List.filter_cons, Bool.not_true, Bool.false_eq_true, if_false, List.length_cons]
        omega
theorem unlikeO_some : ∀ (r s : List Nat), unlikeO r (s.map some) = unlikeN r s
  | [], s => by simp [unlikeO, unlikeN]
  | _ :: _, [] => by simp [unlikeO, unlikeN]
  | x :: r, y :: s => by
    have := unlikeO_some r s
    unfold unlikeO unlikeN at this ⊢
    rw [List.map_cons, List.zip_cons_cons, List.zip_cons_cons, List.filter_cons, List.filter_cons]
    have e : bad1 (x, some y) = !decide (x = y) := by
      unfold bad1
      simp
    rw [e]
    split
    · rw [List.length_cons, List.length_cons, this]
    · exact this
theorem unlike_tri : ∀ (a b s : List Nat), a.length = s.length → b.length = s.length → unlikeN a b ≤ unlikeN a s + unlikeN b s
  | [], b, s, h1, h2 => by simp [unlikeN]
  | x :: a, [], s, h1, h2 => by simp [unlikeN]
  | x :: a, y :: b, [], h1, h2 => by simp at h1
  | x :: a, y :: b, z :: s, h1, h2 => by
    have := unlike_tri a b s (by simpa using h1) (by simpa using h2)
    unfold unlikeN at this ⊢
    simp only [List.zip_cons_cons, List.filter_cons]
    by_cases q : x = y
    · simp only [q, decide_true, Bool.not_true, Bool.false_eq_true, if_false]
      split <;> (try simp only [List.length_cons]) <;> omega
    · have : x ≠ z ∨ y ≠ z := by
        by_cases u : x = z
        · exact .inr fun v => q (u.trans v.symm)
        · exact .inl u
      rcases this with u | u
      · simp only [q, u, decide_false, Bool.not_false, if_true, List.length_cons]
        split <;> (try simp only [List.length_cons]) <;> omega
      · simp only [q, u, decide_false, Bool.not_false, if_true, List.length_cons]
        split <;> (try simp only [List.length_cons]) <;> omega
section
variable {T : String → Option Fn} {n : Nat} {w : Web}
def btwW (w : Web) (ms : List Nat) (a b e : Nat) : List Nat := btw e ((rowW w ms a).zip (rowW w ms b))
theorem c_lawbetween [Has T "_law_row" f__law_row] [Has T "_law_between" f__law_between] {ms : List Nat} (hm : ∀ m ∈ ms, m < w.1) (hl : ms.length ≤ 1000) {a b e : Nat} (ha : a < w.1) (hb : b < w.1) : callD T 2000 (n + 2) "_law_between" [mxD w, tupN ms, nD a, nD b, nD e] = .ok (tupN (btwW w ms a b e)) := by
  rw [callH f__law_between]
  have f2 := fun p (hp : p < w.1) => c_lawrow (T := T) (n := n) hm hl hp
  have la := rowW_len w ms a
  have lb := rowW_len w ms b
  refine run_post (g := [some (.fz (mxD w)), some (.fz (tupN ms)), some (.fz (nD a)), some (.fz (nD b)), some (.fz (nD e)), none, none, none, none, none]) rfl rfl ?_
  (apply w_set; (next => array_get_dec); (next => sizeOf_list_dec))
  (apply w_set; (next => array_get_dec); (next => sizeOf_list_dec))
  apply w_setO (ds := (rowW w ms a).map nD)
  · array_get_dec
  · rfl
  · sizeOf_list_dec
  (apply w_set; (next => array_get_dec); (next => sizeOf_list_dec))
  have key := btw_fold (A := rowW w ms a) (Y := rowW w ms b) (by omega) ms.length 0 [] e rfl (by omega)
  rw [List.nil_append, List.drop_zero, List.drop_zero, List.nil_append, ← List.range_eq_range'] at key
  apply w_fold (fun s : List Nat × Nat => [some (O.fz (mxD w)), some (.fz (tupN ms)), some (.fz (nD a)), some (.fz (nD b)), some (.fz (nD e)), some (.fz (tupN (rowW w ms a))), some (.fz (tupN (rowW w ms b))), some (.ol ((s.1.map nD).map .fz)), some (.fz (nD s.2)), none]) (btS (rowW w ms a) (rowW w ms b)) (fun s => s.1.length = ms.length) (rowW w ms a, e) (i_rng (n := ms.length) (by array_get_dec) (by omega)) rfl la
  · intro s hs k hk
    have hk := List.mem_range.mp hk
    refine ⟨by rw [btS_len]; exact hs, ?_⟩
    (apply turnP; (next => sizeOf_list_dec))
    apply w_iteB
    · array_get_dec
    · intro t
      have f3 : bop .sub (nD s.2) (nD 1) = .ok (nD (s.2 - 1)) := b_subN (by
        rw [Bool.and_eq_true, decide_eq_true_eq] at t
        omega)
      apply w_setI (l := s.1.map nD) (k := k) (v := nD ((rowW w ms b)[k]?.getD 0)) rfl
      · array_get_dec
      · array_get_dec
      · rw [List.length_map]; omega
      · sizeOf_list_dec
      (apply w_set; (next => array_get_dec); (next => sizeOf_list_dec))
      refine w_cont (w_back ?_)
      unfold btS
      rw [if_pos t]
      simp only [List.map_set]
      rfl
    · intro t
      refine w_cont (w_back ?_)
      unfold btS
      rw [if_neg (by rw [t]; decide)]
      rfl
  intro _
  generalize (List.range ms.length).foldl (btS (rowW w ms a) (rowW w ms b)) (rowW w ms a, e) = r at key
  obtain ⟨r1, r2⟩ := r
  subst key
  (apply w_frzL; (next => rfl); (next => dsimp only [List.set]; try exact rfl))
  exact w_ret (d := tupN (btw e ((rowW w ms a).zip (rowW w ms b)))) (by array_get_dec) rfl
end
end Q

set_option Elab.async false
set_option linter.all false
set_option maxRecDepth 100000
set_option maxHeartbeats 1000000
/-! W14: ties told apart; the least strong marks; other names. -/
namespace Q
open PySem
set_option hygiene false
local macro_rules | `(tactic| array_get_dec) => `(tactic| (repeat' (first | ((with_reducible apply e_var); rfl) | with_reducible (first | apply e_cmp | apply e_not | apply e_and | apply e_or | apply e_bin | apply e_ix | apply e_call | apply e_bi | apply e_tup | apply e_lst | apply e_rgT | apply e_rgF | apply e_rg1 | apply e_isN | apply es_cons | apply f_cons | apply at_dT | apply at_rT | apply at_mD | apply at_mR | apply at_nT | apply at_nL | apply o_so | apply e_sl | exact e_bl | exact e_non | exact e_str | exact e_l0 | exact e_l1 | exact e_l2 | exact e_l3 | exact e_l4 | exact e_l5 | exact e_l6 | exact e_l7 | exact e_l8 | exact e_l9 | exact e_l10 | exact e_l11 | exact e_l12 | exact e_l13 | exact e_l14 | exact e_l15 | exact e_l16 | exact e_l17 | exact e_l18 | exact e_l19 | exact e_l20 | exact e_intL | exact c_ltN | exact c_leN | exact c_gtN | exact c_geN | exact cop_eqN _ _ | exact cop_neN _ _ | exact c_eqB _ _ | exact cop_neB _ _ | exact c_isB _ _ | exact c_isnB _ _ | exact c_eqT _ _ | exact cop_neT _ _ | exact c_eqL _ _ | exact c_neL _ _ | exact c_eqPs _ _ | exact c_nePs _ _ | exact c_eqLP _ _ | exact c_neLP _ _ | exact c_eqP _ _ | exact c_neP _ _ | exact inN _ _ | exact ninN _ _ | exact c_inP _ _ | exact c_ninP _ _ | exact c_inLN _ _ | exact c_inLP _ _ | exact c_ninLN _ _ | exact c_ninLP _ _ | exact b_addN | exact b_addI | exact bi_tupleN | exact bi_tupleNN | exact bi_listN | exact bi_listNN | exact bi_tupleP | exact bi_lenNT | exact bi_lenL' | exact bi_tupleON | exact neN_nil _ | exact eqN_nil _ | exact neP_nil _ | exact prs_nil _ | exact b_modN (by decide) | exact web_n' | exact web_t' | exact pr_0 | exact pr_1 | exact t_bool | exact f_nil | exact es_nil | exact bi_min | exact bi_max | exact bi_lenM | exact bi_lenTM | exact bi_lenOM | exact bi_any | exact bi_all | exact bi_sortN | exact bi_sortP | exact bi_intB | exact bi_tuple | exact bi_tupleT | exact bi_listL | exact bi_listT | exact bi_tupleO | exact t_list | exact t_ol | exact cut_nT | exact cut_nL | exact o_no | exact isN_n | exact isN_t | exact isN_none | apply f1 | apply f2 | apply f3 | apply f4 | apply f5 | apply f6 | apply f7 | apply f8 | apply f9 | apply f10 | apply f11 | apply f12 | apply f13 | apply f14 | apply f15) | with_reducible assumption | omega)))
local macro_rules | `(tactic| sizeOf_list_dec) => `(tactic| (first | (apply put_lit; (next => rfl); (next => dsimp only [List.set]; try exact rfl)) | (apply tput1; (next => rfl); (next => dsimp only [wipe, List.map, List.set]; try exact rfl)) | (apply tput2; (next => rfl); (next => rfl); (next => dsimp only [wipe, List.map, List.set]; try exact rfl)) | (apply tput3; (next => rfl); (next => rfl); (next => rfl); (next => dsimp only [wipe, List.map, List.set]; try exact rfl))))
theorem ties_few {w : Web} (h : SmW w) : w.2.length ≤ w.1 * w.1 := by
  have := few_below (w.1 * w.1) (w.2.map fun t => t.1 * w.1 + t.2) (by
    refine List.pairwise_map.mpr (List.Pairwise.imp_of_mem (fun {a b} ha hb q e => ?_) h.nodup)
    have h1 := h.lt a ha
    have h2 := h.lt b hb
    have e1 : a.1 = b.1 := by
      rcases Nat.lt_trichotomy a.1 b.1 with z | z | z
      · have := Nat.mul_le_mul_right w.1 (show a.1 + 1 ≤ b.1 from z)
        rw [Nat.add_mul, Nat.one_mul] at this
        omega
      · exact z
      · have := Nat.mul_le_mul_right w.1 (show b.1 + 1 ≤ a.1 from z)
        rw [Nat.add_mul, Nat.one_mul] at this
        omega
    rw [e1] at e
    exact q (Prod.ext e1 (by omega))) (by
    intro x hx
    obtain ⟨t, ht, rfl⟩ := List.mem_map.mp hx
    have h1 := h.lt t ht
    have := Nat.mul_le_mul_right w.1 (show t.1 + 1 ≤ w.1 by omega)
    rw [Nat.add_mul, Nat.one_mul] at this
    omega)
  rwa [List.length_map] at this
theorem ties_196 {w : Web} (h : SmW w) (h14 : w.1 ≤ 14) : w.2.length ≤ 196 := Nat.le_trans (ties_few h) (Nat.mul_le_mul h14 h14)
abbrev ppD (p : (Nat × Nat) × (Nat × Nat)) : D := pE prD p
def tieRowW (w : Web) (ms : List Nat) (t : Nat × Nat) : List Nat := ms.map fun m => min (dis w m t.1) (dis w m t.2)
def tieSame (w : Web) (ms : List Nat) (p : (Nat × Nat) × (Nat × Nat)) : Bool := decide (tieRowW w ms p.1 = tieRowW w ms p.2)
def tieBl (w : Web) (ms : List Nat) : List ((Nat × Nat) × (Nat × Nat)) := (pairsL w.2).filter (tieSame w ms)
theorem mem_pairsL {α : Type} {l : List α} {p : α × α} : p ∈ pairsL l ↔ ∃ i j : Nat, i < j ∧ l[i]? = some p.1 ∧ l[j]? = some p.2 := by
  unfold pairsL
  rw [List.mem_flatMap]
  constructor
  · rintro ⟨q, hq, hp⟩
    obtain ⟨y, hy, rfl⟩ := List.mem_map.mp hp
    obtain ⟨h1, h2⟩ := mem_zip hq
    obtain ⟨i, hi⟩ := List.mem_iff_getElem?.mp hy
    rw [List.getElem?_drop] at hi
    exact ⟨q.2, q.2 + 1 + i, by omega, h2, hi⟩
  · rintro ⟨i, j, hij, h1, h2⟩
    obtain ⟨x, y⟩ := p
    refine ⟨(x, i), List.mem_iff_getElem?.mpr ⟨i, by rw [List.getElem?_zipIdx, h1]; simp⟩, List.mem_map.mpr ⟨y, List.mem_iff_getElem?.mpr ⟨j - (i + 1), ?_⟩, rfl⟩⟩
    rw [List.getElem?_drop, show i + 1 + (j - (i + 1)) = j by omega]
    exact h2
theorem drop_range {α : Type} [Inhabited α] (l : List α) (k : Nat) : l.drop k = (List.range' k (l.length - k)).map fun n => (l[n]?).getD default := by
  apply List.ext_getElem
  · simp
  · intro i h1 h2
    have h3 : k + i < l.length := by rw [List.length_drop] at h1; omega
    rw [List.getElem_drop, List.getElem_map, List.getElem_range', Nat.one_mul, List.getElem?_eq_getElem h3]
    rfl
section
variable {T : String → Option Fn} {n : Nat} {w : Web}
theorem c_tieRowIn [Has T "tie_row_in" f_tie_row_in] (h : SmW w) {ms : List Nat} (hm : ∀ m ∈ ms, m < w.1) (hl : ms.length ≤ 1000) {t : Nat × Nat} (h1 : t.1 < w.1) (h2 : t.2 < w.1) : callD T 2000 (n + 1) "tie_row_in" [dT w, tupN ms, prD t] = .ok (tupN (tieRowW w ms t)) := by
  rw [callH f_tie_row_in]
  refine run_post (g := [some (.fz (dT w)), some (.fz (tupN ms)), some (.fz (prD t)), none]) rfl rfl ?_
  apply w_ret
  · apply e_bi
    · apply es_cons
      · apply e_alls (enc := nD) (xs := ms) (r := fun m => nD (min (dis w m t.1) (dis w m t.2))) (i_seqT (e_var rfl)) (by omega)
        intro m hmm
        have := hm m hmm
        (apply turn_on; (next => sizeOf_list_dec); (next => array_get_dec))
      · array_get_dec
    · array_get_dec
  · unfold tieRowW tupN
    rw [List.map_map]
    rfl
theorem c_lawTieRow [Has T "_law_tie_row" f__law_tie_row] {ms : List Nat} (hm : ∀ m ∈ ms, m < w.1) (hl : ms.length ≤ 1000) {t : Nat × Nat} (h1 : t.1 < w.1) (h2 : t.2 < w.1) : callD T 2000 (n + 1) "_law_tie_row" [mxD w, tupN ms, prD t] = .ok (tupN (tieRowW w ms t)) := by
  rw [callH f__law_tie_row]
  refine run_post (g := [some (.fz (mxD w)), some (.fz (tupN ms)), some (.fz (prD t)), none]) rfl rfl ?_
  apply w_ret
  · apply e_bi
    · apply es_cons
      · apply e_alls (enc := nD) (xs := ms) (r := fun m => nD (min (dis w m t.1) (dis w m t.2))) (i_seqT (e_var rfl)) (by omega)
        intro m hmm
        have := hm m hmm
        (apply turn_on; (next => sizeOf_list_dec); (next => array_get_dec))
      · array_get_dec
    · array_get_dec
  · unfold tieRowW tupN
    rw [List.map_map]
    rfl
theorem c_tieRow [Has T "neighbours" f_neighbours] [Has T "steps_from" f_steps_from] [Has T "all_steps" f_all_steps] [Has T "tie_row_in" f_tie_row_in] [Has T "tie_row" f_tie_row] (h : SmW w) {ms : List Nat} (hm : ∀ m ∈ ms, m < w.1) (hl : ms.length ≤ 1000) {t : Nat × Nat} (ht : t ∈ w.2) : callD T 2000 (n + 4) "tie_row" [webD w, tupN ms, prD t] = .ok (tupN (tieRowW w ms t)) := by
  rw [callH f_tie_row]
  have hlt := h.lt t ht
  have f1 := c_all (T := T) (n := n) h
  have f2 := c_tieRowIn (T := T) (n := n + 2) h hm hl (t := t) (by omega) (by omega)
  have f3 := c_ninP t w.2
  refine run_post (g := [some (.fz (webD w)), some (.fz (tupN ms)), some (.fz (prD t))]) rfl rfl ?_
  (apply w_no; (next => array_get_dec))
  · simp [ht]
  (apply w_ret; (next => array_get_dec))
  rfl
theorem i_enumT {cd : String → List D → R D} {g : Env} {α : Type} {enc : α → D} {l : List α} {e : E} (h : E.ev cd e g = .ok (.fz (.tuple (l.map enc)))) : It.evi cd (.enum e) g = .ok (l.zipIdx.map fun q => .tuple [nD q.2, enc q.1]) := by
  simp only [It.evi, h, R.ok_bind, asD_fz, enum_zip]
theorem c_tieBlIn [Has T "tie_row_in" f_tie_row_in] [Has T "tie_blurred_in" f_tie_blurred_in] (h : SmW w) (h14 : w.1 ≤ 14) {ms : List Nat} (hm : ∀ m ∈ ms, m < w.1) (hl : ms.length ≤ 1000) : callD T 2000 (n + 2) "tie_blurred_in" [dT w, prsD w.2, tupN ms] = .ok (.list ((tieBl w ms).map ppD)) := by
  rw [callH f_tie_blurred_in]
  have l196 := ties_196 h h14
  refine run_post (g := [some (.fz (dT w)), some (.fz (prsD w.2)), some (.fz (tupN ms)), none, none, none, none, none, none]) rfl rfl ?_
  (apply w_setO lst0 rfl; (next => sizeOf_list_dec))
  apply w_set (d := .list ((w.2.map (tieRowW w ms)).map tupN))
  · rw [List.map_map]
    apply e_alls (enc := prD) (xs := w.2) (r := fun t => tupN (tieRowW w ms t)) (i_seqT (e_var rfl)) (by omega)
    intro t ht
    have hlt := h.lt t ht
    have f2 := c_tieRowIn (T := T) (n := n) h hm hl (t := t) (by omega) (by omega)
    (apply turn_on; (next => sizeOf_list_dec); (next => array_get_dec))
  · sizeOf_list_dec
  have lz : w.2.zipIdx.length = w.2.length := List.length_zipIdx
  have f1 : bi .len [.fz (prsD w.2)] = .ok (nD w.2.length) := bi_lenTM
  apply w_foldN (fun s : List ((Nat × Nat) × (Nat × Nat)) => [some (O.fz (dT w)), some (.fz (prsD w.2)), some (.fz (tupN ms)), some (.ol ((s.map ppD).map .fz)), some (.fz (.list ((w.2.map (tieRowW w ms)).map tupN))), none, none, none, none])
    (fun s q => s ++ ((w.2.drop (q.2 + 1)).map fun y => (q.1, y)).filter (tieSame w ms)) (fun k s => s.length ≤ k * 196) [] (i_enumT (enc := prD) (l := w.2) (e_var rfl)) rfl (Nat.le_refl _)
  · intro k s q hq hs
    have hk : k < w.2.length := by
      have := (List.getElem?_eq_some_iff.mp hq).1
      omega
    have hq := List.mem_of_getElem? hq
    obtain ⟨q1, q2⟩ := mem_zip hq
    obtain ⟨t, i⟩ := q
    have q1 : i < w.2.length := q1
    have q2 : w.2[i]? = some t := q2
    have lf : (((w.2.drop (i + 1)).map fun y => (t, y)).filter (tieSame w ms)).length ≤ w.2.length := by
      have := List.length_filter_le (tieSame w ms) ((w.2.drop (i + 1)).map fun y => (t, y))
      rw [List.length_map, List.length_drop] at this
      omega
    refine ⟨by show (s ++ _).length ≤ _; rw [List.length_append]; show s.length + (((w.2.drop (i + 1)).map fun y => (t, y)).filter (tieSame w ms)).length ≤ _; omega, ?_⟩
    (apply turnP; (next => sizeOf_list_dec))
    apply w_ext (ds := (((w.2.drop (i + 1)).map fun y => (t, y)).filter (tieSame w ms)).map ppD) rfl
    · have eq1 : (((w.2.drop (i + 1)).map fun y => (t, y)).filter (tieSame w ms)).map ppD = ((List.range' (i + 1) (w.2.length - (i + 1))).filter ((tieSame w ms) ∘ (fun y => (t, y)) ∘ fun n => (w.2[n]?).getD default)).map (ppD ∘ (fun y => (t, y)) ∘ fun n => (w.2[n]?).getD default) := by
        rw [drop_range w.2, List.map_map, List.filter_map, List.map_map]
      rw [eq1]
      apply e_cmpr2 (i := i + 1) (j := w.2.length) (p := (tieSame w ms) ∘ (fun y => (t, y)) ∘ fun n => (w.2[n]?).getD default) (r := ppD ∘ (fun y => (t, y)) ∘ fun n => (w.2[n]?).getD default)
      · array_get_dec
      · array_get_dec
      · omega
      · omega
      · intro j hj1 hj2
        have g1 : w.2[j]? = some w.2[j] := List.getElem?_eq_getElem hj2
        have f3 : (O.fz (.list ((w.2.map (tieRowW w ms)).map tupN))).at ((j : Nat) : Int) = .ok (.fz (tupN (tieRowW w ms w.2[j]))) := at_list (by rw [List.getElem?_map, List.getElem?_map, g1]; rfl)
        have f4 : (O.fz (.list ((w.2.map (tieRowW w ms)).map tupN))).at ((i : Nat) : Int) = .ok (.fz (tupN (tieRowW w ms t))) := at_list (by rw [List.getElem?_map, List.getElem?_map, q2]; rfl)
        have f5 : (O.fz (prsD w.2)).at ((j : Nat) : Int) = .ok (.fz (prD w.2[j])) := at_tup (by rw [List.getElem?_map, g1]; rfl)
        have f6 : cop .eq (tupN (tieRowW w ms w.2[j])) (tupN (tieRowW w ms t)) = .ok (decide (tieRowW w ms t = tieRowW w ms w.2[j])) := by
          rw [c_eqT, show decide (tieRowW w ms w.2[j] = tieRowW w ms t) = decide (tieRowW w ms t = tieRowW w ms w.2[j]) from decide_eq_decide.mpr eq_comm]
        have e : ((tieSame w ms) ∘ (fun y => (t, y)) ∘ fun n => (w.2[n]?).getD default) j = decide (tieRowW w ms t = tieRowW w ms w.2[j]) := by
          show tieSame w ms (t, (w.2[j]?).getD default) = _
          rw [g1]; rfl
        have e2 : (ppD ∘ (fun y => (t, y)) ∘ fun n => (w.2[n]?).getD default) j = .tuple [prD t, prD w.2[j]] := by
          show ppD (t, (w.2[j]?).getD default) = _
          rw [g1]; rfl
        rw [e, e2]
        apply turn_if
        · sizeOf_list_dec
        · array_get_dec
        · exact tup2 (e_var rfl) (e_ix (e_var rfl) (e_var rfl) f5)
    · rw [List.length_map, List.length_map, List.length_map]
      omega
    · sizeOf_list_dec
    refine w_back ?_
    simp only [List.map_append]
    rfl
  intro _
  have e : w.2.zipIdx.foldl (fun s q => s ++ ((w.2.drop (q.2 + 1)).map fun y => (q.1, y)).filter (tieSame w ms)) [] = tieBl w ms := by
    rw [foldl_appF (γ := Nat), List.nil_append]
    unfold tieBl pairsL
    rw [List.filter_flatMap]
  rw [e]
  (apply w_frzL; (next => rfl); (next => dsimp only [List.set]; try exact rfl))
  exact w_ret (e_var rfl) rfl
theorem c_tieBl [Has T "neighbours" f_neighbours] [Has T "steps_from" f_steps_from] [Has T "all_steps" f_all_steps] [Has T "tie_row_in" f_tie_row_in] [Has T "tie_blurred_in" f_tie_blurred_in] [Has T "tie_blurred" f_tie_blurred] (h : SmW w) (h14 : w.1 ≤ 14) {ms : List Nat} (hm : ∀ m ∈ ms, m < w.1) (hl : ms.length ≤ 1000) : callD T 2000 (n + 4) "tie_blurred" [webD w, tupN ms] = .ok (.tuple ((tieBl w ms).map ppD)) := by
  rw [callH f_tie_blurred]
  have f1 := c_all (T := T) (n := n) h
  have f2 := c_tieBlIn (T := T) (n := n + 1) h h14 hm hl
  refine run_post (g := [some (.fz (webD w)), some (.fz (tupN ms))]) rfl rfl ?_
  apply w_ret
  · apply e_bi
    · apply es_cons
      · array_get_dec
      · array_get_dec
    · array_get_dec
  · rfl
theorem eqe_pE {α : Type} [DecidableEq α] {enc : α → D} (h : EqE enc) : EqE fun p : α × α => pE enc p := by
  intro a b
  obtain ⟨a1, a2⟩ := a
  obtain ⟨b1, b2⟩ := b
  show PyData.eqv (.tuple [enc a1, enc a2]) (.tuple [enc b1, enc b2]) = _
  have := eqe_tup h [a1, a2] [b1, b2]
  simp only [List.map_cons, List.map_nil] at this
  rw [this]
  simp
theorem pl_pE {α : Type} {enc : α → D} {k : Nat} (h : ∀ a, Pl k (enc a)) (p : α × α) : Pl (k + 1) (pE enc p) := pl_tup (fun d hd => by
  simp only [List.mem_cons, List.not_mem_nil, or_false] at hd
  rcases hd with rfl | rfl <;> exact h _)
theorem eqe_pp : EqE ppD := eqe_pE eqe_pr
theorem pl_pp (p : (Nat × Nat) × (Nat × Nat)) : Pl 2 (ppD p) := pl_pE pl_pr p
theorem pps_nil (l : List ((Nat × Nat) × (Nat × Nat))) : cop .eq (.tuple (l.map ppD)) (.tuple []) = .ok l.isEmpty := by
  have := cop_eq (eqe_tup eqe_pp) (fun l => pl_tup (pl_map pl_pp l)) (by decide) l []
  rw [show decide (l = []) = l.isEmpty from by cases l <;> rfl] at this
  exact this
theorem c_tellsTies [Has T "neighbours" f_neighbours] [Has T "steps_from" f_steps_from] [Has T "all_steps" f_all_steps] [Has T "tie_row_in" f_tie_row_in] [Has T "tie_blurred_in" f_tie_blurred_in] [Has T "tie_blurred" f_tie_blurred] [Has T "tells_ties" f_tells_ties] (h : SmW w) (h14 : w.1 ≤ 14) {ms : List Nat} (hm : ∀ m ∈ ms, m < w.1) (hl : ms.length ≤ 1000) : callD T 2000 (n + 5) "tells_ties" [webD w, tupN ms] = .ok (.bool (tieBl w ms).isEmpty) := by
  rw [callH f_tells_ties]
  have f1 := c_tieBl (T := T) (n := n) h h14 hm hl
  have f2 := pps_nil (tieBl w ms)
  refine run_post (g := [some (.fz (webD w)), some (.fz (tupN ms))]) rfl rfl ?_
  (apply w_ret; (next => array_get_dec))
  rfl
theorem c_leastTie [Has T "neighbours" f_neighbours] [Has T "steps_from" f_steps_from] [Has T "all_steps" f_all_steps] [Has T "tie_row_in" f_tie_row_in] [Has T "tie_blurred_in" f_tie_blurred_in] [Has T "choose" f_choose] [Has T "all_marks" f_all_marks] [Has T "least_tie_marks" f_least_tie_marks] (h : SmW w) (h14 : w.1 ≤ 14) (hn : w.1 + 4 ≤ n) : callD T 2000 n "least_tie_marks" [webD w] = .ok (optM (leastOf w fun ms => (tieBl w ms).isEmpty)) := by
  obtain ⟨n, rfl⟩ : ∃ k, n = k + 4 := ⟨n - 4, by omega⟩
  rw [callH f_least_tie_marks]
  have f1 := c_all (T := T) (n := n) h
  have f2 := c_allMarks (T := T) (n := n + 3) h14 (by omega)
  refine run_post (g := [some (.fz (webD w)), none, none]) rfl rfl ?_
  (apply w_set; (next => array_get_dec); (next => sizeOf_list_dec))
  apply w_find (fun ms => (tieBl w ms).isEmpty) tupN (i_seqL (enc := tupN) (xs := allMarks w.1) (by array_get_dec))
  · intro ms hms
    obtain ⟨h1, h2⟩ := mem_allMarks hms
    have f3 := c_tieBlIn (T := T) (n := n + 1) h h14 h1 (by omega)
    (apply turnP; (next => sizeOf_list_dec))
    apply w_ite (o := .fz (.bool (!(!((tieBl w ms).map ppD).isEmpty)))) (t := (tieBl w ms).isEmpty)
    · exact e_not (o := .fz (.list ((tieBl w ms).map ppD))) (by array_get_dec) rfl
    · show R.ok (!(!((tieBl w ms).map ppD).isEmpty)) = _
      rw [Bool.not_not]
      cases tieBl w ms <;> rfl
    · intro t
      exact w_retC rfl (.inl ⟨t, rfl⟩)
    · intro t
      exact w_cont (w_nil (.inr ⟨t, _, .inl rfl, rfl⟩))
  · intro ms q
    show _ = _
    unfold leastOf
    rw [q]; rfl
  · intro q
    refine w_ret rfl ?_
    unfold leastOf
    rw [q]; rfl
theorem c_leastStrong [Has T "neighbours" f_neighbours] [Has T "steps_from" f_steps_from] [Has T "all_steps" f_all_steps] [Has T "does_part" f_does_part] [Has T "are_strong_in" f_are_strong_in] [Has T "choose" f_choose] [Has T "all_marks" f_all_marks] [Has T "least_strong" f_least_strong] (h : SmW w) (h14 : w.1 ≤ 14) (hn : w.1 + 4 ≤ n) : callD T 2000 n "least_strong" [webD w] = .ok (optM (leastOf w (strongW w))) := by
  obtain ⟨n, rfl⟩ : ∃ k, n = k + 4 := ⟨n - 4, by omega⟩
  rw [callH f_least_strong]
  have f1 := c_all (T := T) (n := n) h
  have f2 := c_allMarks (T := T) (n := n + 3) h14 (by omega)
  refine run_post (g := [some (.fz (webD w)), none, none]) rfl rfl ?_
  (apply w_set; (next => array_get_dec); (next => sizeOf_list_dec))
  apply w_find (fun ms => strongW w ms) tupN (i_seqL (enc := tupN) (xs := allMarks w.1) (by array_get_dec))
  · intro ms hms
    obtain ⟨h1, h2⟩ := mem_allMarks hms
    have f3 := c_strongIn (T := T) (n := n + 1) h h1 (by omega)
    (apply turnP; (next => sizeOf_list_dec))
    apply w_iteB
    · array_get_dec
    · intro t
      exact w_retC rfl (.inl ⟨t, rfl⟩)
    · intro t
      exact w_cont (w_nil (.inr ⟨t, _, .inl rfl, rfl⟩))
  · intro ms q
    show _ = _
    unfold leastOf
    rw [q]; rfl
  · intro q
    refine w_ret rfl ?_
    unfold leastOf
    rw [q]; rfl
theorem c_renamed {t : Bool} [Has T "renamed" f_renamed] (h : SmW w) {l : List Nat} (hl : l.Perm (List.range w.1)) : callD T 2000 (n + 1) "renamed" [webD w, seqD t l] = .ok (webD (renW l w)) := by
  rw [callH f_renamed]; exact ren_run h hl
theorem c_leaf [Has T "with_leaf" f_with_leaf] (h : SmW w) {p : Nat} : callD T 2000 (n + 1) "with_leaf" [webD w, nD p] = .ok (webD (leafW w p)) := by
  rw [callH f_with_leaf]; exact leaf_run h.fews
end
end Q

set_option Elab.async false
set_option linter.all false
set_option maxRecDepth 100000
set_option maxHeartbeats 1000000
/-! W15: other names: strong marks, ties, sorted rows. -/
namespace Q
open PySem
set_option hygiene false
local macro_rules | `(tactic| array_get_dec) => `(tactic| (repeat' (first | ((with_reducible apply e_var); rfl) | with_reducible (first | apply e_cmp | apply e_not | apply e_and | apply e_or | apply e_bin | apply e_ix | apply e_call | apply e_bi | apply e_tup | apply e_lst | apply e_rgT | apply e_rgF | apply e_rg1 | apply e_isN | apply es_cons | apply f_cons | apply at_dT | apply at_rT | apply at_mD | apply at_mR | apply at_nT | apply at_nL | apply o_so | apply e_sl | exact e_bl | exact e_non | exact e_str | exact e_l0 | exact e_l1 | exact e_l2 | exact e_l3 | exact e_l4 | exact e_l5 | exact e_l6 | exact e_l7 | exact e_l8 | exact e_l9 | exact e_l10 | exact e_l11 | exact e_l12 | exact e_l13 | exact e_l14 | exact e_l15 | exact e_l16 | exact e_l17 | exact e_l18 | exact e_l19 | exact e_l20 | exact e_intL | exact c_ltN | exact c_leN | exact c_gtN | exact c_geN | exact cop_eqN _ _ | exact cop_neN _ _ | exact c_eqB _ _ | exact cop_neB _ _ | exact c_isB _ _ | exact c_isnB _ _ | exact c_eqT _ _ | exact cop_neT _ _ | exact c_eqL _ _ | exact c_neL _ _ | exact c_eqPs _ _ | exact c_nePs _ _ | exact c_eqLP _ _ | exact c_neLP _ _ | exact c_eqP _ _ | exact c_neP _ _ | exact inN _ _ | exact ninN _ _ | exact c_inP _ _ | exact c_ninP _ _ | exact c_inLN _ _ | exact c_inLP _ _ | exact c_ninLN _ _ | exact c_ninLP _ _ | exact b_addN | exact b_addI | exact bi_tupleN | exact bi_tupleNN | exact bi_listN | exact bi_listNN | exact bi_tupleP | exact bi_lenNT | exact bi_lenL' | exact bi_tupleON | exact neN_nil _ | exact eqN_nil _ | exact neP_nil _ | exact prs_nil _ | exact b_modN (by decide) | exact web_n' | exact web_t' | exact pr_0 | exact pr_1 | exact t_bool | exact f_nil | exact es_nil | exact bi_min | exact bi_max | exact bi_lenM | exact bi_lenTM | exact bi_lenOM | exact bi_any | exact bi_all | exact bi_sortN | exact bi_sortP | exact bi_intB | exact bi_tuple | exact bi_tupleT | exact bi_listL | exact bi_listT | exact bi_tupleO | exact t_list | exact t_ol | exact cut_nT | exact cut_nL | exact o_no | exact isN_n | exact isN_t | exact isN_none | apply f1 | apply f2 | apply f3 | apply f4 | apply f5 | apply f6 | apply f7 | apply f8 | apply f9 | apply f10 | apply f11 | apply f12 | apply f13 | apply f14 | apply f15) | with_reducible assumption | omega)))
local macro_rules | `(tactic| sizeOf_list_dec) => `(tactic| (first | (apply put_lit; (next => rfl); (next => dsimp only [List.set]; try exact rfl)) | (apply tput1; (next => rfl); (next => dsimp only [wipe, List.map, List.set]; try exact rfl)) | (apply tput2; (next => rfl); (next => rfl); (next => dsimp only [wipe, List.map, List.set]; try exact rfl)) | (apply tput3; (next => rfl); (next => rfl); (next => rfl); (next => dsimp only [wipe, List.map, List.set]; try exact rfl))))
theorem insN_comm (x y : Nat) : ∀ l : List Nat, insN x (insN y l) = insN y (insN x l)
  | [] => by
    simp only [insN]
    by_cases h : x ≤ y <;> by_cases g : y ≤ x <;> simp only [h, g, if_true, if_false]
    · rw [Nat.le_antisymm h g]
    · omega
  | z :: l => by
    simp only [insN]
    by_cases h1 : y ≤ z <;> by_cases h2 : x ≤ z <;> simp only [h1, h2, if_true, if_false, insN]
    · by_cases h : x ≤ y <;> by_cases g : y ≤ x <;> simp only [h, g, if_true, if_false]
      · rw [Nat.le_antisymm h g]
      · omega
    · rw [if_neg (show ¬ x ≤ y by omega)]
    · rw [if_neg (show ¬ y ≤ x by omega)]
    · rw [insN_comm x y l]
theorem sortN_congr {a b : List Nat} (h : a.Perm b) : sortN a = sortN b := by
  induction h with
  | nil => rfl
  | cons x _ ih => rw [sortN, sortN, ih]
  | swap x y l => rw [sortN, sortN, sortN, sortN, insN_comm]
  | trans _ _ h1 h2 => rw [h1, h2]
theorem insN_perm (x : Nat) : ∀ l : List Nat, (insN x l).Perm (x :: l)
  | [] => List.Perm.refl _
  | y :: l => by
    rw [insN]
    split
    · exact List.Perm.refl _
    · exact (List.Perm.cons y (insN_perm x l)).trans (List.Perm.swap x y l)
theorem sortN_perm : ∀ l : List Nat, (sortN l).Perm l
  | [] => List.Perm.refl _
  | x :: l => (insN_perm x _).trans (List.Perm.cons x (sortN_perm l))
theorem sortN_id {l : List Nat} (h : Up l) : sortN l = l := up_ext (sortN_up (up_nodup h)) h fun _ => mem_sortN
theorem bi_sortNT {l : List Nat} : bi .sorted [.fz (tupN l)] = .ok (listN (sortN l)) := by
  show (sortD (l.map nD) >>= fun es => R.ok (PyData.list es)) = _
  rw [sortD_n]; rfl
abbrev nmv (l : List Nat) (p : Nat) : Nat := l[p]?.getD 0
section
variable {w : Web} (h : SmW w) {l : List Nat} (hl : l.Perm (List.range w.1))
include hl
theorem nmv_get {p : Nat} (hp : p < w.1) : l[p]? = some (nmv l p) ∧ nmv l p < w.1 := by
  obtain ⟨z, h1, h2⟩ := nm_get hl hp
  unfold nmv
  rw [h1]
  exact ⟨rfl, h2⟩
theorem nmv_inj {p q : Nat} (hp : p < w.1) (hq : q < w.1) (e : nmv l p = nmv l q) : p = q := by
  have h1 := (nmv_get hl hp).1
  have h2 := (nmv_get hl hq).1
  rw [← e] at h2
  exact nm_inj hl h1 h2
theorem nmv_surj {x : Nat} (hx : x < w.1) : ∃ p, p < w.1 ∧ nmv l p = x := by
  obtain ⟨p, h1, h2⟩ := nm_surj hl hx
  exact ⟨p, h1, by unfold nmv; rw [h2]; rfl⟩
theorem nmv_nodup {ms : List Nat} (hm : ∀ m ∈ ms, m < w.1) (nd : ms.Nodup) : (ms.map (nmv l)).Nodup := by
  refine List.pairwise_map.mpr (List.Pairwise.imp_of_mem (fun {a b} ha hb q e => ?_) nd)
  exact q (nmv_inj hl (hm a ha) (hm b hb) e)
/-- what a test picks under other names -/
theorem ren_filter {p p' : Nat → Bool} (e : ∀ x, x < w.1 → p' (nmv l x) = p x) : (List.range w.1).filter p' = sortN (((List.range w.1).filter p).map (nmv l)) := by
  refine up_ext (List.Pairwise.filter _ (range_up _)) (sortN_up (nmv_nodup hl (fun m hm => List.mem_range.mp (List.mem_filter.mp hm).1) (List.Pairwise.filter _ List.nodup_range))) fun z => ?_
  rw [mem_sortN, List.mem_map, List.mem_filter, List.mem_range]
  constructor
  · rintro ⟨h1, h2⟩
    obtain ⟨x, hx, rfl⟩ := nmv_surj hl h1
    exact ⟨x, List.mem_filter.mpr ⟨List.mem_range.mpr hx, by rw [← e x hx]; exact h2⟩, rfl⟩
  · rintro ⟨x, hx, rfl⟩
    obtain ⟨h1, h2⟩ := List.mem_filter.mp hx
    have h1 := List.mem_range.mp h1
    exact ⟨(nmv_get hl h1).2, by rw [e x h1]; exact h2⟩
theorem nmv_set {ms : List Nat} (hm : ∀ m ∈ ms, m < w.1) (nd : ms.Nodup) : Up (sortN (ms.map (nmv l))) ∧ (∀ m ∈ sortN (ms.map (nmv l)), m < w.1) ∧ (sortN (ms.map (nmv l))).length = ms.length := by
  refine ⟨sortN_up (nmv_nodup hl hm nd), fun m q => ?_, ?_⟩
  · obtain ⟨x, hx, rfl⟩ := List.mem_map.mp (mem_sortN.mp q)
    exact (nmv_get hl (hm x hx)).2
  · rw [(sortN_perm _).length_eq, List.length_map]
include h
theorem ren_dis' {i j : Nat} (hi : i < w.1) (hj : j < w.1) : dis (renW l w) (nmv l i) (nmv l j) = dis w i j := ren_dis h hl (nmv_get hl hi).1 (nmv_get hl hj).1 hi hj
theorem ren_part {p a b : Nat} (hp : p < w.1) (ha : a < w.1) (hb : b < w.1) : partS (renW l w) (nmv l p) (nmv l a) (nmv l b) = partS w p a b := by
  unfold partS
  rw [ren_dis' h hl hp ha, ren_dis' h hl hp hb, ren_dis' h hl ha hb]
theorem ren_str {a b : Nat} (ha : a < w.1) (hb : b < w.1) : strW (renW l w) (nmv l a) (nmv l b) = sortN ((strW w a b).map (nmv l)) := ren_filter hl fun x hx => ren_part h hl hx ha hb
theorem ren_strong {ms : List Nat} (hm : ∀ m ∈ ms, m < w.1) : strongW (renW l w) (sortN (ms.map (nmv l))) = strongW w ms := by
  have sw : ∀ (v : Web), SmW v → ∀ m a b, m < v.1 → a < v.1 → b < v.1 → partS v m a b = partS v m b a := by
    intro v hv m a b _ ha hb
    unfold partS
    rw [hv.symm ha hb, Nat.min_comm, Nat.max_comm]
  have is : ∀ (v : Web), SmW v → ∀ r : List Nat, (∀ m ∈ r, m < v.1) → (strongW v r = true ↔ ∀ a b, a < v.1 → b < v.1 → a ≠ b → ∃ m ∈ r, partS v m a b = true) := by
    intro v hv r hr
    unfold strongW
    simp only [List.all_eq_true, List.mem_range, List.any_eq_true]
    constructor
    · intro z a b ha hb n
      rcases Nat.lt_or_gt_of_ne n with q | q
      · obtain ⟨m, h1, h2⟩ := z b hb a q
        exact ⟨m, h1, by rw [sw v hv m a b (hr m h1) ha hb]; exact h2⟩
      · exact z a ha b q
    · intro z a ha b hb
      exact z a b ha (by omega) (by omega)
  have hr : ∀ m ∈ sortN (ms.map (nmv l)), m < (renW l w).1 := by
    intro m q
    obtain ⟨x, hx, rfl⟩ := List.mem_map.mp (mem_sortN.mp q)
    exact (nmv_get hl (hm x hx)).2
  rw [Bool.eq_iff_iff, is _ (ren_sm h hl) _ hr, is _ h _ hm]
  constructor
  · intro z a b ha hb n
    obtain ⟨m, h1, h2⟩ := z (nmv l a) (nmv l b) (nmv_get hl ha).2 (nmv_get hl hb).2 fun e => n (nmv_inj hl ha hb e)
    obtain ⟨x, hx, rfl⟩ := List.mem_map.mp (mem_sortN.mp h1)
    exact ⟨x, hx, by rw [← ren_part h hl (hm x hx) ha hb]; exact h2⟩
  · intro z a b ha hb n
    obtain ⟨a', ha', rfl⟩ := nmv_surj hl (x := a) ha
    obtain ⟨b', hb', rfl⟩ := nmv_surj hl (x := b) hb
    obtain ⟨m, h1, h2⟩ := z a' b' ha' hb' fun e => n (by rw [e])
    exact ⟨nmv l m, mem_sortN.mpr (List.mem_map.mpr ⟨m, h1, rfl⟩), by rw [ren_part h hl (hm m h1) ha' hb']; exact h2⟩
theorem ren_tie_one {t : Nat × Nat} (ht : t ∈ w.2) {m : Nat} (hm : m < w.1) : min (dis (renW l w) (nmv l m) (ren l t).1) (dis (renW l w) (nmv l m) (ren l t).2) = min (dis w m t.1) (dis w m t.2) := by
  have hlt := h.lt t ht
  have e1 := ren_dis' h hl hm (show t.1 < w.1 by omega)
  have e2 := ren_dis' h hl hm hlt.2
  show min (dis (renW l w) (nmv l m) (min (nmv l t.1) (nmv l t.2))) (dis (renW l w) (nmv l m) (max (nmv l t.1) (nmv l t.2))) = _
  rcases Nat.le_total (nmv l t.1) (nmv l t.2) with q | q
  · rw [Nat.min_eq_left q, Nat.max_eq_right q, e1, e2]
  · rw [Nat.min_eq_right q, Nat.max_eq_left q, e1, e2, Nat.min_comm]
theorem ren_tie_row {t : Nat × Nat} (ht : t ∈ w.2) {ms : List Nat} (hm : ∀ m ∈ ms, m < w.1) : tieRowW (renW l w) (ms.map (nmv l)) (ren l t) = tieRowW w ms t := by
  unfold tieRowW
  rw [List.map_map]
  refine List.map_congr_left fun m q => ?_
  exact ren_tie_one h hl ht (hm m q)
theorem ren_tie_sort {t : Nat × Nat} (ht : t ∈ w.2) {ms : List Nat} (hm : ∀ m ∈ ms, m < w.1) : sortN (tieRowW (renW l w) (sortN (ms.map (nmv l))) (ren l t)) = sortN (tieRowW w ms t) := by
  rw [← ren_tie_row h hl ht hm]
  refine sortN_congr ?_
  unfold tieRowW
  exact List.Perm.map _ (sortN_perm _)
omit h hl in
theorem ren_mem {t : Nat × Nat} (ht : t ∈ w.2) : ren l t ∈ (renW l w).2 := (sortP_perm _).mem_iff.mpr (List.mem_map.mpr ⟨t, ht, rfl⟩)
end
section
variable {w : Web}
theorem tie_same_app {a b : List Nat} {p : (Nat × Nat) × (Nat × Nat)} : tieSame w (usortN (a ++ b)) p = (tieSame w a p && tieSame w b p) := by
  have is : ∀ r, tieSame w r p = true ↔ ∀ m ∈ r, min (dis w m p.1.1) (dis w m p.1.2) = min (dis w m p.2.1) (dis w m p.2.2) := by
    intro r
    unfold tieSame tieRowW
    rw [decide_eq_true_eq, List.map_inj_left]
  rw [Bool.eq_iff_iff, Bool.and_eq_true, is, is, is]
  constructor
  · exact fun z => ⟨fun m q => z m (mem_usortN.mpr (List.mem_append.mpr (.inl q))), fun m q => z m (mem_usortN.mpr (List.mem_append.mpr (.inr q)))⟩
  · rintro ⟨z1, z2⟩ m q
    exact (List.mem_append.mp (mem_usortN.mp q)).elim (z1 m) (z2 m)
theorem tieBl_app {a b : List Nat} : tieBl w (usortN (a ++ b)) = (tieBl w a).filter fun p => decide (p ∈ tieBl w b) := by
  unfold tieBl
  rw [List.filter_filter]
  refine List.filter_congr fun p hp => ?_
  rw [tie_same_app, Bool.and_comm]
  congr 1
  rw [Bool.eq_iff_iff, decide_eq_true_eq, List.mem_filter]
  exact ⟨fun q => ⟨hp, q⟩, fun q => q.2⟩
theorem tieBl_nil : tieBl w [] = pairsL w.2 := by
  unfold tieBl
  rw [List.filter_eq_self]
  intro p _
  rfl
theorem strong_more {a b : List Nat} (hab : ∀ m ∈ a, m ∈ b) (s : strongW w a = true) : strongW w b = true := by
  unfold strongW at s ⊢
  simp only [List.all_eq_true, List.mem_range, List.any_eq_true] at s ⊢
  intro x hx y hy
  obtain ⟨m, h1, h2⟩ := s x hx y hy
  exact ⟨m, hab m h1, h2⟩
end
theorem c_pairsT {T : String → Option Fn} {n : Nat} [Has T "_law_pairs" f__law_pairs] {α : Type} (enc : α → D) {l : List α} (hl : l.length ≤ 1000) : callD T 2000 (n + 1) "_law_pairs" [.tuple (l.map enc)] = .ok (.list ((pairsL l).map (pE enc))) := by
  rw [callH f__law_pairs]
  refine run_post (g := [some (.fz (.tuple (l.map enc))), none, none, none, none]) rfl rfl ?_
  refine w_setO (ds := []) lst0 rfl rfl ?_
  refine w_foldN (fun s : List (α × α) => [some (.fz (.tuple (l.map enc))), some (.ol ((s.map (pE enc)).map .fz)), none, none, none]) (fun s (q : α × Nat) => s ++ (l.drop (q.2 + 1)).map fun y => (q.1, y)) (fun k s => s.length ≤ k * 1000) [] (i_enumT (e_var rfl)) rfl (Nat.le_refl _) (fun k s q hq hs => ?_) fun hi => ?_
  · obtain ⟨h1, h2⟩ := mem_zip (List.mem_of_getElem? hq)
    have hk : k < l.length := by
      by_cases z : k < l.length
      · exact z
      · rw [List.getElem?_eq_none (by simp; omega)] at hq; cases hq
    refine ⟨?_, ?_⟩
    · rw [List.length_append, List.length_map, List.length_drop]; omega
    · (apply turnP; (next => sizeOf_list_dec))
      refine w_ext (ds := (l.drop (q.2 + 1)).map fun y => pE enc (q.1, y)) rfl ?_ ?_ rfl (w_back ?_)
      · have es : E.ev (callD T 2000 n) (.bin .add (.var 2) (.int 1)) [some (O.fz (.tuple (l.map enc))), some (.ol ((s.map (pE enc)).map O.fz)), some (.fz (nD q.2)), some (.fz (enc q.1)), none] = .ok (.fz (nD (q.2 + 1))) := by array_get_dec
        have ec : (O.fz (.tuple (l.map enc))).cut (some ((q.2 + 1 : Nat) : Int)) none = .ok (.tuple ((l.drop (q.2 + 1)).map enc)) := by
          show R.ok (PyData.tuple (cutD (l.map enc) (some ((q.2 + 1 : Nat) : Int)) none)) = _
          rw [cutD_from, List.map_drop]
        apply e_alls (enc := enc) (xs := l.drop (q.2 + 1)) (i_seqT (e_sl (e_var rfl) (o_so es) o_no ec)) (by rw [List.length_drop]; omega)
        intro y hy
        (apply turn_on; (next => sizeOf_list_dec); (next => array_get_dec))
      · simp only [List.length_map, List.length_drop]; omega
      · show _ = [some (O.fz (.tuple (l.map enc))), some (O.ol (((s ++ (l.drop (q.2 + 1)).map fun y => (q.1, y)).map (pE enc)).map O.fz)), none, none, none]
        simp only [List.map_append, List.map_map]
        rfl
  · have e : l.zipIdx.foldl (fun s (q : α × Nat) => s ++ (l.drop (q.2 + 1)).map fun y => (q.1, y)) [] = pairsL l := by
      rw [foldl_app]; rfl
    rw [e]
    refine w_frz rfl (w_ret (e_var rfl) ?_)
    rw [toD_ol]
theorem c_inPP (x : (Nat × Nat) × (Nat × Nat)) (l : List ((Nat × Nat) × (Nat × Nat))) : cop .in_ (ppD x) (.tuple (l.map ppD)) = .ok (decide (x ∈ l)) := (cop_inT eqe_pp pl_pp (by decide) x l).trans (by congr)
theorem c_neLPP (a b : List ((Nat × Nat) × (Nat × Nat))) : cop .ne (.list (a.map ppD)) (.list (b.map ppD)) = .ok (!decide (a = b)) := cop_ne (eqe_lst eqe_pp) (fun l => pl_lst (pl_map pl_pp l)) (by decide) a b
theorem pairs_len {α : Type} (l : List α) : (pairsL l).length ≤ l.length * l.length := by
  unfold pairsL
  have : ∀ L : List (α × Nat), (L.flatMap fun q => (l.drop (q.2 + 1)).map fun y => (q.1, y)).length ≤ L.length * l.length := by
    intro L
    induction L with
    | nil => simp
    | cons q L ih =>
      rw [List.flatMap_cons, List.length_append, List.length_map, List.length_drop, List.length_cons, Nat.add_mul]
      omega
  have := this l.zipIdx
  rwa [List.length_zipIdx] at this
end Q

set_option Elab.async false
set_option linter.all false
set_option maxRecDepth 100000
namespace K38
open Q
/-- neighbours -/
def d_neighbours : Df := ⟨"neighbours", ["web", "place"], ⟨2, ["web", "place", "found", "one", "other"], .cons (.set 2 true (.lst .nil)) (.cons (.for_ (.cons (.n 3) (.cons (.n 4) .nil)) (.seq (.ix (.var 0) (.int 1))) (.cons (.ite (.cmp .eq (.var 1) (.var 3)) (.cons (.app 2 false (.var 4)) .nil) .nil) (.cons (.ite (.cmp .eq (.var 1) (.var 4)) (.cons (.app 2 false (.var 3)) .nil) .nil) .nil)) [3, 4]) (.frz 2 (.cons (.ret (.bi .tuple (.cons (.bi .sorted (.cons (.var 2) .nil)) .nil))) .nil)))⟩, 4⟩
/-- steps_from -/
def d_steps_from : Df := ⟨"steps_from", ["web", "place"], ⟨2, ["web", "place", "found", "order", "at", "here", "other", "k"], .cons (.set 2 true (.comp (.n 7) [("k", 7)] (.rng1 (.ix (.var 0) (.int 0))) .no .non)) (.cons (.setI 2 (.var 1) (.int 0)) (.cons (.set 3 true (.lst (.cons (.var 1) .nil))) (.cons (.set 4 false (.int 0)) (.cons (.while_ (.cmp .lt (.var 4) (.bi .len (.cons (.var 3) .nil))) (.cons (.set 5 false (.ix (.var 3) (.var 4))) (.cons (.for_ (.n 6) (.seq (.call "neighbours" (.cons (.var 0) (.cons (.var 5) .nil)))) (.cons (.ite (.isN false (.ix (.var 2) (.var 6))) (.cons (.setI 2 (.var 6) (.bin .add (.ix (.var 2) (.var 5)) (.int 1))) (.cons (.app 3 false (.var 6)) .nil)) .nil) .nil) [6]) (.cons (.set 4 false (.bin .add (.var 4) (.int 1))) .nil))) [5, 6]) (.frz 2 (.frz 3 (.cons (.ret (.bi .tuple (.cons (.var 2) .nil))) .nil)))))))⟩, 5⟩
/-- all_steps -/
def d_all_steps : Df := ⟨"all_steps", ["web"], ⟨1, ["web", "place"], .cons (.ret (.comp (.n 1) [("place", 1)] (.rng1 (.ix (.var 0) (.int 0))) .no (.call "steps_from" (.cons (.var 0) (.cons (.var 1) .nil))))) .nil⟩, 7⟩
/-- tie_row_in -/
def d_tie_row_in : Df := ⟨"tie_row_in", ["steps", "marks", "tie"], ⟨3, ["steps", "marks", "tie", "mark"], .cons (.ret (.bi .tuple (.cons (.comp (.n 3) [("mark", 3)] (.seq (.var 1)) .no (.bi .min2 (.cons (.ix (.ix (.var 0) (.var 3)) (.ix (.var 2) (.int 0))) (.cons (.ix (.ix (.var 0) (.var 3)) (.ix (.var 2) (.int 1))) .nil)))) .nil))) .nil⟩, 9⟩
/-- tie_row -/
def d_tie_row : Df := ⟨"tie_row", ["web", "marks", "tie"], ⟨3, ["web", "marks", "tie"], .cons (.ite (.cmp .nin (.var 2) (.ix (.var 0) (.int 1))) (.cons (.rais "NoTie") .nil) .nil) (.cons (.ret (.call "tie_row_in" (.cons (.call "all_steps" (.cons (.var 0) .nil)) (.cons (.var 1) (.cons (.var 2) .nil))))) .nil)⟩, 10⟩
/-- tie_blurred_in -/
def d_tie_blurred_in : Df := ⟨"tie_blurred_in", ["steps", "ties", "marks"], ⟨3, ["steps", "ties", "marks", "found", "rows", "k", "one", "tie", "n"], .cons (.set 3 true (.lst .nil)) (.cons (.set 4 false (.comp (.n 7) [("tie", 7)] (.seq (.var 1)) .no (.call "tie_row_in" (.cons (.var 0) (.cons (.var 2) (.cons (.var 7) .nil)))))) (.cons (.for_ (.cons (.n 5) (.cons (.n 6) .nil)) (.enum (.var 1)) (.cons (.ext 3 (.comp (.n 8) [("n", 8)] (.rng2 (.bin .add (.var 5) (.int 1)) (.bi .len (.cons (.var 1) .nil))) (.so (.cmp .eq (.ix (.var 4) (.var 8)) (.ix (.var 4) (.var 5)))) (.tup (.cons (.var 6) (.cons (.ix (.var 1) (.var 8)) .nil))))) .nil) [5, 6]) (.frz 3 (.cons (.ret (.var 3)) .nil))))⟩, 11⟩
/-- tie_blurred -/
def d_tie_blurred : Df := ⟨"tie_blurred", ["web", "marks"], ⟨2, ["web", "marks"], .cons (.ret (.bi .tuple (.cons (.call "tie_blurred_in" (.cons (.call "all_steps" (.cons (.var 0) .nil)) (.cons (.ix (.var 0) (.int 1)) (.cons (.var 1) .nil)))) .nil))) .nil⟩, 12⟩
/-- renamed -/
def d_renamed : Df := ⟨"renamed", ["web", "names"], ⟨2, ["web", "names", "one", "other"], .cons (.ret (.tup (.cons (.ix (.var 0) (.int 0)) (.cons (.bi .tuple (.cons (.bi .sorted (.cons (.comp (.cons (.n 2) (.cons (.n 3) .nil)) [("one", 2), ("other", 3)] (.seq (.ix (.var 0) (.int 1))) .no (.bi .tuple (.cons (.bi .sorted (.cons (.lst (.cons (.ix (.var 1) (.var 2)) (.cons (.ix (.var 1) (.var 3)) .nil))) .nil)) .nil))) .nil)) .nil)) .nil)))) .nil⟩, 14⟩
/-- does_part -/
def d_does_part : Df := ⟨"does_part", ["steps", "place", "one", "other"], ⟨4, ["steps", "place", "one", "other", "near"], .cons (.set 4 false (.bi .min2 (.cons (.ix (.ix (.var 0) (.var 1)) (.var 2)) (.cons (.ix (.ix (.var 0) (.var 1)) (.var 3)) .nil)))) (.cons (.ret (.cmp .eq (.bin .add (.var 4) (.ix (.ix (.var 0) (.var 2)) (.var 3))) (.bi .max2 (.cons (.ix (.ix (.var 0) (.var 1)) (.var 2)) (.cons (.ix (.ix (.var 0) (.var 1)) (.var 3)) .nil))))) .nil)⟩, 16⟩
/-- strong_parters -/
def d_strong_parters : Df := ⟨"strong_parters", ["web", "one", "other"], ⟨3, ["web", "one", "other", "steps", "place"], .cons (.set 3 false (.call "all_steps" (.cons (.var 0) .nil))) (.cons (.ret (.bi .tuple (.cons (.comp (.n 4) [("place", 4)] (.rng1 (.ix (.var 0) (.int 0))) (.so (.call "does_part" (.cons (.var 3) (.cons (.var 4) (.cons (.var 1) (.cons (.var 2) .nil)))))) (.var 4)) .nil))) .nil)⟩, 17⟩
/-- are_strong_in -/
def d_are_strong_in : Df := ⟨"are_strong_in", ["steps", "marks"], ⟨2, ["steps", "marks", "one", "other", "mark"], .cons (.for_ (.n 2) (.rng1 (.bi .len (.cons (.var 0) .nil))) (.cons (.for_ (.n 3) (.rng1 (.var 2)) (.cons (.ite (.not (.bi .any (.cons (.comp (.n 4) [("mark", 4)] (.seq (.var 1)) .no (.call "does_part" (.cons (.var 0) (.cons (.var 4) (.cons (.var 2) (.cons (.var 3) .nil)))))) .nil))) (.cons (.ret (.bl false)) .nil) .nil) .nil) [3]) .nil) [2, 3]) (.cons (.ret (.bl true)) .nil)⟩, 18⟩
/-- are_strong -/
def d_are_strong : Df := ⟨"are_strong", ["web", "marks"], ⟨2, ["web", "marks"], .cons (.ret (.call "are_strong_in" (.cons (.call "all_steps" (.cons (.var 0) .nil)) (.cons (.var 1) .nil)))) .nil⟩, 19⟩
/-- _law_cell -/
def d__law_cell : Df := ⟨"_law_cell", ["_law_script", "_law_k"], ⟨2, ["_law_script", "_law_k"], .cons (.ite (.cmp .lt (.var 1) (.bi .len (.cons (.var 0) .nil))) (.cons (.ret (.ix (.var 0) (.var 1))) .nil) .nil) (.cons (.ret (.int 0)) .nil)⟩, 21⟩
/-- _law_mix -/
def d__law_mix : Df := ⟨"_law_mix", ["_law_cell_here", "_law_prime", "_law_many"], ⟨3, ["_law_cell_here", "_law_prime", "_law_many", "_law_blend"], .cons (.set 3 false (.bin .mod (.bin .mul (.var 0) (.int 48271)) (.var 1))) (.cons (.ret (.bin .mod (.bin .mod (.bin .mul (.var 3) (.bin .add (.var 3) (.int 7))) (.var 1)) (.var 2))) .nil)⟩, 22⟩
/-- _law_web -/
def d__law_web : Df := ⟨"_law_web", ["_law_cell_here", "_law_most"], ⟨2, ["_law_cell_here", "_law_most", "_law_many", "_law_found", "_law_place", "_law_extra", "_law_k", "_law_one", "_law_other", "_law_tie", "_law_names"], .cons (.set 2 false (.bin .add (.int 1) (.call "_law_mix" (.cons (.var 0) (.cons (.int 9973) (.cons (.var 1) .nil)))))) (.cons (.set 3 true (.lst .nil)) (.cons (.for_ (.n 4) (.rng2 (.int 1) (.var 2)) (.cons (.app 3 false (.tup (.cons (.call "_law_mix" (.cons (.bin .add (.var 0) (.bin .mul (.int 7) (.var 4))) (.cons (.int 9967) (.cons (.var 4) .nil)))) (.cons (.var 4) .nil)))) .nil) [4]) (.cons (.set 5 false (.ix (.lst (.cons (.int 0) (.cons (.int 0) (.cons (.int 1) (.cons (.int 2) (.cons (.int 4) (.cons (.int 9) .nil))))))) (.call "_law_mix" (.cons (.var 0) (.cons (.int 9949) (.cons (.int 6) .nil)))))) (.cons (.for_ (.n 6) (.rng1 (.var 5)) (.cons (.set 7 false (.call "_law_mix" (.cons (.bin .add (.var 0) (.bin .mul (.int 11) (.var 6))) (.cons (.int 9941) (.cons (.var 2) .nil))))) (.cons (.set 8 false (.call "_law_mix" (.cons (.bin .add (.bin .add (.var 0) (.bin .mul (.int 13) (.var 6))) (.int 1)) (.cons (.int 9931) (.cons (.var 2) .nil))))) (.cons (.set 9 false (.tup (.cons (.bi .min2 (.cons (.var 7) (.cons (.var 8) .nil))) (.cons (.bi .max2 (.cons (.var 7) (.cons (.var 8) .nil))) .nil)))) (.cons (.ite (.and (.cmp .ne (.var 7) (.var 8)) (.cmp .nin (.var 9) (.var 3))) (.cons (.app 3 false (.var 9)) .nil) .nil) .nil)))) [6, 7, 8, 9]) (.frz 3 (.cons (.set 10 false (.call "_law_perm" (.cons (.var 0) (.cons (.var 2) .nil)))) (.cons (.ret (.tup (.cons (.var 2) (.cons (.bi .tuple (.cons (.bi .sorted (.cons (.comp (.cons (.n 7) (.cons (.n 8) .nil)) [("_law_one", 7), ("_law_other", 8)] (.seq (.var 3)) .no (.bi .tuple (.cons (.bi .sorted (.cons (.lst (.cons (.ix (.var 10) (.var 7)) (.cons (.ix (.var 10) (.var 8)) .nil))) .nil)) .nil))) .nil)) .nil)) .nil)))) .nil)))))))⟩, 23⟩
/-- _law_perm -/
def d__law_perm : Df := ⟨"_law_perm", ["_law_cell_here", "_law_many"], ⟨2, ["_law_cell_here", "_law_many", "_law_left", "_law_k"], .cons (.set 2 true (.rg1 false (.var 1))) (.cons (.popc true 2 (.call "_law_mix" (.cons (.bin .add (.var 0) (.bin .mul (.int 5) (.var 3))) (.cons (.int 9929) (.cons (.bin .sub (.var 1) (.var 3)) .nil)))) (.n 3) [("_law_k", 3)] (.rng1 (.var 1))) .nil)⟩, 24⟩
/-- _law_some -/
def d__law_some : Df := ⟨"_law_some", ["_law_cell_here", "_law_many"], ⟨2, ["_law_cell_here", "_law_many", "_law_place"], .cons (.ret (.bi .tuple (.cons (.comp (.n 2) [("_law_place", 2)] (.rng1 (.var 1)) (.so (.cmp .eq (.call "_law_mix" (.cons (.bin .add (.var 0) (.bin .mul (.int 7) (.var 2))) (.cons (.int 9697) (.cons (.int 2) .nil)))) (.int 0))) (.var 2)) .nil))) .nil⟩, 25⟩
/-- _law_pairs -/
def d__law_pairs : Df := ⟨"_law_pairs", ["_law_some_here"], ⟨1, ["_law_some_here", "_law_found", "_law_k", "_law_one", "_law_other"], .cons (.set 1 true (.lst .nil)) (.cons (.for_ (.cons (.n 2) (.cons (.n 3) .nil)) (.enum (.var 0)) (.cons (.ext 1 (.comp (.n 4) [("_law_other", 4)] (.seq (.sl (.var 0) (.so (.bin .add (.var 2) (.int 1))) .no)) .no (.tup (.cons (.var 3) (.cons (.var 4) .nil))))) .nil) [2, 3]) (.frz 1 (.cons (.ret (.var 1)) .nil)))⟩, 26⟩
/-- law -/
def d_law : Df := ⟨"law", ["_law_script"], ⟨1, ["_law_script", "_law_k", "_law_cell_here", "_law_web_here", "_law_one", "_law_other", "_law_both", "_law_mine", "_law_yours", "_law_names", "_law_new", "_law_marks", "_law_tie", "_law_turned", "_law_mark", "_law_here", "_law_there", "_law_due", "_law_pair", "_law_place"], .cons (.for_ (.n 1) (.rng1 (.int 10)) (.cons (.set 2 false (.bin .add (.call "_law_cell" (.cons (.var 0) (.cons (.bin .mod (.var 1) (.int 9)) .nil))) (.bin .mul (.int 37) (.var 1)))) (.cons (.set 3 false (.call "_law_web" (.cons (.var 2) (.cons (.int 7) .nil)))) (.cons (.setT (.cons (.n 4) (.cons (.n 5) .nil)) (.tup (.cons (.call "_law_some" (.cons (.bin .add (.var 2) (.int 3)) (.cons (.ix (.var 3) (.int 0)) .nil))) (.cons (.call "_law_some" (.cons (.bin .add (.var 2) (.int 9)) (.cons (.ix (.var 3) (.int 0)) .nil))) .nil)))) (.cons (.set 6 false (.bi .tuple (.cons (.sset (.bin .add (.var 4) (.var 5))) .nil))) (.cons (.setT (.cons (.n 7) (.cons (.n 8) .nil)) (.tup (.cons (.call "tie_blurred" (.cons (.var 3) (.cons (.var 4) .nil))) (.cons (.call "tie_blurred" (.cons (.var 3) (.cons (.var 5) .nil))) .nil)))) (.cons (.ite (.cmp .ne (.bi .list (.cons (.call "tie_blurred" (.cons (.var 3) (.cons (.var 6) .nil))) .nil)) (.comp (.n 18) [("_law_pair", 18)] (.seq (.var 7)) (.so (.cmp .in_ (.var 18) (.var 8))) (.var 18))) (.cons (.ret (.bl false)) .nil) .nil) (.cons (.ite (.cmp .ne (.bi .len (.cons (.call "tie_blurred" (.cons (.var 3) (.cons (.tup .nil) .nil))) .nil)) (.bi .len (.cons (.call "_law_pairs" (.cons (.ix (.var 3) (.int 1)) .nil)) .nil))) (.cons (.ret (.bl false)) .nil) .nil) (.cons (.ite (.and (.or (.call "are_strong" (.cons (.var 3) (.cons (.var 4) .nil))) (.call "are_strong" (.cons (.var 3) (.cons (.var 5) .nil)))) (.not (.call "are_strong" (.cons (.var 3) (.cons (.var 6) .nil))))) (.cons (.ret (.bl false)) .nil) .nil) (.cons (.set 9 false (.call "_law_perm" (.cons (.bin .add (.var 2) (.int 5)) (.cons (.ix (.var 3) (.int 0)) .nil)))) (.cons (.set 10 false (.call "renamed" (.cons (.var 3) (.cons (.var 9) .nil)))) (.cons (.set 11 false (.bi .tuple (.cons (.bi .sorted (.cons (.comp (.n 14) [("_law_mark", 14)] (.seq (.var 4)) .no (.ix (.var 9) (.var 14))) .nil)) .nil))) (.cons (.ite (.cmp .ne (.call "are_strong" (.cons (.var 10) (.cons (.var 11) .nil))) (.call "are_strong" (.cons (.var 3) (.cons (.var 4) .nil)))) (.cons (.ret (.bl false)) .nil) .nil) (.cons (.for_ (.n 12) (.seq (.ix (.var 3) (.int 1))) (.cons (.set 13 false (.bi .tuple (.cons (.bi .sorted (.cons (.lst (.cons (.ix (.var 9) (.ix (.var 12) (.int 0))) (.cons (.ix (.var 9) (.ix (.var 12) (.int 1))) .nil))) .nil)) .nil))) (.cons (.for_ (.n 14) (.seq (.var 4)) (.cons (.ite (.cmp .ne (.call "tie_row" (.cons (.var 10) (.cons (.tup (.cons (.ix (.var 9) (.var 14)) .nil)) (.cons (.var 13) .nil)))) (.call "tie_row" (.cons (.var 3) (.cons (.tup (.cons (.var 14) .nil)) (.cons (.var 12) .nil))))) (.cons (.ret (.bl false)) .nil) .nil) .nil) [14]) (.cons (.ite (.cmp .ne (.bi .sorted (.cons (.call "tie_row" (.cons (.var 10) (.cons (.var 11) (.cons (.var 13) .nil)))) .nil)) (.bi .sorted (.cons (.call "tie_row" (.cons (.var 3) (.cons (.var 4) (.cons (.var 12) .nil)))) .nil))) (.cons (.ret (.bl false)) .nil) .nil) .nil))) [12, 13, 14]) (.cons (.for_ (.cons (.n 15) (.cons (.n 16) .nil)) (.seq (.call "_law_pairs" (.cons (.rg1 false (.ix (.var 3) (.int 0))) .nil))) (.cons (.set 17 false (.bi .tuple (.cons (.bi .sorted (.cons (.comp (.n 19) [("_law_place", 19)] (.seq (.call "strong_parters" (.cons (.var 3) (.cons (.var 15) (.cons (.var 16) .nil))))) .no (.ix (.var 9) (.var 19))) .nil)) .nil))) (.cons (.ite (.cmp .ne (.call "strong_parters" (.cons (.var 10) (.cons (.ix (.var 9) (.var 15)) (.cons (.ix (.var 9) (.var 16)) .nil)))) (.var 17)) (.cons (.ret (.bl false)) .nil) .nil) .nil)) [15, 16, 17]) .nil)))))))))))))) [1, 2, 3, 4, 5, 6, 7, 8, 9, 10, 11, 12, 13, 14, 15, 16, 17]) (.cons (.ret (.bl true)) .nil)⟩, 27⟩
def L : List Df := [d_neighbours, d_steps_from, d_all_steps, d_tie_row_in, d_tie_row, d_tie_blurred_in, d_tie_blurred, d_renamed, d_does_part, d_strong_parters, d_are_strong_in, d_are_strong, d__law_cell, d__law_mix, d__law_web, d__law_perm, d__law_some, d__law_pairs, d_law]
abbrev T := Df.lk L
instance : Has T "neighbours" f_neighbours := ⟨d_neighbours.fn, by kernel_rfl, ⟨rfl, rfl, by kernel_rfl⟩⟩
instance : Has T "steps_from" f_steps_from := ⟨d_steps_from.fn, by kernel_rfl, ⟨rfl, rfl, by kernel_rfl⟩⟩
instance : Has T "all_steps" f_all_steps := ⟨d_all_steps.fn, by kernel_rfl, ⟨rfl, rfl, by kernel_rfl⟩⟩
instance : Has T "tie_row_in" f_tie_row_in := ⟨d_tie_row_in.fn, by kernel_rfl, ⟨rfl, rfl, by kernel_rfl⟩⟩
instance : Has T "tie_row" f_tie_row := ⟨d_tie_row.fn, by kernel_rfl, ⟨rfl, rfl, by kernel_rfl⟩⟩
instance : Has T "tie_blurred_in" f_tie_blurred_in := ⟨d_tie_blurred_in.fn, by kernel_rfl, ⟨rfl, rfl, by kernel_rfl⟩⟩
instance : Has T "tie_blurred" f_tie_blurred := ⟨d_tie_blurred.fn, by kernel_rfl, ⟨rfl, rfl, by kernel_rfl⟩⟩
instance : Has T "renamed" f_renamed := ⟨d_renamed.fn, by kernel_rfl, ⟨rfl, rfl, by kernel_rfl⟩⟩
instance : Has T "does_part" f_does_part := ⟨d_does_part.fn, by kernel_rfl, ⟨rfl, rfl, by kernel_rfl⟩⟩
instance : Has T "strong_parters" f_strong_parters := ⟨d_strong_parters.fn, by kernel_rfl, ⟨rfl, rfl, by kernel_rfl⟩⟩
instance : Has T "are_strong_in" f_are_strong_in := ⟨d_are_strong_in.fn, by kernel_rfl, ⟨rfl, rfl, by kernel_rfl⟩⟩
instance : Has T "are_strong" f_are_strong := ⟨d_are_strong.fn, by kernel_rfl, ⟨rfl, rfl, by kernel_rfl⟩⟩
instance : Has T "_law_cell" f__law_cell := ⟨d__law_cell.fn, by kernel_rfl, ⟨rfl, rfl, by kernel_rfl⟩⟩
instance : Has T "_law_mix" f__law_mix := ⟨d__law_mix.fn, by kernel_rfl, ⟨rfl, rfl, by kernel_rfl⟩⟩
instance : Has T "_law_web" f__law_web := ⟨d__law_web.fn, by kernel_rfl, ⟨rfl, rfl, by kernel_rfl⟩⟩
instance : Has T "_law_perm" (permF true) := ⟨d__law_perm.fn, by kernel_rfl, ⟨rfl, rfl, by kernel_rfl⟩⟩
instance : Has T "_law_some" f__law_some := ⟨d__law_some.fn, by kernel_rfl, ⟨rfl, rfl, by kernel_rfl⟩⟩
instance : Has T "_law_pairs" f__law_pairs := ⟨d__law_pairs.fn, by kernel_rfl, ⟨rfl, rfl, by kernel_rfl⟩⟩
theorem tlaw : T "law" = some d_law.fn := by kernel_rfl
end K38

set_option Elab.async false
set_option linter.all false
set_option maxRecDepth 100000
set_option maxHeartbeats 1000000
namespace K38
open Q PySem
set_option hygiene false
local macro_rules | `(tactic| array_get_dec) => `(tactic| (repeat' (first | ((with_reducible apply e_var); rfl) | with_reducible (first | apply e_cmp | apply e_not | apply e_and | apply e_or | apply e_bin | apply e_ix | apply e_call | apply e_bi | apply e_tup | apply e_lst | apply e_rgT | apply e_rgF | apply e_rg1 | apply e_isN | apply es_cons | apply f_cons | apply at_dT | apply at_rT | apply at_mD | apply at_mR | apply at_nT | apply at_nL | apply o_so | apply e_sl | exact e_bl | exact e_non | exact e_str | exact e_l0 | exact e_l1 | exact e_l2 | exact e_l3 | exact e_l4 | exact e_l5 | exact e_l6 | exact e_l7 | exact e_l8 | exact e_l9 | exact e_l10 | exact e_l11 | exact e_l12 | exact e_l13 | exact e_l14 | exact e_l15 | exact e_l16 | exact e_l17 | exact e_l18 | exact e_l19 | exact e_l20 | exact e_intL | exact c_ltN | exact c_leN | exact c_gtN | exact c_geN | exact cop_eqN _ _ | exact cop_neN _ _ | exact c_eqB _ _ | exact cop_neB _ _ | exact c_isB _ _ | exact c_isnB _ _ | exact c_eqT _ _ | exact cop_neT _ _ | exact c_eqL _ _ | exact c_neL _ _ | exact c_eqPs _ _ | exact c_nePs _ _ | exact c_eqLP _ _ | exact c_neLP _ _ | exact c_eqP _ _ | exact c_neP _ _ | exact inN _ _ | exact ninN _ _ | exact c_inP _ _ | exact c_ninP _ _ | exact c_inLN _ _ | exact c_inLP _ _ | exact c_ninLN _ _ | exact c_ninLP _ _ | exact b_addN | exact b_addI | exact bi_tupleN | exact bi_tupleNN | exact bi_listN | exact bi_listNN | exact bi_tupleP | exact bi_lenNT | exact bi_lenL' | exact bi_tupleON | exact neN_nil _ | exact eqN_nil _ | exact neP_nil _ | exact prs_nil _ | exact b_modN (by decide) | exact web_n' | exact web_t' | exact pr_0 | exact pr_1 | exact t_bool | exact f_nil | exact es_nil | exact bi_min | exact bi_max | exact bi_lenM | exact bi_lenTM | exact bi_lenOM | exact bi_any | exact bi_all | exact bi_sortN | exact bi_sortP | exact bi_intB | exact bi_tuple | exact bi_tupleT | exact bi_listL | exact bi_listT | exact bi_tupleO | exact t_list | exact t_ol | exact cut_nT | exact cut_nL | exact o_no | exact isN_n | exact isN_t | exact isN_none | apply f1 | apply f2 | apply f3 | apply f4 | apply f5 | apply f6 | apply f7 | apply f8 | apply f9 | apply f10 | apply f11 | apply f12 | apply f13 | apply f14 | apply f15) | with_reducible assumption | omega)))
local macro_rules | `(tactic| sizeOf_list_dec) => `(tactic| (first | (apply put_lit; (next => rfl); (next => dsimp only [List.set]; try exact rfl)) | (apply tput1; (next => rfl); (next => dsimp only [wipe, List.map, List.set]; try exact rfl)) | (apply tput2; (next => rfl); (next => rfl); (next => dsimp only [wipe, List.map, List.set]; try exact rfl)) | (apply tput3; (next => rfl); (next => rfl); (next => rfl); (next => dsimp only [wipe, List.map, List.set]; try exact rfl))))
theorem law_ok : ∀ ns : List Int, ns.length ≤ 63 → (∀ z ∈ ns, Builtin.Int.intBits z ≤ 1048576) → callD (Df.lk L) 2000 20 "law" [scr ns] = .ok (.bool true) := by
  intro ns _ hb
  show callD T 2000 (19 + 1) _ _ = _
  rw [callD_run tlaw]
  refine run_post (g := [some (.fz (scr ns)), none, none, none, none, none, none, none, none, none, none, none, none, none, none, none, none, none, none, none]) rfl rfl ?_
  refine w_for (i_rng (n := 10) e_l10 (by decide)) (fun k hk => ?_) (w_ret rfl rfl)
  have hk := List.mem_range.mp hk
  (apply turnP; (next => sizeOf_list_dec))
  have hc : Sm 2000 (cellK ns 37 k) := sm_cellK hb (by decide) (by decide) (by omega)
  apply w_set (e_cellK (n := 18) rfl rfl (by decide) (by decide) (by omega))
  · sizeOf_list_dec
  generalize cellK ns 37 k = c at hc
  obtain ⟨w, f1, h, h8, _⟩ := c_web (T := T) (n := 16) true (hc.more (by decide)) (M := 7) (by decide) (by decide)
  have few := h.few
  have pos := h.pos
  (apply w_set; (next => array_get_dec); (next => sizeOf_list_dec))
  obtain ⟨ms, f2, hm, hmu, hml⟩ := c_some (T := T) (n := 17) (c := c + ((3 : Nat) : Int)) (m := w.1) ((hc.add (k := 3) (by decide)).more (by decide)) few
  obtain ⟨rs, f3, hr, hru, hrl⟩ := c_some (T := T) (n := 17) (c := c + ((9 : Nat) : Int)) (m := w.1) ((hc.add (k := 9) (by decide)).more (by decide)) few
  (apply w_setT; (next => array_get_dec); (next => sizeOf_list_dec))
  have hmr : ∀ x ∈ ms ++ rs, x < w.1 := fun x hx => (List.mem_append.mp hx).elim (hm x) (hr x)
  have hus : ∀ x ∈ usortN (ms ++ rs), x < w.1 := fun x hx => hmr x (mem_usortN.mp hx)
  apply w_set (d := tupN (usortN (ms ++ rs)))
  · apply e_usT (m := w.1)
    · apply e_bin
      · array_get_dec
      · array_get_dec
      · exact b_addT (by omega)
    · rw [List.length_append]; omega
    · exact hmr
    · omega
  · sizeOf_list_dec
  have lu := usortN_len hmr
  clear f2 f3
  have f2 := c_tieBl (T := T) (n := 15) h (by omega) hm (by omega)
  have f3 := c_tieBl (T := T) (n := 15) h (by omega) hr (by omega)
  have f4 := c_tieBl (T := T) (n := 15) h (by omega) hus (by omega)
  have f5 := c_tieBl (T := T) (n := 15) h (by omega) (ms := []) (fun _ q => nomatch q) (by decide)
  (apply w_setT; (next => array_get_dec); (next => sizeOf_list_dec))
  have l196 := ties_196 h (by omega)
  have lp : (pairsL w.2).length ≤ 1000000 := Nat.le_trans (pairs_len w.2) (Nat.le_trans (Nat.mul_le_mul l196 l196) (by decide))
  have lt : ∀ r, (tieBl w r).length ≤ 1000000 := fun r => Nat.le_trans (List.length_filter_le _ _) lp
  apply w_no
  · apply e_cmp
    · apply e_bi
      · apply es_cons
        · array_get_dec
        · array_get_dec
      · array_get_dec
    · apply e_cmps (enc := ppD) (xs := tieBl w ms) (p := fun p => decide (p ∈ tieBl w rs)) (r := ppD) (i_seqT (e_var rfl)) (lt ms)
      intro p hp
      apply turn_if
      · sizeOf_list_dec
      · exact e_cmp (e_var rfl) (e_var rfl) (c_inPP _ _)
      · array_get_dec
    · exact c_neLPP _ _
  · rw [tieBl_app]; simp
  have f6 := c_pairsT (T := T) (n := 18) prD (l := w.2) (by omega)
  apply w_no
  · apply e_cmp
    · apply e_bi
      · apply es_cons
        · apply e_call
          · array_get_dec
          · array_get_dec
          · exact f5
        · array_get_dec
      · array_get_dec
    · apply e_bi
      · apply es_cons
        · array_get_dec
        · array_get_dec
      · array_get_dec
    · array_get_dec
  · rw [tieBl_nil]; simp
  have f7 := c_areStrong (T := T) (n := 15) h hm (by omega)
  have f8 := c_areStrong (T := T) (n := 15) h hr (by omega)
  have f9 := c_areStrong (T := T) (n := 15) h hus (by omega)
  (apply w_no; (next => array_get_dec))
  · cases q : strongW w ms
    · cases q2 : strongW w rs
      · rfl
      · rw [strong_more (fun m q => mem_usortN.mpr (List.mem_append.mpr (.inr q))) q2]; rfl
    · rw [strong_more (fun m q => mem_usortN.mpr (List.mem_append.mpr (.inl q))) q]; cases strongW w rs <;> rfl
  obtain ⟨l, f10, hl⟩ := c_perm (T := T) (n := 17) true (c + ((5 : Nat) : Int)) w.1 ((hc.add (k := 5) (by decide)).more (by decide)) few
  have f11 := c_renamed (T := T) (n := 18) (t := true) h hl
  replace f10 : callD T 2000 (17 + 2) "_law_perm" [.int (c + ((5 : Nat) : Int)), nD w.1] = .ok (tupN l) := f10
  replace f11 : callD T 2000 (18 + 1) "renamed" [webD w, tupN l] = .ok (webD (renW l w)) := f11
  (apply w_set; (next => array_get_dec); (next => sizeOf_list_dec))
  (apply w_set; (next => array_get_dec); (next => sizeOf_list_dec))
  have hN := ren_sm h hl
  have ll : l.length = w.1 := by rw [hl.length_eq, List.length_range]
  obtain ⟨nu, nm, nl⟩ := nmv_set (w := w) hl hm (up_nodup hmu)
  have ix : ∀ p, p < w.1 → (O.fz (tupN l)).at ((p : Nat) : Int) = .ok (.fz (nD (nmv l p))) := fun p hp => at_nT (by rw [hl.length_eq, List.length_range]; exact hp)
  apply w_set (d := tupN (sortN (ms.map (nmv l))))
  · apply e_bi
    · apply es_cons
      · apply e_bi
        · apply es_cons
          · apply e_alls (enc := nD) (xs := ms) (r := fun m => nD (nmv l m)) (i_seqT (e_var rfl)) (by omega)
            intro m q
            have hmm := hm m q
            (apply turn_on; (next => sizeOf_list_dec); (next => array_get_dec))
          · array_get_dec
        · show bi .sorted [.fz (.list (ms.map (nD ∘ nmv l)))] = _
          rw [← List.map_map]
          exact bi_sortN
      · array_get_dec
    · array_get_dec
  · sizeOf_list_dec
  have f12 := c_areStrong (T := T) (n := 15) hN nm (by omega)
  rw [ren_strong h hl hm] at f12
  (apply w_no; (next => array_get_dec))
  · simp
  clear f1 f2 f3 f4 f5 f6 f7 f8 f9 f10 f11 f12
  apply w_for (enc := prD) (xs := w.2) (i_seqT (e_ix (e_var rfl) e_l1 web_t'))
  · intro t ht
    have hlt := h.lt t ht
    have h1 : t.1 < w.1 := by omega
    have f1 := ix t.1 h1
    have f2 := ix t.2 hlt.2
    (apply turnP; (next => sizeOf_list_dec))
    apply w_set (d := prD (ren l t))
    · exact two_ev (x := nmv l t.1) (y := nmv l t.2) (by array_get_dec) (by array_get_dec)
    · sizeOf_list_dec
    have hrt := ren_mem (l := l) ht
    have f3 := fun r (hr : ∀ m ∈ r, m < w.1) (hl : r.length ≤ 1000) => c_tieRow (T := T) (n := 15) h hr hl ht
    have f4 := fun r (hr : ∀ m ∈ r, m < w.1) (hl : r.length ≤ 1000) => c_tieRow (T := T) (n := 15) hN hr hl hrt
    apply w_for (enc := nD) (xs := ms) (i_seqT (e_var rfl))
    · intro m q
      have hmm := hm m q
      have f5 := ix m hmm
      have f6 := f3 [m] (by simpa using hmm) (show 1 ≤ 1000 by decide)
      have f7 := f4 [nmv l m] (by simpa using (nmv_get hl hmm).2) (show 1 ≤ 1000 by decide)
      rw [show [nmv l m] = [m].map (nmv l) from rfl, ren_tie_row h hl ht (by simpa using hmm)] at f7
      replace f7 : callD T 2000 (15 + 4) "tie_row" [webD (renW l w), tupN [nmv l m], prD (ren l t)] = .ok (tupN (tieRowW w [m] t)) := f7
      (apply turnP; (next => sizeOf_list_dec))
      apply w_no
      · apply e_cmp
        · apply e_call
          · apply es_cons
            · array_get_dec
            · apply es_cons
              · exact e_tup (es_cons (e_ix (e_var rfl) (e_var rfl) f5) es_nil) (f_cons f_nil)
              · array_get_dec
          · array_get_dec
          · exact f7
        · apply e_call
          · apply es_cons
            · array_get_dec
            · apply es_cons
              · exact e_tup (es_cons (e_var rfl) es_nil) (f_cons f_nil)
              · array_get_dec
          · array_get_dec
          · exact f6
        · array_get_dec
      · simp
      exact w_back rfl
    have f5 := f3 ms hm (by omega)
    have f6 := f4 _ nm (by omega)
    apply w_no
    · apply e_cmp
      · apply e_bi
        · apply es_cons
          · apply e_call
            · array_get_dec
            · array_get_dec
            · exact f6
          · array_get_dec
        · exact bi_sortNT
      · apply e_bi
        · apply es_cons
          · apply e_call
            · array_get_dec
            · array_get_dec
            · exact f5
          · array_get_dec
        · exact bi_sortNT
      · array_get_dec
    · rw [ren_tie_sort h hl ht hm]; simp
    exact w_back rfl
  have f1 := c_pairs (T := T) (n := 18) nD (l := List.range w.1) (by simp; omega)
  apply w_for (enc := pE nD) (xs := pairsL (List.range w.1)) (i_seqL (by array_get_dec))
  · intro p hp
    obtain ⟨h1, h2⟩ := mem_pairs_range.mp hp
    obtain ⟨x, y⟩ := p
    have hx : x < w.1 := Nat.lt_trans h1 h2
    have hy : y < w.1 := h2
    (apply turnP; (next => sizeOf_list_dec))
    have f2 := c_strong (T := T) (n := 15) h hx hy
    have hs : ∀ m ∈ strW w x y, m < w.1 := fun m q => by
      unfold strW at q
      exact List.mem_range.mp (List.mem_filter.mp q).1
    apply w_set (d := tupN (sortN ((strW w x y).map (nmv l))))
    · apply e_bi
      · apply es_cons
        · apply e_bi
          · apply es_cons
            · apply e_alls (enc := nD) (xs := strW w x y) (r := fun m => nD (nmv l m)) (i_tupN (by array_get_dec)) (Nat.le_trans (List.length_filter_le _ _) (by simp; omega))
              intro m q
              have hmm := hs m q
              (apply turn_on; (next => sizeOf_list_dec); (next => array_get_dec))
            · array_get_dec
          · show bi .sorted [.fz (.list ((strW w x y).map (nD ∘ nmv l)))] = _
            rw [← List.map_map]
            exact bi_sortN
        · array_get_dec
      · array_get_dec
    · sizeOf_list_dec
    have f3 := ix x hx
    have f4 := ix y hy
    have f5 := c_strong (T := T) (n := 15) hN (a := nmv l x) (b := nmv l y) (nmv_get hl hx).2 (nmv_get hl hy).2
    (apply w_no; (next => array_get_dec))
    · rw [ren_str h hl hx hy]; simp
    exact w_back rfl
  exact w_back rfl
end K38

set_option Elab.async false
set_option linter.all false
set_option maxRecDepth 100000
set_option maxHeartbeats 0
namespace K38
open PySem PySem.Spec PyProof.Rows L2 Q
def top (i : Nat) : Stmt := PySem.Challenge.pw_spotmarks_k38_whole_more_marks_for_ties.main.body.getD i (.Pass ⟨0, 0, 0, 0⟩)
def exs : List String := ["NoTie"]
abbrev fa : List He.Fa := faOf L exs
abbrev fn : List He.DefD := fnOf L top
abbrev R : PySem.W.OpenRow := PySem.W.OpenLaw.row PySem.Challenge.rw_spotmarks_k38_whole_more_marks_for_ties
abbrev hk : PySem.W.Hook := He.hookD 4 fa fn
def ob (s : PySem.W.SharedT) : He.AlD := He.obsDG 4 fa fn (HandSHeadRun.getT s)
theorem ob_is (s : PySem.W.SharedT) : ob s = hk.obs s.abs := He.obsDG_eq (HandSHeadRun.getT_eq s)
theorem hrun (w : World) : HandSHeadRun.RunEq R (PySem.W.view R.prog [27]) hk ob 2000 ["MarkError", "NoTie", "neighbours", "steps_from", "all_steps", "tie_row_in", "tie_row", "tie_blurred_in", "tie_blurred", "renamed", "does_part", "strong_parters", "are_strong_in", "are_strong", "_law_cell", "_law_mix", "_law_web", "_law_perm", "_law_some", "_law_pairs"] w := by
  intro os
  kernel_rfl
theorem b_neighbours : Bnd top d_neighbours := fun _ _ _ _ _ _ us hl => match us, hl with | [_, _], _ => rfl
theorem b_steps_from : Bnd top d_steps_from := fun _ _ _ _ _ _ us hl => match us, hl with | [_, _], _ => rfl
theorem b_all_steps : Bnd top d_all_steps := fun _ _ _ _ _ _ us hl => match us, hl with | [_], _ => rfl
theorem b_tie_row_in : Bnd top d_tie_row_in := fun _ _ _ _ _ _ us hl => match us, hl with | [_, _, _], _ => rfl
theorem b_tie_row : Bnd top d_tie_row := fun _ _ _ _ _ _ us hl => match us, hl with | [_, _, _], _ => rfl
theorem b_tie_blurred_in : Bnd top d_tie_blurred_in := fun _ _ _ _ _ _ us hl => match us, hl with | [_, _, _], _ => rfl
theorem b_tie_blurred : Bnd top d_tie_blurred := fun _ _ _ _ _ _ us hl => match us, hl with | [_, _], _ => rfl
theorem b_renamed : Bnd top d_renamed := fun _ _ _ _ _ _ us hl => match us, hl with | [_, _], _ => rfl
theorem b_does_part : Bnd top d_does_part := fun _ _ _ _ _ _ us hl => match us, hl with | [_, _, _, _], _ => rfl
theorem b_strong_parters : Bnd top d_strong_parters := fun _ _ _ _ _ _ us hl => match us, hl with | [_, _, _], _ => rfl
theorem b_are_strong_in : Bnd top d_are_strong_in := fun _ _ _ _ _ _ us hl => match us, hl with | [_, _], _ => rfl
theorem b_are_strong : Bnd top d_are_strong := fun _ _ _ _ _ _ us hl => match us, hl with | [_, _], _ => rfl
theorem b__law_cell : Bnd top d__law_cell := fun _ _ _ _ _ _ us hl => match us, hl with | [_, _], _ => rfl
theorem b__law_mix : Bnd top d__law_mix := fun _ _ _ _ _ _ us hl => match us, hl with | [_, _, _], _ => rfl
theorem b__law_web : Bnd top d__law_web := fun _ _ _ _ _ _ us hl => match us, hl with | [_, _], _ => rfl
theorem b__law_perm : Bnd top d__law_perm := fun _ _ _ _ _ _ us hl => match us, hl with | [_, _], _ => rfl
theorem b__law_some : Bnd top d__law_some := fun _ _ _ _ _ _ us hl => match us, hl with | [_, _], _ => rfl
theorem b__law_pairs : Bnd top d__law_pairs := fun _ _ _ _ _ _ us hl => match us, hl with | [_], _ => rfl
theorem b_law : Bnd top d_law := fun _ _ _ _ _ _ us hl => match us, hl with | [_], _ => rfl
theorem bnds : ∀ d ∈ L, Bnd top d := List.forall_mem_cons.mpr ⟨b_neighbours, List.forall_mem_cons.mpr ⟨b_steps_from, List.forall_mem_cons.mpr ⟨b_all_steps, List.forall_mem_cons.mpr ⟨b_tie_row_in, List.forall_mem_cons.mpr ⟨b_tie_row, List.forall_mem_cons.mpr ⟨b_tie_blurred_in, List.forall_mem_cons.mpr ⟨b_tie_blurred, List.forall_mem_cons.mpr ⟨b_renamed, List.forall_mem_cons.mpr ⟨b_does_part, List.forall_mem_cons.mpr ⟨b_strong_parters, List.forall_mem_cons.mpr ⟨b_are_strong_in, List.forall_mem_cons.mpr ⟨b_are_strong, List.forall_mem_cons.mpr ⟨b__law_cell, List.forall_mem_cons.mpr ⟨b__law_mix, List.forall_mem_cons.mpr ⟨b__law_web, List.forall_mem_cons.mpr ⟨b__law_perm, List.forall_mem_cons.mpr ⟨b__law_some, List.forall_mem_cons.mpr ⟨b__law_pairs, List.forall_mem_cons.mpr ⟨b_law, fun _ h => nomatch h⟩⟩⟩⟩⟩⟩⟩⟩⟩⟩⟩⟩⟩⟩⟩⟩⟩⟩⟩
theorem chks : (L.all fun d => d.chk (Df.kn L) (fun n => exs.contains n) (defBody (top d.at_)) (defScope (top d.at_))) = true := by kernel_rfl
end K38
open PySem PySem.W PySem.Calls PyProof.Rows
theorem PySem.Challenge.cw_spotmarks_k38_whole_more_marks_for_ties_holds : PySem.Challenge.rw_spotmarks_k38_whole_more_marks_for_ties.Holds := by
  w_on; o_law
  refine HandSHeadRun.head_any (r := K38.R) (q := view (K38.R).prog [27]) (H := K38.hk) (ob := K38.ob) (M := 2000) (loose := ["MarkError", "NoTie", "neighbours", "steps_from", "all_steps", "tie_row_in", "tie_row", "tie_blurred_in", "tie_blurred", "renamed", "does_part", "strong_parters", "are_strong_in", "are_strong", "_law_cell", "_law_mix", "_law_web", "_law_perm", "_law_some", "_law_pairs"]) (d := HandSHeadRun.topDef (K38.R).prog 27) (kwd := [])
    K38.ob_is (by kernel_rfl) (fun s => by kernel_rfl) K38.hrun (by kernel_rfl) (by kernel_rfl) (by kernel_rfl) (by rfl) (by first | assumption | decide +kernel) (by decide +kernel) ⟨rfl, rfl, rfl, rfl, rfl, by decide +kernel⟩ ?hw ?hc
  case hw => w_witness2
  case hc =>
    refine Q.law_end (l := PySem.Challenge.rw_spotmarks_k38_whole_more_marks_for_ties) (m := 63) (k := 20) (N := 2000) (L := K38.L) (top := K38.top) (kx := fun n => K38.exs.contains n) (d := K38.d_law) (nm := "law") (x := "_law_script") rfl (by decide) (by kernel_rfl) ⟨rfl, by decide, by decide⟩ (by kernel_rfl) (by rfl) rfl ?hM K38.law_ok
    intro w mg h Y G
    obtain ⟨K, KX, c⟩ := Y
    exact ⟨K, _, KX, Q.mod_of KX G c K38.bnds K38.chks⟩

