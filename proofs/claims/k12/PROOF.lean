import PyProof.Rows.All
import HandS.Conv
import HandS.Deep
import HandS.EndBits
import HandS.ForMost
import HandS.IsInst
import HandS.SortInts
import HandS.Style
import HandS.TupAny
import HandS.TupLe
import HandS.TupLen
import HandS.TupMul
import HandS.Words
import PySem.Str
import PySem.Challenge.RW_hornhive_k12_tables_counted
set_option linter.all false
set_option Elab.async false
section
set_option maxRecDepth 100000
set_option maxHeartbeats 4000000
/-! Mini: a small language for the pure part of the program, and its meaning as plain Lean functions. -/
namespace Mini
open PySem (Str)

/-! ### values -/
inductive W where
  | non | bl (b : Bool) | int (i : Int) | str (x : Str)
  | tup (ws : List W) | lst (ws : List W)
  | dct (kvs : List (List Int × Int))
  | scr (ns : List Int)
  deriving Inhabited

abbrev Env := List (Option W)
def big : Nat := 16777216

mutual
/-- == of the language -/
def W.eqv : W → W → Bool
  | .non, .non => true
  | .bl a, .bl b => a == b
  | .bl a, .int j => (if a then 1 else 0) == j
  | .int i, .bl b => i == (if b then 1 else 0)
  | .int i, .int j => i == j
  | .str x, .str y => decide (x = y)
  | .lst xs, .lst ys => W.eqvs xs ys
  | .tup xs, .tup ys => W.eqvs xs ys
  | _, _ => false
def W.eqvs : List W → List W → Bool
  | [], [] => true
  | x :: xs, y :: ys => W.eqv x y && W.eqvs xs ys
  | _, _ => false
end

mutual
/-- what may be compared: no dict, not too deep -/
def W.sh : Nat → W → Bool
  | _, .non => true
  | _, .bl _ => true
  | _, .int _ => true
  | _, .str x => x.cps.all (· < 0x110000)
  | 0, .tup _ => false
  | 0, .lst _ => false
  | n + 1, .tup ws => W.shs n ws
  | n + 1, .lst ws => W.shs n ws
  | _, .dct _ => false
  | _, .scr _ => false
def W.shs : Nat → List W → Bool
  | _, [] => true
  | n, w :: ws => W.sh n w && W.shs n ws
end

mutual
/-- < of ints and of tuples -/
def W.ltv : W → W → Option Bool
  | .int a, .int b => some (decide (a < b))
  | .tup xs, .tup ys => W.ltvs xs ys
  | _, _ => none
def W.ltvs : List W → List W → Option Bool
  | [], [] => some false
  | [], _ :: _ => some true
  | _ :: _, [] => some false
  | x :: xs, y :: ys => if W.eqv x y then W.ltvs xs ys else W.ltv x y
end

mutual
/-- no list and no dict within -/
def W.flat : W → Bool
  | .tup ws => W.flats ws
  | .lst _ => false
  | .dct _ => false
  | .scr _ => false
  | _ => true
def W.flats : List W → Bool
  | [] => true
  | w :: ws => W.flat w && W.flats ws
end
/-- a result that shares no list with what was handed in: nothing to change within, or a new list of such -/
def W.loose (fresh : Bool) : W → Bool
  | .lst ws => fresh && W.flats ws
  | .dct _ => fresh
  | w => W.flat w

def ints? : List W → Option (List Int)
  | [] => some []
  | .int i :: ws => (ints? ws).map (i :: ·)
  | _ :: _ => none
def bls? : List W → Option (List Bool)
  | [] => some []
  | .bl b :: ws => (bls? ws).map (b :: ·)
  | _ :: _ => none
def W.int? : W → Option Int
  | .int i => some i
  | _ => none
def W.bl? : W → Option Bool
  | .bl b => some b
  | _ => none
def W.key? : W → Option (List Int)
  | .tup ws => ints? ws
  | _ => none
def W.seq? : W → Option (List W)
  | .tup ws => some ws
  | .lst ws => some ws
  | _ => none
def W.lst? : W → Option (List W)
  | .lst ws => some ws
  | _ => none
def W.dct? : W → Option (List (List Int × Int))
  | .dct kvs => some kvs
  | _ => none

/-- a place in a sequence -/
def ixN (n : Nat) (i : Int) : Option Nat := if 0 ≤ i then (if i < n then some i.toNat else none) else if -(n : Int) ≤ i then some (i + n).toNat else none
def atI {α : Type} (xs : List α) (i : Int) : Option α := (ixN xs.length i).bind fun j => xs[j]?
/-- a bound of a slice -/
def sIx (n d : Nat) : Option Int → Nat
  | none => d
  | some v => if v < 0 then (v + n).toNat else min v.toNat n
def cut {α : Type} (xs : List α) (lo hi : Option Int) : List α := (xs.drop (sIx xs.length 0 lo)).take (sIx xs.length xs.length hi - sIx xs.length 0 lo)

/-! ### dicts -/
def dGet (kvs : List (List Int × Int)) (k : List Int) : Option Int := (kvs.find? fun kv => decide (kv.1 = k)).map (·.2)
def dPut (kvs : List (List Int × Int)) (k : List Int) (v : Int) : List (List Int × Int) :=
  if kvs.any (fun kv => decide (kv.1 = k)) then kvs.map fun kv => if kv.1 = k then (kv.1, v) else kv else kvs ++ [(k, v)]
def dDel (kvs : List (List Int × Int)) (k : List Int) : List (List Int × Int) := kvs.filter fun kv => decide (kv.1 ≠ k)

/-! ### sorting -/
def insI (x : Int) : List Int → List Int
  | [] => [x]
  | y :: ys => if x < y then x :: y :: ys else y :: insI x ys
def sortI : List Int → List Int
  | [] => []
  | x :: xs => insI x (sortI xs)

/-- an insertion sort by < of tuples of ints, at any depth -/
def insT (x : W) : List W → Option (List W)
  | [] => some [x]
  | y :: ys => (W.ltv x y).bind fun k => if k then some (x :: y :: ys) else (insT x ys).map (y :: ·)
def sortT : List W → Option (List W)
  | [] => some []
  | x :: xs => (sortT xs).bind (insT x)
/-! ### operators -/
inductive BO where
  | add | sub | mul | fdiv | mod | pow | shl | shr | band
  deriving DecidableEq
inductive CO where
  | eq | ne | lt | le | gt | ge | is | isnot | inn | notin
  deriving DecidableEq
def small64 (i : Int) : Bool := decide (-(2 ^ 64) < i) && decide (i < 2 ^ 64)
def binI : BO → Int → Int → Option Int
  | .add, i, j => some (i + j)
  | .sub, i, j => some (i - j)
  | .mul, i, j => if small64 i || small64 j then some (i * j) else none
  | .fdiv, i, j => if 0 < j && j < 1073741824 then some (i / j) else none
  | .mod, i, j => if 0 < j then some (i % j) else none
  | .pow, i, j => if 0 ≤ j && j ≤ 1000000 && decide (i.natAbs < 2 ^ 64) then some (i ^ j.toNat) else none
  | .shl, i, j => if 0 ≤ j && j ≤ 1000000 && decide (i.natAbs < 2 ^ 64) then some (i * 2 ^ j.toNat) else none
  | .shr, i, j => if 0 ≤ j then some (i / 2 ^ j.toNat) else none
  | .band, i, j => if 0 ≤ i && 0 ≤ j then some ((i.toNat &&& j.toNat : Nat) : Int) else none
def repW (k : Int) (xs : List W) : List W := (List.replicate k.toNat xs).flatten
def bin : BO → W → W → Option W
  | o, .int i, .int j => (binI o i j).map .int
  | .add, .tup xs, .tup ys => if xs.length + ys.length ≤ big then some (.tup (xs ++ ys)) else none
  | .add, .lst xs, .lst ys => if xs.length + ys.length ≤ big then some (.lst (xs ++ ys)) else none
  | .add, .str x, .str y => if x.length + y.length ≤ big then some (.str (x ++ y)) else none
  | .mul, .lst xs, .int k => if -(2 ^ 63) ≤ k && k < 2 ^ 63 && decide (xs.length * k.toNat ≤ big) then some (.lst (repW k xs)) else none
  | .mul, .tup xs, .int k => if !xs.isEmpty && 0 ≤ k && k ≤ 1000 && decide (xs.length ≤ 1000) then some (.tup (repW k xs)) else none
  | _, _, _ => none
def cmpI : CO → Int → Int → Option Bool
  | .lt, i, j => some (decide (i < j))
  | .le, i, j => some (decide (i ≤ j))
  | .gt, i, j => some (decide (j < i))
  | .ge, i, j => some (decide (j ≤ i))
  | _, _, _ => none
def W.isNon : W → Bool
  | .non => true
  | _ => false
def isW : W → W → Option Bool
  | a, .non => some a.isNon
  | .bl c, .bl b => some (c == b)
  | _, _ => none
def inW (a : W) : W → Option Bool
  | .dct kvs => (a.key?).map fun k => kvs.any fun kv => decide (kv.1 = k)
  | .lst ws => if a.sh 60 && W.shs 60 ws then some (ws.any fun z => W.eqv z a) else none
  | .tup ws => if a.sh 60 && W.shs 60 ws then some (ws.any fun z => W.eqv z a) else none
  | _ => none
def cmp : CO → W → W → Option Bool
  | .eq, a, b => if a.sh 60 && b.sh 60 then some (W.eqv a b) else none
  | .ne, a, b => if a.sh 60 && b.sh 60 then some (!W.eqv a b) else none
  | .is, a, b => isW a b
  | .isnot, a, b => (isW a b).map (!·)
  | .inn, a, b => inW a b
  | .notin, a, b => (inW a b).map (!·)
  | o, .int i, .int j => cmpI o i j
  | _, _, _ => none

inductive BF where
  | len | sum | all | max | min | sorted | sortedT | tuple | list | int | abs | str
  deriving DecidableEq
def maxI : List Int → Int
  | [] => 0
  | x :: xs => xs.foldl (fun m y => if m < y then y else m) x
def minI : List Int → Int
  | [] => 0
  | x :: xs => xs.foldl (fun m y => if y < m then y else m) x
def blt : BF → W → Option W
  | .len, .lst ws => some (.int ws.length)
  | .len, .tup ws => some (.int ws.length)
  | .len, .scr ns => some (.int ns.length)
  | .len, .dct kvs => some (.int kvs.length)
  | .sum, .lst ws => (ints? ws).map fun ns => .int ns.sum
  | .sum, .tup ws => (ints? ws).map fun ns => .int ns.sum
  | .all, .lst ws => (bls? ws).map fun bs => .bl (bs.all id)
  | .max, .lst ws => (ints? ws).bind fun ns => if ns.isEmpty then none else some (.int (maxI ns))
  | .max, .tup ws => (ints? ws).bind fun ns => if ns.isEmpty then none else some (.int (maxI ns))
  | .min, .lst ws => (ints? ws).bind fun ns => if ns.isEmpty then none else some (.int (minI ns))
  | .min, .tup ws => (ints? ws).bind fun ns => if ns.isEmpty then none else some (.int (minI ns))
  | .sorted, .lst ws => (ints? ws).map fun ns => .lst ((sortI ns).map .int)
  | .sortedT, .lst ws => if W.shs 60 ws then (sortT ws).map .lst else none
  | .sortedT, .dct kvs => (sortT (kvs.map fun kv => W.tup (kv.1.map .int))).map .lst
  | .sortedT, .tup ws => (ints? ws).map fun ns => .lst ((sortI ns).map .int)
  | .tuple, .lst ws => some (.tup ws)
  | .tuple, .tup ws => some (.tup ws)
  | .list, .lst ws => some (.lst ws)
  | .list, .tup ws => some (.lst ws)
  | .int, .int i => some (.int i)
  | .int, .bl b => some (.int (if b then 1 else 0))
  | .str, .int i => if i.natAbs.log2 < 1920 then some (.str (Str.ofString (toString i))) else none
  | .abs, .int i => some (.int (if i < 0 then -i else i))
  | _, _ => none
inductive Ty where
  | bool | int | str | tuple | list | dict
  deriving DecidableEq
def isi : Ty → W → Option Bool
  | _, .scr _ => none
  | .bool, .bl _ => some true
  | .int, .bl _ => some true
  | .int, .int _ => some true
  | .str, .str _ => some true
  | .tuple, .tup _ => some true
  | .list, .lst _ => some true
  | .dict, .dct _ => some true
  | _, _ => some false
def idx : W → W → Option W
  | .lst ws, .int i => atI ws i
  | .tup ws, .int i => atI ws i
  | .scr ns, .int i => (atI ns i).map .int
  | .dct kvs, k => (k.key?).bind fun ks => (dGet kvs ks).map .int
  | _, _ => none
/-- a part of a slice: an int, or left out -/
def part? : Option W → Option (Option Int)
  | none => some none
  | some (.int i) => some (some i)
  | _ => none
def slc (lo hi : Option Int) : W → Option W
  | .lst ws => some (.lst (cut ws lo hi))
  | .tup ws => some (.tup (cut ws lo hi))
  | _ => none
def revW : W → Option W
  | .lst ws => some (.lst ws.reverse)
  | .tup ws => some (.tup ws.reverse)
  | _ => none
def countW (x : W) (w : W) : Option W :=
  match w, x with
  | .tup ws, .int i => (ints? ws).map fun ns => .int (ns.count i)
  | _, _ => none
def indexW (x : W) (w : W) : Option W :=
  match w.lst? with
  | some ws => if x.sh 60 && W.shs 60 ws then (ws.findIdx? fun z => W.eqv z x).map fun (j : Nat) => .int (j : Int) else none
  | none => none
def dgetW (k d : W) (w : W) : Option W :=
  match w with
  | .dct kvs => (k.key?).map fun ks => ((dGet kvs ks).map W.int).getD d
  | _ => none
def max2 : Bool → List W → Option W
  | true, [.int i, .int j] => some (.int (if j > i then j else i))
  | false, [.int i, .int j] => some (.int (if j < i then j else i))
  | _, _ => none

/-! ### syntax -/
/-- where a walked thing goes -/
inductive Tg where
  | one (i : Nat) | many (is : List Nat)
  deriving DecidableEq
def Tg.slots : Tg → List Nat
  | .one i => [i]
  | .many is => is
mutual
inductive E where
  | var (i : Nat)
  /-- a slot that may hold a list of its own, but holds none -/
  | varT (i : Nat)
  | int (i : Int) | bl (b : Bool) | str (x : String) | non
  | glb (x : String) (i : Int)
  | bin (o : BO) (a b : E)
  | neg (a : E)
  | cmp (o : CO) (a b : E)
  | cmp2 (o p : CO) (a b c : E)
  | nt (a : E)
  | and (a b : E) | or (a b : E)
  | ite (c a b : E)
  | idx (a b : E)
  | slc (a : E) (lo hi : Oe)
  | rev (a : E)
  | tup (es : Es) | lst (es : Es)
  | dnil
  | dsing (k v : E)
  | call (f : Nat) (es : Es)
  /-- the same, a list of the body's own among the arguments: the answer keeps no list -/
  | callb (f : Nat) (es : Es)
  | blt (f : BF) (a : E)
  | mm (mx : Bool) (es : Es)
  | isi (t : Ty) (a : E)
  | count (o a : E) | index (o a : E)
  | dget (o k d : E)
  | lrange (a : E) | trange (a : E)
  | lc (elt : E) (tg : Tg) (it : It) (c : Oe)
  | lc2 (elt : E) (tg : Tg) (it : It) (tg2 : Tg) (it2 : It) (c : Oe)
  | dc (k v : E) (tg : Tg) (it : It) (c : Oe)
  | dc2 (k v : E) (tg : Tg) (it : It) (tg2 : Tg) (it2 : It)
inductive Es where
  | nil | cons (e : E) (es : Es)
inductive Oe where
  | no | so (e : E)
inductive It where
  | seq (e : E) | rng (a : E) | rng2 (a b : E) | keys (e : E)
end
def Es.list : Es → List E
  | .nil => []
  | .cons e es => e :: es.list

/-! ### meaning -/
def getv (ρ : Env) (i : Nat) : Option W := (ρ[i]?).bind id
def setMany : List Nat → List W → Env → Option Env
  | [], [], ρ => some ρ
  | i :: is, w :: ws, ρ => setMany is ws (ρ.set i (some w))
  | _, _, _ => none
def assign (tg : Tg) (w : W) (ρ : Env) : Option Env :=
  match tg with
  | .one i => some (ρ.set i (some w))
  | .many is => match w with
    | .tup ws => setMany is ws ρ
    | _ => none
def wipe (ρ : Env) : List Nat → Env
  | [] => ρ
  | v :: vs => (wipe ρ vs).set v none
/-- a list comprehension's loop: f gives an item, or leaves it out -/
def lcGo (f : W → Option (Option W)) : List W → Option (List W)
  | [] => some []
  | w :: ws => (f w).bind fun o => (lcGo f ws).bind fun r => some (match o with | some x => x :: r | none => r)
def lc2Go (f : W → Option (List W)) : List W → Option (List W)
  | [] => some []
  | w :: ws => (f w).bind fun o => (lc2Go f ws).bind fun r => some (o ++ r)
def dcGo (f : W → List (List Int × Int) → Option (List (List Int × Int))) : List W → List (List Int × Int) → Option (List (List Int × Int))
  | [], d => some d
  | w :: ws, d => (f w d).bind fun d' => dcGo f ws d'
def rangeW (a b : Int) : Option (List W) :=
  if -(2 ^ 62) ≤ a && a < 2 ^ 62 && -(2 ^ 62) ≤ b && b < 2 ^ 62 then some ((List.range (b - a).toNat).map fun (i : Nat) => W.int (a + i)) else none
def guardLen (ws : List W) : Option (List W) := if ws.length ≤ big then some ws else none

/-- a call of a function of the program: its number, its arguments -/
abbrev CF := Nat → List W → Option W

mutual
def evalE (cf : CF) : E → Env → Option W
  | .var i, ρ => getv ρ i
  | .varT i, ρ => (getv ρ i).bind fun w => match w with
    | .lst _ => none
    | .dct _ => none
    | w => some w
  | .int i, _ => some (.int i)
  | .bl b, _ => some (.bl b)
  | .str x, _ => some (.str (Str.ofString x))
  | .non, _ => some .non
  | .glb _ i, _ => some (.int i)
  | .bin o a b, ρ => (evalE cf a ρ).bind fun x => (evalE cf b ρ).bind fun y => Mini.bin o x y
  | .neg a, ρ => (evalE cf a ρ).bind fun x => x.int?.map fun i => .int (-i)
  | .cmp o a b, ρ => (evalE cf a ρ).bind fun x => (evalE cf b ρ).bind fun y => (Mini.cmp o x y).map .bl
  | .cmp2 o p a b c, ρ => (evalE cf a ρ).bind fun x => (evalE cf b ρ).bind fun y => (Mini.cmp o x y).bind fun k =>
      if k then (evalE cf c ρ).bind fun z => (Mini.cmp p y z).map .bl else some (.bl false)
  | .nt a, ρ => (evalE cf a ρ).bind fun x => x.bl?.map fun b => .bl (!b)
  | .and a b, ρ => (evalE cf a ρ).bind fun x => x.bl?.bind fun k => if k then (evalE cf b ρ).bind fun y => y.bl?.map .bl else some (.bl false)
  | .or a b, ρ => (evalE cf a ρ).bind fun x => x.bl?.bind fun k => if k then some (.bl true) else (evalE cf b ρ).bind fun y => y.bl?.map .bl
  | .ite c a b, ρ => (evalE cf c ρ).bind fun x => x.bl?.bind fun k => if k then evalE cf a ρ else evalE cf b ρ
  | .idx a b, ρ => (evalE cf a ρ).bind fun x => (evalE cf b ρ).bind fun y => Mini.idx x y
  | .slc a lo hi, ρ => (evalE cf a ρ).bind fun x => (evalO cf lo ρ).bind fun l => (evalO cf hi ρ).bind fun h => Mini.slc l h x
  | .rev a, ρ => (evalE cf a ρ).bind revW
  | .tup es, ρ => (evalEs cf es ρ).bind fun ws => (guardLen ws).map .tup
  | .lst es, ρ => (evalEs cf es ρ).bind fun ws => (guardLen ws).map .lst
  | .dnil, _ => some (.dct [])
  | .dsing k v, ρ => (evalE cf k ρ).bind fun x => (evalE cf v ρ).bind fun y => x.key?.bind fun ks => y.int?.map fun i => .dct [(ks, i)]
  | .call f es, ρ => (evalEs cf es ρ).bind fun ws => cf f ws
  | .callb f es, ρ => (evalEs cf es ρ).bind fun ws => (cf f ws).bind fun w => if w.flat then some w else none
  | .blt f a, ρ => (evalE cf a ρ).bind (Mini.blt f)
  | .mm mx es, ρ => (evalEs cf es ρ).bind (max2 mx)
  | .isi t a, ρ => (evalE cf a ρ).bind fun x => (Mini.isi t x).map .bl
  | .count o a, ρ => (evalE cf o ρ).bind fun x => (evalE cf a ρ).bind fun y => countW y x
  | .index o a, ρ => (evalE cf o ρ).bind fun x => (evalE cf a ρ).bind fun y => indexW y x
  | .dget o k d, ρ => (evalE cf o ρ).bind fun x => (evalE cf k ρ).bind fun y => (evalE cf d ρ).bind fun z => z.int?.bind fun i => dgetW y (.int i) x
  | .lrange a, ρ => (evalE cf a ρ).bind fun x => x.int?.bind fun n => if n ≤ 1000000 then (rangeW 0 n).map .lst else none
  | .trange a, ρ => (evalE cf a ρ).bind fun x => x.int?.bind fun n => if n ≤ 1000000 then (rangeW 0 n).map .tup else none
  | .lc elt tg it c, ρ => (evalIt cf it ρ).bind fun ws =>
      (lcGo (fun w => (assign tg w (wipe ρ tg.slots)).bind fun ρ1 => (evalC cf c ρ1).bind fun k => if k then (evalE cf elt ρ1).map some else some none) ws).bind fun r => (guardLen r).map .lst
  | .lc2 elt tg it tg2 it2 c, ρ => (evalIt cf it ρ).bind fun ws =>
      (lc2Go (fun w => (assign tg w (wipe ρ (tg.slots ++ tg2.slots))).bind fun ρ1 => (evalIt cf it2 ρ1).bind fun ws2 =>
        lcGo (fun w2 => (assign tg2 w2 (wipe ρ1 tg2.slots)).bind fun ρ2 => (evalC cf c ρ2).bind fun k => if k then (evalE cf elt ρ2).map some else some none) ws2) ws).bind fun r => (guardLen r).map .lst
  | .dc k v tg it c, ρ => (evalIt cf it ρ).bind fun ws =>
      (dcGo (fun w d => (assign tg w (wipe ρ tg.slots)).bind fun ρ1 => (evalC cf c ρ1).bind fun b => if b then (evalE cf k ρ1).bind fun x => (evalE cf v ρ1).bind fun y => x.key?.bind fun ks => y.int?.bind fun i =>
        if d.length < big then some (dPut d ks i) else none else some d) ws []).map .dct
  | .dc2 k v tg it tg2 it2, ρ => (evalIt cf it ρ).bind fun ws =>
      (dcGo (fun w d => (assign tg w (wipe ρ (tg.slots ++ tg2.slots))).bind fun ρ1 => (evalIt cf it2 ρ1).bind fun ws2 =>
        dcGo (fun w2 d => (assign tg2 w2 (wipe ρ1 tg2.slots)).bind fun ρ2 => (evalE cf k ρ2).bind fun x => (evalE cf v ρ2).bind fun y => x.key?.bind fun ks => y.int?.bind fun i =>
          if d.length < big then some (dPut d ks i) else none) ws2 d) ws []).map .dct
def evalEs (cf : CF) : Es → Env → Option (List W)
  | .nil, _ => some []
  | .cons e es, ρ => (evalE cf e ρ).bind fun w => (evalEs cf es ρ).bind fun ws => some (w :: ws)
def evalO (cf : CF) : Oe → Env → Option (Option Int)
  | .no, _ => some none
  | .so e, ρ => (evalE cf e ρ).bind fun w => w.int?.map some
/-- a condition, or none -/
def evalC (cf : CF) : Oe → Env → Option Bool
  | .no, _ => some true
  | .so e, ρ => (evalE cf e ρ).bind W.bl?
def evalIt (cf : CF) : It → Env → Option (List W)
  | .seq e, ρ => (evalE cf e ρ).bind W.seq?
  | .rng a, ρ => (evalE cf a ρ).bind fun x => x.int?.bind fun n => rangeW 0 n
  | .rng2 a b, ρ => (evalE cf a ρ).bind fun x => (evalE cf b ρ).bind fun y => x.int?.bind fun m => y.int?.bind fun n => rangeW m n
  | .keys e, ρ => (evalE cf e ρ).bind fun w => w.dct?.map fun kvs => kvs.map fun kv => W.tup (kv.1.map .int)
end

/-! ### statements -/
/-- an argument: a value, or a slot whose list or dict the callee may change -/
inductive Ag where
  | val (e : E) | io (i : Nat)
inductive Dst where
  | drop | set (i : Nat) | aug (i : Nat) | addv (i : Nat) (e : E) | ret | app (i : Nat)
mutual
inductive S where
  /-- x = e -/
  | asg (i : Nat) (e : E)
  /-- x = y, y a slot of its own list: x takes it over -/
  | mov (i j : Nat)
  /-- a, b, .. = e -/
  | unp (is : List Nat) (e : E)
  /-- a, b = e1, e2 -/
  | par2 (i j : Nat) (a b : E)
  | par3 (i j l : Nat) (a b c : E)
  /-- x op= e -/
  | aug (i : Nat) (o : BO) (e : E)
  /-- xs.append(e), xs.extend(e), xs[k] = e, xs[k] op= e, del xs[k], xs.pop() -/
  | app (i : Nat) (e : E)
  | ext (i : Nat) (e : E)
  | set (i : Nat) (k e : E)
  | augx (i : Nat) (k : E) (o : BO) (e : E)
  | del (i : Nat) (k : E)
  /-- xs[k].append(e), xs a list of lists of its own -/
  | app2 (i : Nat) (k e : E)
  | pop (i : Nat)
  /-- xs[a], xs[b] = e1, e2 -/
  | set2 (i : Nat) (a b e1 e2 : E)
  /-- x = x + (l.pop(k),), l.append(e + o[l2.pop(k)]) -/
  | popCat (i l : Nat) (k : E)
  | popApp (i : Nat) (a o : E) (l : Nat) (k : E)
  | cal (d : Dst) (f : Nat) (as : List Ag)
  /-- return e if c else f(..) -/
  | retIf (c e : E) (f : Nat) (as : List Ag)
  | ret (e : E)
  /-- return x, x a slot of its own list -/
  | retM (i : Nat)
  | retN
  | raise
  | ife (c : E) (a b : Ss)
  | forr (tg : Tg) (it : It) (b : Ss)
  | whl (c : E) (b : Ss)
inductive Ss where
  | nil | cons (s : S) (ss : Ss)
end
inductive Out where
  | nx | ret (w : W)
structure Fn where
  np : Nat
  n : Nat
  M : List Nat
  io : List Nat
  fresh : Bool
  body : Ss

def whileFuel : Nat := 100000
abbrev CFI := Nat → List W → Option (W × List W)
def setAt (w : W) (k v : W) : Option W :=
  match w with
  | .lst ws => k.int?.bind fun i => (ixN ws.length i).map fun j => .lst (ws.set j v)
  | .dct kvs => k.key?.bind fun ks => v.int?.bind fun i => if kvs.length < big then some (.dct (dPut kvs ks i)) else none
  | _ => none
def appW (w v : W) : Option W :=
  match w with
  | .lst ws => if ws.length < big then some (.lst (ws ++ [v])) else none
  | _ => none
def extW (w v : W) : Option W :=
  match w, v with
  | .lst ws, .lst vs => if ws.length + vs.length ≤ big then some (.lst (ws ++ vs)) else none
  | .lst ws, .tup vs => if ws.length + vs.length ≤ big then some (.lst (ws ++ vs)) else none
  | _, _ => none
def delW (w k : W) : Option W :=
  match w with
  | .dct kvs => k.key?.bind fun ks => if (dGet kvs ks).isSome then some (.dct (dDel kvs ks)) else none
  | _ => none
/-- l.pop(i): the item, the rest -/
def popAt (w k : W) : Option (W × W) :=
  match w with
  | .lst ws => k.int?.bind fun i => if -(2 ^ 63) ≤ i && i < 2 ^ 63 then (ixN ws.length i).bind fun j => ws[j]?.map fun x => (x, .lst (ws.eraseIdx j)) else none
  | _ => none
def whlGo (test : Env → Option Bool) (step : Env → Option (Env × Out)) : Nat → Env → Option (Env × Out)
  | 0, _ => none
  | n + 1, ρ => (test ρ).bind fun k => if k then (step ρ).bind fun r => match r with
      | (ρ', .nx) => whlGo test step n ρ'
      | (ρ', .ret w) => some (ρ', .ret w)
    else some (ρ, .nx)
def forGo (step : W → Env → Option (Env × Out)) : List W → Env → Option (Env × Out)
  | [], ρ => some (ρ, .nx)
  | w :: ws, ρ => (step w ρ).bind fun r => match r with
      | (ρ', .nx) => forGo step ws ρ'
      | (ρ', .ret w) => some (ρ', .ret w)
def evalAs (cf : CF) : List Ag → Env → Option (List W)
  | [], _ => some []
  | .val e :: as, ρ => (evalE cf e ρ).bind fun w => (evalAs cf as ρ).bind fun ws => some (w :: ws)
  | .io i :: as, ρ => (getv ρ i).bind fun w => (evalAs cf as ρ).bind fun ws => some (w :: ws)
/-- what the callee has made of the handed slots; io: the places (of the parameters) that it may change -/
def backAs : List Ag → Nat → List Nat → List W → Env → Env
  | _, _, [], _, ρ => ρ
  | _, _, _, [], ρ => ρ
  | as, n, p :: io, w :: ws, ρ => backAs as n io ws (match as[p]? with
      | some (.io i) => ρ.set i (some w)
      | _ => ρ)
def purely (T : List Fn) (cf : CFI) : CF := fun f ws => (T[f]?).bind fun d => if d.io.isEmpty then (cf f ws).map (·.1) else none
section
variable (T : List Fn) (cf : CFI)
def callS (f : Nat) (as : List Ag) (ρ : Env) : Option (Env × W) :=
  (T[f]?).bind fun d => (evalAs (purely T cf) as ρ).bind fun ws => (cf f ws).map fun r => (backAs as 0 d.io r.2 ρ, r.1)
mutual
def exec : S → Env → Option (Env × Out)
  | .asg i e, ρ => (evalE (purely T cf) e ρ).map fun w => (ρ.set i (some w), .nx)
  | .mov i j, ρ => (getv ρ j).map fun w => ((ρ.set j none).set i (some w), .nx)
  | .unp is e, ρ => (evalE (purely T cf) e ρ).bind fun w => (assign (.many is) w ρ).map fun ρ' => (ρ', .nx)
  | .par2 i j a b, ρ => (evalE (purely T cf) a ρ).bind fun x => (evalE (purely T cf) b ρ).map fun y => ((ρ.set i (some x)).set j (some y), .nx)
  | .par3 i j l a b c, ρ => (evalE (purely T cf) a ρ).bind fun x => (evalE (purely T cf) b ρ).bind fun y => (evalE (purely T cf) c ρ).map fun z => (((ρ.set i (some x)).set j (some y)).set l (some z), .nx)
  | .aug i o e, ρ => (getv ρ i).bind fun x => (evalE (purely T cf) e ρ).bind fun y => x.int?.bind fun a => y.int?.bind fun b => (binI o a b).map fun z => (ρ.set i (some (.int z)), .nx)
  | .app i e, ρ => (getv ρ i).bind fun x => (evalE (purely T cf) e ρ).bind fun y => (appW x y).map fun z => (ρ.set i (some z), .nx)
  | .ext i e, ρ => (getv ρ i).bind fun x => (evalE (purely T cf) e ρ).bind fun y => (extW x y).map fun z => (ρ.set i (some z), .nx)
  | .set i k e, ρ => (evalE (purely T cf) e ρ).bind fun y => (getv ρ i).bind fun x => (evalE (purely T cf) k ρ).bind fun kw => (setAt x kw y).map fun z => (ρ.set i (some z), .nx)
  | .augx i k o e, ρ => (getv ρ i).bind fun x => (evalE (purely T cf) k ρ).bind fun kw => (Mini.idx x kw).bind fun old => (evalE (purely T cf) e ρ).bind fun y => old.int?.bind fun a => y.int?.bind fun b =>
      (binI o a b).bind fun z => (setAt x kw (.int z)).map fun z => (ρ.set i (some z), .nx)
  | .del i k, ρ => (getv ρ i).bind fun x => (evalE (purely T cf) k ρ).bind fun kw => (delW x kw).map fun z => (ρ.set i (some z), .nx)
  | .app2 i k e, ρ => (getv ρ i).bind fun x => (evalE (purely T cf) k ρ).bind fun kw => (Mini.idx x kw).bind fun l => (evalE (purely T cf) e ρ).bind fun y => (appW l y).bind fun z => (setAt x kw z).map fun x' => (ρ.set i (some x'), .nx)
  | .pop i, ρ => (getv ρ i).bind fun x => x.lst?.bind fun ws => if ws.isEmpty then none else some (ρ.set i (some (.lst ws.dropLast)), .nx)
  | .set2 i a b e1 e2, ρ => (evalE (purely T cf) e1 ρ).bind fun y1 => (evalE (purely T cf) e2 ρ).bind fun y2 => (getv ρ i).bind fun x => (evalE (purely T cf) a ρ).bind fun k1 => (setAt x k1 y1).bind fun x1 =>
      (evalE (purely T cf) b ρ).bind fun k2 => (setAt x1 k2 y2).map fun x2 => (ρ.set i (some x2), .nx)
  | .popCat i l k, ρ => (getv ρ i).bind fun x => (getv ρ l).bind fun w => (evalE (purely T cf) k ρ).bind fun kw => (popAt w kw).bind fun r => (Mini.bin .add x (.tup [r.1])).map fun z => ((ρ.set l (some r.2)).set i (some z), .nx)
  | .popApp i a o l k, ρ => (getv ρ i).bind fun x => (evalE (purely T cf) a ρ).bind fun y => (evalE (purely T cf) o ρ).bind fun z => (getv ρ l).bind fun w => (evalE (purely T cf) k ρ).bind fun kw => (popAt w kw).bind fun r =>
      (Mini.idx z r.1).bind fun t => (Mini.bin .add y t).bind fun u => (appW x u).map fun x' => ((ρ.set l (some r.2)).set i (some x'), .nx)
  | .cal d f as, ρ => match d with
    | .drop => (callS T cf f as ρ).map fun r => (r.1, .nx)
    | .set i => (callS T cf f as ρ).map fun r => (r.1.set i (some r.2), .nx)
    | .aug i => (getv ρ i).bind fun x => x.int?.bind fun a => (callS T cf f as ρ).bind fun r => r.2.int?.map fun b => (r.1.set i (some (.int (a + b))), .nx)
    | .addv i e => (evalE (purely T cf) e ρ).bind fun x => x.int?.bind fun a => (callS T cf f as ρ).bind fun r => r.2.int?.map fun b => (r.1.set i (some (.int (a + b))), .nx)
    | .ret => (callS T cf f as ρ).map fun r => (r.1, .ret r.2)
    | .app i => (callS T cf f as ρ).bind fun r => (getv r.1 i).bind fun x => (appW x r.2).map fun z => (r.1.set i (some z), .nx)
  | .retIf c e f as, ρ => (evalE (purely T cf) c ρ).bind fun x => x.bl?.bind fun k => if k then (evalE (purely T cf) e ρ).map fun w => (ρ, .ret w) else (callS T cf f as ρ).map fun r => (r.1, .ret r.2)
  | .ret e, ρ => (evalE (purely T cf) e ρ).map fun w => (ρ, .ret w)
  | .retM i, ρ => (getv ρ i).map fun w => (ρ, .ret w)
  | .retN, ρ => some (ρ, .ret .non)
  | .raise, _ => none
  | .ife c a b, ρ => (evalE (purely T cf) c ρ).bind fun x => x.bl?.bind fun k => if k then execs a ρ else execs b ρ
  | .forr tg it b, ρ => (evalIt (purely T cf) it ρ).bind fun ws => forGo (fun w ρ => (assign tg w ρ).bind fun ρ' => execs b ρ') ws ρ
  | .whl c b, ρ => whlGo (fun ρ => (evalE (purely T cf) c ρ).bind W.bl?) (fun ρ => execs b ρ) whileFuel ρ
def execs : Ss → Env → Option (Env × Out)
  | .nil, ρ => some (ρ, .nx)
  | .cons s ss, ρ => (exec s ρ).bind fun r => match r with
    | (ρ', .nx) => execs ss ρ'
    | (ρ', .ret w) => some (ρ', .ret w)
end
end
/-- the last values of the parameters that it may change -/
def outs (ρ : Env) : List Nat → Option (List W)
  | [] => some []
  | i :: is => (getv ρ i).bind fun w => match w with
    | .lst ws => (outs ρ is).map (.lst ws :: ·)
    | .dct kvs => (outs ρ is).map (.dct kvs :: ·)
    | _ => none
/-- a function's call: its value, and the last values of the parameters that it may change -/
def callF (T : List Fn) : Nat → CFI
  | 0, _, _ => none
  | k + 1, f, ws => (T[f]?).bind fun d => if ws.length = d.np then
      (execs T (callF T k) d.body (ws.map some ++ List.replicate (d.n - ws.length) none)).bind fun r => (outs r.1 d.io).map fun os => ((match r.2 with | .ret w => w | .nx => .non), os)
    else none
/-- the law's call -/
def runLaw (T : List Fn) (k f : Nat) (script : List Int) : Option W := (callF T k f [.scr script]).map (·.1)
end Mini

end

section
set_option maxRecDepth 100000
set_option maxHeartbeats 4000000
/-! SoundA: what the values of Mini are in the layer's heap; the state of a body. -/
namespace Mini
open PySem PySem.Spec PyProof.Rows L2

def dKV (kvs : List (List Int × Int)) : List (List Key × V) := kvs.map fun p => (p.1.map Sum.inl, V.int p.2)

mutual
/-- v is the value w in the heap H; its lists and dicts stand where S allows -/
def Rep (K : PySem.W.Frag) (S : Addr → Prop) (H : Hp) : W → V → Prop
  | .non, v => v = .non
  | .bl b, v => v = .bl b
  | .int i, v => v = .int i
  | .str x, v => v = .str x
  | .tup ws, v => ∃ a vs, v = .ref a ∧ H a = some (.tup vs) ∧ Reps K S H ws vs
  | .lst ws, v => ∃ a vs, v = .ref a ∧ S a ∧ H a = some (.lst vs) ∧ Reps K S H ws vs
  | .dct kvs, v => ∃ a, v = .ref a ∧ S a ∧ Rd H a (.dT (dKV kvs))
  | .scr ns, v => ∃ a, v = .ref a ∧ ((∃ o, H a = some (.frz o (.lst (ns.map V.int)))) ∨ SqL K (fun _ => none) a (ns.map V.int))
def Reps (K : PySem.W.Frag) (S : Addr → Prop) (H : Hp) : List W → List V → Prop
  | [], vs => vs = []
  | w :: ws, vs => ∃ v r, vs = v :: r ∧ Rep K S H w v ∧ Reps K S H ws r
end

/-- what is kept: all but the lists and dicts at M -/
def Kp (M : Addr → Prop) (H H' : Hp) : Prop := ∀ b o, H b = some o → (¬ M b ∨ ((∀ xs, o ≠ .lst xs) ∧ ∀ kvs, o ≠ .dT kvs)) → H' b = some o
theorem Kp.of_same {M : Addr → Prop} {H H' : Hp} (h : Same H H') : Kp M H H' := fun b o e _ => h b o e
theorem Kp.tup {M : Addr → Prop} {H H' : Hp} (h : Kp M H H') {K : PySem.W.Frag} {a : Addr} {xs : List V} (q : SqT K H a xs) : SqT K H' a xs := by
  rcases q with (q | ⟨o, q⟩) | q
  · exact .inl (.inl (h _ _ q (.inr ⟨(fun _ z => nomatch z), (fun _ z => nomatch z)⟩)))
  · exact .inl (.inr ⟨o, h _ _ q (.inr ⟨(fun _ z => nomatch z), (fun _ z => nomatch z)⟩)⟩)
  · exact .inr q
theorem Kp.frz {M : Addr → Prop} {H H' : Hp} (h : Kp M H H') {a : Addr} {o : Obj} {u : HO} (q : H a = some (.frz o u)) : H' a = some (.frz o u) :=
  h _ _ q (.inr ⟨(fun _ z => nomatch z), (fun _ z => nomatch z)⟩)
theorem Kp.lst {M : Addr → Prop} {H H' : Hp} (h : Kp M H H') {a : Addr} {u : HO} (n : ¬ M a) (q : H a = some u) : H' a = some u := h _ _ q (.inl n)
theorem Kp.rd {M : Addr → Prop} {H H' : Hp} (h : Kp M H H') {a : Addr} {u : HO} (n : ¬ M a) (q : Rd H a u) : Rd H' a u := by
  rcases q with q | ⟨o, q⟩
  · exact .inl (h.lst n q)
  · exact .inr ⟨o, h.frz q⟩
theorem Kp.trans {M : Addr → Prop} {H H1 H2 : Hp} (a : Kp M H H1) (b : Kp M H1 H2) : Kp M H H2 := fun c o e q => b c o (a c o e q) q

/-- what a value's description leans on -/
structure Kr (S : Addr → Prop) (H H' : Hp) : Prop where
  t : ∀ a xs, H a = some (.tup xs) → H' a = some (.tup xs)
  l : ∀ a xs, S a → H a = some (.lst xs) → H' a = some (.lst xs)
  d : ∀ a kvs, S a → Rd H a (.dT kvs) → Rd H' a (.dT kvs)
  f : ∀ a o xs, H a = some (.frz o (.lst xs)) → H' a = some (.frz o (.lst xs))
theorem Kr.of {S M : Addr → Prop} {H H' : Hp} (h : Kp M H H') (hM : ∀ b, S b → ¬ M b) : Kr S H H' where
  t := fun a xs q => h _ _ q (.inr ⟨(fun _ z => nomatch z), (fun _ z => nomatch z)⟩)
  l := fun a xs s q => h.lst (hM _ s) q
  d := fun a kvs s q => h.rd (hM _ s) q
  f := fun a o xs q => h.frz q
mutual
theorem Rep.kr {K : PySem.W.Frag} {S S' : Addr → Prop} {H H' : Hp} (h : Kr S H H') (hS : ∀ b u, S b → H b = some u → S' b) : ∀ (w : W) (v : V), Rep K S H w v → Rep K S' H' w v
  | .non, _, e => by simpa only [Rep] using e
  | .bl _, _, e => by simpa only [Rep] using e
  | .int _, _, e => by simpa only [Rep] using e
  | .str _, _, e => by simpa only [Rep] using e
  | .tup ws, v, e => by
    simp only [Rep] at e ⊢
    obtain ⟨a, vs, rfl, q, r⟩ := e
    exact ⟨a, vs, rfl, h.t _ _ q, Reps.kr h hS ws vs r⟩
  | .lst ws, v, e => by
    simp only [Rep] at e ⊢
    obtain ⟨a, vs, rfl, s, q, r⟩ := e
    exact ⟨a, vs, rfl, hS _ _ s q, h.l _ _ s q, Reps.kr h hS ws vs r⟩
  | .dct kvs, v, e => by
    simp only [Rep] at e ⊢
    obtain ⟨a, rfl, s, q⟩ := e
    exact ⟨a, rfl, q.elim (fun z => hS _ _ s z) (fun ⟨_, z⟩ => hS _ _ s z), h.d _ _ s q⟩
  | .scr ns, v, e => by
    simp only [Rep] at e ⊢
    obtain ⟨a, rfl, q⟩ := e
    refine ⟨a, rfl, ?_⟩
    rcases q with ⟨o, q⟩ | q
    · exact .inl ⟨o, h.f _ _ _ q⟩
    · exact .inr q
theorem Reps.kr {K : PySem.W.Frag} {S S' : Addr → Prop} {H H' : Hp} (h : Kr S H H') (hS : ∀ b u, S b → H b = some u → S' b) : ∀ (ws : List W) (vs : List V), Reps K S H ws vs → Reps K S' H' ws vs
  | [], vs, e => by simpa only [Reps] using e
  | w :: ws, vs, e => by
    simp only [Reps] at e ⊢
    obtain ⟨v, r, rfl, e1, e2⟩ := e
    exact ⟨v, r, rfl, Rep.kr h hS w v e1, Reps.kr h hS ws r e2⟩
end
theorem Rep.mono {K : PySem.W.Frag} {S S' M : Addr → Prop} {H H' : Hp} (h : Kp M H H') (hM : ∀ b, S b → ¬ M b) (hS : ∀ b u, S b → H b = some u → S' b) (w : W) (v : V) : Rep K S H w v → Rep K S' H' w v := Rep.kr (.of h hM) hS w v
theorem Reps.mono {K : PySem.W.Frag} {S S' M : Addr → Prop} {H H' : Hp} (h : Kp M H H') (hM : ∀ b, S b → ¬ M b) (hS : ∀ b u, S b → H b = some u → S' b) (w : List W) (v : List V) : Reps K S H w v → Reps K S' H' w v := Reps.kr (.of h hM) hS w v

theorem Rep.same {K : PySem.W.Frag} {S S' : Addr → Prop} {H H' : Hp} (h : Same H H') (hS : ∀ b u, S b → H b = some u → S' b) {w : W} {v : V} (r : Rep K S H w v) : Rep K S' H' w v :=
  Rep.mono (M := fun _ => False) (Kp.of_same h) (fun _ _ z => z) hS w v r
theorem Reps.same {K : PySem.W.Frag} {S S' : Addr → Prop} {H H' : Hp} (h : Same H H') (hS : ∀ b u, S b → H b = some u → S' b) {ws : List W} {vs : List V} (r : Reps K S H ws vs) : Reps K S' H' ws vs :=
  Reps.mono (M := fun _ => False) (Kp.of_same h) (fun _ _ z => z) hS ws vs r
theorem Rep.weak {K : PySem.W.Frag} {S S' : Addr → Prop} {H : Hp} (hS : ∀ b u, S b → H b = some u → S' b) {w : W} {v : V} (r : Rep K S H w v) : Rep K S' H w v := r.same (Same.refl H) hS
theorem Reps.weak {K : PySem.W.Frag} {S S' : Addr → Prop} {H : Hp} (hS : ∀ b u, S b → H b = some u → S' b) {w : List W} {v : List V} (r : Reps K S H w v) : Reps K S' H w v := r.same (Same.refl H) hS
section
variable {K : PySem.W.Frag} {S : Addr → Prop} {H : Hp}
theorem Reps.nil : Reps K S H [] [] := by simp only [Reps]
theorem Reps.cons {w : W} {v : V} {ws : List W} {vs : List V} (h : Rep K S H w v) (t : Reps K S H ws vs) : Reps K S H (w :: ws) (v :: vs) := by
  simp only [Reps]
  exact ⟨v, vs, rfl, h, t⟩
theorem Reps.inv_nil {vs : List V} (h : Reps K S H [] vs) : vs = [] := by simpa only [Reps] using h
theorem Reps.inv_cons {w : W} {ws : List W} {vs : List V} (h : Reps K S H (w :: ws) vs) : ∃ v r, vs = v :: r ∧ Rep K S H w v ∧ Reps K S H ws r := by simpa only [Reps] using h
theorem Reps.len : ∀ {ws : List W} {vs : List V}, Reps K S H ws vs → vs.length = ws.length
  | [], _, h => by rw [h.inv_nil]; rfl
  | _ :: _, _, h => by
    obtain ⟨v, r, rfl, _, h2⟩ := h.inv_cons
    rw [List.length_cons, List.length_cons, h2.len]
theorem Reps.get : ∀ {ws : List W} {vs : List V} {j : Nat} {w : W}, Reps K S H ws vs → ws[j]? = some w → ∃ v, vs[j]? = some v ∧ Rep K S H w v
  | [], _, _, _, _, e => by simp at e
  | w0 :: _, _, 0, w, h, e => by
    obtain ⟨v, r, rfl, h1, _⟩ := h.inv_cons
    have e' : w0 = w := by simpa using e
    subst e'
    exact ⟨v, rfl, h1⟩
  | _ :: _, _, j + 1, w, h, e => by
    obtain ⟨v, r, rfl, _, h2⟩ := h.inv_cons
    obtain ⟨v', e1, e2⟩ := h2.get (j := j) (w := w) (by simpa using e)
    exact ⟨v', by simpa using e1, e2⟩
theorem Reps.get' {ws : List W} {vs : List V} {j : Nat} {v : V} (h : Reps K S H ws vs) (e : vs[j]? = some v) : ∃ w, ws[j]? = some w ∧ Rep K S H w v := by
  have hj : j < ws.length := by
    rw [← h.len]
    exact (List.getElem?_eq_some_iff.mp e).1
  obtain ⟨v', e1, r⟩ := h.get (List.getElem?_eq_getElem hj)
  rw [e] at e1
  cases e1
  exact ⟨_, List.getElem?_eq_getElem hj, r⟩
theorem Reps.append : ∀ {ws : List W} {vs : List V} {ws' : List W} {vs' : List V}, Reps K S H ws vs → Reps K S H ws' vs' → Reps K S H (ws ++ ws') (vs ++ vs')
  | [], _, _, _, h, h' => by rw [h.inv_nil]; exact h'
  | _ :: _, _, _, _, h, h' => by
    obtain ⟨v, r, rfl, h1, h2⟩ := h.inv_cons
    exact .cons h1 (h2.append h')
theorem Reps.take : ∀ {ws : List W} {vs : List V} (n : Nat), Reps K S H ws vs → Reps K S H (ws.take n) (vs.take n)
  | _, _, 0, _ => by rw [List.take_zero, List.take_zero]; exact .nil
  | [], _, _ + 1, h => by rw [h.inv_nil]; exact .nil
  | _ :: _, _, n + 1, h => by
    obtain ⟨v, r, rfl, h1, h2⟩ := h.inv_cons
    exact .cons h1 (h2.take n)
theorem Reps.drop : ∀ {ws : List W} {vs : List V} (n : Nat), Reps K S H ws vs → Reps K S H (ws.drop n) (vs.drop n)
  | _, _, 0, h => h
  | [], _, _ + 1, h => by rw [h.inv_nil]; exact .nil
  | _ :: _, _, n + 1, h => by
    obtain ⟨v, r, rfl, h1, h2⟩ := h.inv_cons
    exact h2.drop n
theorem Reps.reverse : ∀ {ws : List W} {vs : List V}, Reps K S H ws vs → Reps K S H ws.reverse vs.reverse
  | [], _, h => by rw [h.inv_nil]; exact .nil
  | _ :: _, _, h => by
    obtain ⟨v, r, rfl, h1, h2⟩ := h.inv_cons
    rw [List.reverse_cons, List.reverse_cons]
    exact h2.reverse.append (.cons h1 .nil)
theorem Reps.set : ∀ {ws : List W} {vs : List V} {w : W} {v : V} (n : Nat), Reps K S H ws vs → Rep K S H w v → Reps K S H (ws.set n w) (vs.set n v)
  | [], _, _, _, _, h, _ => by rw [h.inv_nil]; exact .nil
  | _ :: _, _, _, _, 0, h, h' => by
    obtain ⟨v, r, rfl, h1, h2⟩ := h.inv_cons
    exact .cons h' h2
  | _ :: _, _, _, _, n + 1, h, h' => by
    obtain ⟨v, r, rfl, h1, h2⟩ := h.inv_cons
    exact .cons h1 (h2.set n h')
theorem Reps.erase : ∀ {ws : List W} {vs : List V} (n : Nat), Reps K S H ws vs → Reps K S H (ws.eraseIdx n) (vs.eraseIdx n)
  | [], _, _, h => by rw [h.inv_nil]; exact .nil
  | _ :: _, _, 0, h => by
    obtain ⟨v, r, rfl, h1, h2⟩ := h.inv_cons
    exact h2
  | _ :: _, _, n + 1, h => by
    obtain ⟨v, r, rfl, h1, h2⟩ := h.inv_cons
    exact .cons h1 (h2.erase n)
theorem Reps.rep {ws : List W} {vs : List V} (h : Reps K S H ws vs) : ∀ k : Nat, Reps K S H (List.replicate k ws).flatten (List.replicate k vs).flatten
  | 0 => .nil
  | k + 1 => by
    rw [List.replicate_succ, List.replicate_succ, List.flatten_cons, List.flatten_cons]
    exact h.append (h.rep k)
theorem Reps.map_int (ns : List Int) : Reps K S H (ns.map .int) (ns.map V.int) := by
  induction ns with
  | nil => exact .nil
  | cons n ns ih => exact .cons (by simp only [Rep]) ih
/-- ints, bools -/
theorem ints?_eq : ∀ {ws : List W} {ns : List Int}, ints? ws = some ns → ws = ns.map .int
  | [], ns, h => by
    have e : [] = ns := Option.some.inj h
    subst e
    rfl
  | .int i :: ws, ns, h => by
    rw [ints?] at h
    obtain ⟨ms, e1, rfl⟩ := Option.map_eq_some_iff.mp h
    rw [ints?_eq e1]
    rfl
  | .non :: _, _, h => by simp [ints?] at h
  | .bl _ :: _, _, h => by simp [ints?] at h
  | .str _ :: _, _, h => by simp [ints?] at h
  | .tup _ :: _, _, h => by simp [ints?] at h
  | .lst _ :: _, _, h => by simp [ints?] at h
  | .dct _ :: _, _, h => by simp [ints?] at h
  | .scr _ :: _, _, h => by simp [ints?] at h
theorem ints?_map : ∀ ns : List Int, ints? (ns.map .int) = some ns
  | [] => rfl
  | n :: ns => by
    show (ints? (ns.map .int)).map (n :: ·) = _
    rw [ints?_map ns]
    rfl
theorem bls?_eq : ∀ {ws : List W} {bs : List Bool}, bls? ws = some bs → ws = bs.map .bl
  | [], ns, h => by
    have e : [] = ns := Option.some.inj h
    subst e
    rfl
  | .bl i :: ws, ns, h => by
    rw [bls?] at h
    obtain ⟨ms, e1, rfl⟩ := Option.map_eq_some_iff.mp h
    rw [bls?_eq e1]
    rfl
  | .non :: _, _, h => by simp [bls?] at h
  | .int _ :: _, _, h => by simp [bls?] at h
  | .str _ :: _, _, h => by simp [bls?] at h
  | .tup _ :: _, _, h => by simp [bls?] at h
  | .lst _ :: _, _, h => by simp [bls?] at h
  | .dct _ :: _, _, h => by simp [bls?] at h
  | .scr _ :: _, _, h => by simp [bls?] at h
theorem Reps.ints : ∀ {ns : List Int} {vs : List V}, Reps K S H (ns.map .int) vs → vs = ns.map V.int
  | [], _, h => h.inv_nil
  | n :: ns, _, h => by
    obtain ⟨v, r, rfl, h1, h2⟩ := h.inv_cons
    have e : v = .int n := by simpa only [Rep] using h1
    rw [e, h2.ints]
    rfl
theorem Reps.bls : ∀ {ns : List Bool} {vs : List V}, Reps K S H (ns.map .bl) vs → vs = ns.map V.bl
  | [], _, h => h.inv_nil
  | n :: ns, _, h => by
    obtain ⟨v, r, rfl, h1, h2⟩ := h.inv_cons
    have e : v = .bl n := by simpa only [Rep] using h1
    rw [e, h2.bls]
    rfl
theorem Rep.i {i : Int} {v : V} (h : Rep K S H (.int i) v) : v = .int i := by simpa only [Rep] using h
theorem Rep.b {b : Bool} {v : V} (h : Rep K S H (.bl b) v) : v = .bl b := by simpa only [Rep] using h
theorem Rep.n {v : V} (h : Rep K S H .non v) : v = .non := by simpa only [Rep] using h
theorem Rep.s {x : Str} {v : V} (h : Rep K S H (.str x) v) : v = .str x := by simpa only [Rep] using h
theorem Rep.t {ws : List W} {v : V} (h : Rep K S H (.tup ws) v) : ∃ a vs, v = .ref a ∧ H a = some (.tup vs) ∧ Reps K S H ws vs := by simpa only [Rep] using h
theorem Rep.l {ws : List W} {v : V} (h : Rep K S H (.lst ws) v) : ∃ a vs, v = .ref a ∧ S a ∧ H a = some (.lst vs) ∧ Reps K S H ws vs := by simpa only [Rep] using h
theorem Rep.d {kvs : List (List Int × Int)} {v : V} (h : Rep K S H (.dct kvs) v) : ∃ a, v = .ref a ∧ S a ∧ Rd H a (.dT (dKV kvs)) := by simpa only [Rep] using h
theorem Rep.mki (i : Int) : Rep K S H (.int i) (.int i) := by simp only [Rep]
theorem Rep.mkb (b : Bool) : Rep K S H (.bl b) (.bl b) := by simp only [Rep]
theorem Rep.mkn : Rep K S H .non .non := by simp only [Rep]
theorem Rep.mks (x : Str) : Rep K S H (.str x) (.str x) := by simp only [Rep]
theorem Rep.mkt {a : Addr} {ws : List W} {vs : List V} (h : H a = some (.tup vs)) (r : Reps K S H ws vs) : Rep K S H (.tup ws) (.ref a) := by
  simp only [Rep]
  exact ⟨a, vs, rfl, h, r⟩
theorem Rep.mkl {a : Addr} {ws : List W} {vs : List V} (s : S a) (h : H a = some (.lst vs)) (r : Reps K S H ws vs) : Rep K S H (.lst ws) (.ref a) := by
  simp only [Rep]
  exact ⟨a, vs, rfl, s, h, r⟩
theorem Rep.mkd {a : Addr} {kvs : List (List Int × Int)} (s : S a) (h : Rd H a (.dT (dKV kvs))) : Rep K S H (.dct kvs) (.ref a) := by
  simp only [Rep]
  exact ⟨a, rfl, s, h⟩
end

/-! ### the state of a body -/
structure G where
  S : Addr → Prop
  H0 : Hp
  io : List Addr
  O : List Addr
  L : List Addr
  own : Nat → Option Addr
/-- a list that nobody changes any more -/
def G.cl (g : G) (b : Addr) : Prop := (g.S b ∨ g.H0 b = none) ∧ b ∉ g.O

/-- a result by its level: 1, a list may be one of the body's own; 2, its lists stay; 3, a new list -/
def RepL (n : Nat) (K : PySem.W.Frag) (g : G) (H H' : Hp) (w : W) (v : V) : Prop :=
  match w with
  | .lst ws => ∃ a vs, v = .ref a ∧ H' a = some (.lst vs) ∧ Reps K g.cl H' ws vs ∧ (2 ≤ n → g.cl a) ∧ (3 ≤ n → H a = none ∧ Reps K (fun b => g.cl b ∧ b ≠ a) H' ws vs)
  | .dct kvs => ∃ a, v = .ref a ∧ Rd H' a (.dT (dKV kvs)) ∧ (2 ≤ n → g.cl a) ∧ (3 ≤ n → H a = none ∧ H' a = some (.dT (dKV kvs)))
  | w => Rep K g.cl H' w v
theorem RepL.le {n m : Nat} {K : PySem.W.Frag} {g : G} {H H' : Hp} {w : W} {v : V} (h : RepL n K g H H' w v) (hm : m ≤ n) : RepL m K g H H' w v := by
  cases w with
  | lst ws =>
    obtain ⟨a, vs, e, h1, h2, h3, h4⟩ := h
    exact ⟨a, vs, e, h1, h2, fun q => h3 (Nat.le_trans q hm), fun q => h4 (Nat.le_trans q hm)⟩
  | dct kvs =>
    obtain ⟨a, e, h1, h3, h4⟩ := h
    exact ⟨a, e, h1, fun q => h3 (Nat.le_trans q hm), fun q => h4 (Nat.le_trans q hm)⟩
  | _ => exact h
theorem RepL.rep {n : Nat} {K : PySem.W.Frag} {g : G} {H H' : Hp} {w : W} {v : V} (h : RepL n K g H H' w v) (hn : 2 ≤ n) : Rep K g.cl H' w v := by
  cases w with
  | lst ws =>
    obtain ⟨a, vs, rfl, h1, h2, h3, _⟩ := h
    exact .mkl (h3 hn) h1 h2
  | dct kvs =>
    obtain ⟨a, rfl, h1, h3, _⟩ := h
    exact .mkd (h3 hn) h1
  | _ => exact h
/-- a value that keeps no list at its top -/
theorem RepL.of2 {K : PySem.W.Frag} {g : G} {H H' : Hp} {w : W} {v : V} (h : Rep K g.cl H' w v) {n : Nat} (hn : n ≤ 2) : RepL n K g H H' w v := by
  cases w with
  | lst ws =>
    obtain ⟨a, vs, rfl, s, h1, h2⟩ := h.l
    exact ⟨a, vs, rfl, h1, h2, fun _ => s, fun q => by omega⟩
  | dct kvs =>
    obtain ⟨a, rfl, s, h1⟩ := h.d
    exact ⟨a, rfl, h1, fun _ => s, fun q => by omega⟩
  | _ => exact h
def W.obj : W → Bool
  | .lst _ => true
  | .dct _ => true
  | _ => false
theorem RepL.of {K : PySem.W.Frag} {g : G} {H H' : Hp} {w : W} {v : V} (h : Rep K g.cl H' w v) (ho : w.obj = false) (n : Nat) : RepL n K g H H' w v := by
  cases w with
  | lst ws => cases ho
  | dct kvs => cases ho
  | _ => exact h
theorem RepL.low {n m : Nat} {K : PySem.W.Frag} {g : G} {H H' : Hp} {w : W} {v : V} (h : RepL n K g H H' w v) (ho : w.obj = false) : RepL m K g H H' w v := by
  cases w with
  | lst ws => cases ho
  | dct kvs => cases ho
  | _ => exact h

structure StOk (K : PySem.W.Frag) (M : List Nat) (g : G) (ρ : Env) (σ : L2.St) (H : Hp) : Prop where
  keep : ∀ b o, g.H0 b = some o → b ∉ g.io → H b = some o ∨ (b ∈ g.L ∧ ∃ od, H b = some (.frz od o))
  O : ∀ b ∈ g.O, (b ∈ g.io ∨ g.H0 b = none) ∧ ((∃ xs, H b = some (.lst xs)) ∨ ∃ kvs, H b = some (.dT kvs))
  ioO : ∀ b ∈ g.io, b ∈ g.O
  len : ρ.length = σ.length
  sl : ∀ i w, getv ρ i = some w → ∃ v, σ[i]? = some (some v) ∧ RepL (if i ∈ M then 1 else 2) K g H H w v
  ow : ∀ i w, i ∈ M → getv ρ i = some w → w.obj = true → ∃ a, σ[i]? = some (some (.ref a)) ∧ g.own i = some a ∧ a ∈ g.O
  inj : ∀ i j a, g.own i = some a → g.own j = some a → i = j
  od : ∀ i a, g.own i = some a → ∃ u, H a = some u

theorem StOk.dom {K : PySem.W.Frag} {M : List Nat} {g : G} {ρ : Env} {σ : L2.St} {H : Hp} (s : StOk K M g ρ σ H) {b : Addr} (h : b ∈ g.O) : ∃ u, H b = some u := by
  rcases (s.O b h).2 with ⟨_, e⟩ | ⟨_, e⟩ <;> exact ⟨_, e⟩
/-- a new place is clean -/
theorem StOk.new {K : PySem.W.Frag} {M : List Nat} {g : G} {ρ : Env} {σ : L2.St} {H : Hp} (s : StOk K M g ρ σ H) {b : Addr} (h : H b = none) : g.cl b := by
  have nO : b ∉ g.O := fun q => by
    obtain ⟨u, e⟩ := s.dom q
    rw [h] at e
    cases e
  refine ⟨.inr ?_, nO⟩
  cases e : g.H0 b with
  | none => rfl
  | some o =>
    rcases s.keep b o e (fun q => nO (s.ioO b q)) with q | ⟨_, _, q⟩ <;> rw [h] at q <;> cases q
theorem RepL.same {n : Nat} {K : PySem.W.Frag} {g : G} {H0 H H' : Hp} {w : W} {v : V} (h : Same H H') (r : RepL n K g H0 H w v) : RepL n K g H0 H' w v := by
  cases w with
  | lst ws =>
    obtain ⟨a, vs, e, h1, h2, h3, h4⟩ := r
    exact ⟨a, vs, e, h _ _ h1, h2.same h fun _ _ z _ => z, h3, fun q => ⟨(h4 q).1, (h4 q).2.same h fun _ _ z _ => z⟩⟩
  | dct kvs =>
    obtain ⟨a, e, h1, h3, h4⟩ := r
    exact ⟨a, e, (Kp.of_same (M := fun _ => False) h).rd (fun z => z) h1, h3, fun q => ⟨(h4 q).1, h _ _ (h4 q).2⟩⟩
  | _ => exact Rep.same h (fun _ _ z _ => z) r
/-- only the old heap of a level up to 2 may be told otherwise -/
theorem RepL.base {n : Nat} {K : PySem.W.Frag} {g : G} {H0 H0' H : Hp} {w : W} {v : V} (r : RepL n K g H0 H w v) (hn : n ≤ 2) : RepL n K g H0' H w v := by
  cases w with
  | lst ws =>
    obtain ⟨a, vs, e, h1, h2, h3, h4⟩ := r
    exact ⟨a, vs, e, h1, h2, h3, fun q => by omega⟩
  | dct kvs =>
    obtain ⟨a, e, h1, h3, h4⟩ := r
    exact ⟨a, e, h1, h3, fun q => by omega⟩
  | _ => exact r
/-- a level 3 from a later heap -/
theorem RepL.back {n : Nat} {K : PySem.W.Frag} {g : G} {H0 H1 H : Hp} {w : W} {v : V} (s : Same H0 H1) (r : RepL n K g H1 H w v) : RepL n K g H0 H w v := by
  cases w with
  | lst ws =>
    obtain ⟨a, vs, e, h1, h2, h3, h4⟩ := r
    exact ⟨a, vs, e, h1, h2, h3, fun q => ⟨s.free (h4 q).1, (h4 q).2⟩⟩
  | dct kvs =>
    obtain ⟨a, e, h1, h3, h4⟩ := r
    exact ⟨a, e, h1, h3, fun q => ⟨s.free (h4 q).1, (h4 q).2⟩⟩
  | _ => exact r
theorem mode_le (i : Nat) (M : List Nat) : (if i ∈ M then 1 else 2) ≤ 2 := by split <;> omega
theorem StOk.same {K : PySem.W.Frag} {M : List Nat} {g : G} {ρ : Env} {σ : L2.St} {H H' : Hp} (s : StOk K M g ρ σ H) (h : Same H H') : StOk K M g ρ σ H' where
  keep := fun b o e n => by
    rcases s.keep b o e n with q | ⟨l, od, q⟩
    · exact .inl (h _ _ q)
    · exact .inr ⟨l, od, h _ _ q⟩
  O := fun b q => ⟨(s.O b q).1, by
    rcases (s.O b q).2 with ⟨_, e⟩ | ⟨_, e⟩
    · exact .inl ⟨_, h _ _ e⟩
    · exact .inr ⟨_, h _ _ e⟩⟩
  ioO := s.ioO
  len := s.len
  sl := fun i w e => by
    obtain ⟨v, e1, r⟩ := s.sl i w e
    exact ⟨v, e1, (r.same h).base (mode_le i M)⟩
  ow := s.ow
  inj := s.inj
  od := fun i a e => let ⟨u, z⟩ := s.od i a e; ⟨u, h _ _ z⟩
theorem getv_set {ρ : Env} {i j : Nat} {w : W} : getv (ρ.set i (some w)) j = if i = j then (if j < ρ.length then some w else none) else getv ρ j := by
  unfold getv
  by_cases h : i = j
  · subst h
    rw [if_pos rfl]
    by_cases hl : i < ρ.length
    · rw [if_pos hl, List.getElem?_set_self hl]
      rfl
    · rw [if_neg hl, List.getElem?_eq_none (by rw [List.length_set]; omega)]
      rfl
  · rw [if_neg h, List.getElem?_set_ne h]
theorem getv_setN {ρ : Env} {i j : Nat} : getv (ρ.set i none) j = if i = j then none else getv ρ j := by
  unfold getv
  by_cases h : i = j
  · subst h
    rw [if_pos rfl]
    by_cases hl : i < ρ.length
    · rw [List.getElem?_set_self hl]
      rfl
    · rw [List.getElem?_eq_none (by rw [List.length_set]; omega)]
      rfl
  · rw [if_neg h, List.getElem?_set_ne h]
/-- a clean value is stored -/
theorem StOk.set {K : PySem.W.Frag} {M : List Nat} {g : G} {ρ : Env} {σ : L2.St} {H : Hp} (s : StOk K M g ρ σ H) {i : Nat} {w : W} {v : V} (hi : i ∉ M) (r : Rep K g.cl H w v) : StOk K M g (ρ.set i (some w)) (σ.set i (some v)) H where
  keep := s.keep
  O := s.O
  ioO := s.ioO
  len := by rw [List.length_set, List.length_set, s.len]
  sl := fun j w' e => by
    rw [getv_set] at e
    by_cases h : i = j
    · subst h
      rw [if_pos rfl] at e
      split at e
      · rename_i hl
        cases e
        rw [List.getElem?_set_self (by rw [← s.len]; exact hl), if_neg hi]
        exact ⟨v, rfl, .of2 r (Nat.le_refl _)⟩
      · cases e
    · rw [if_neg h] at e
      rw [List.getElem?_set_ne h]
      exact s.sl j w' e
  ow := fun j w' hj e ho => by
    have h : i ≠ j := fun z => hi (z ▸ hj)
    rw [getv_set, if_neg h] at e
    rw [List.getElem?_set_ne h]
    exact s.ow j w' hj e ho
  inj := s.inj
  od := s.od
section
variable {lv : Nat} {K : PySem.W.Frag} {g : G} {H0 H : Hp} {v : V}
theorem RepL.i {i : Int} (h : RepL lv K g H0 H (.int i) v) : v = .int i := Rep.i (K := K) (S := g.cl) (H := H) h
theorem RepL.b {i : Bool} (h : RepL lv K g H0 H (.bl i) v) : v = .bl i := Rep.b (K := K) (S := g.cl) (H := H) h
theorem RepL.n (h : RepL lv K g H0 H .non v) : v = .non := Rep.n (K := K) (S := g.cl) (H := H) h
theorem RepL.s {x : Str} (h : RepL lv K g H0 H (.str x) v) : v = .str x := Rep.s (K := K) (S := g.cl) (H := H) h
theorem RepL.t {ws : List W} (h : RepL lv K g H0 H (.tup ws) v) : ∃ a vs, v = .ref a ∧ H a = some (.tup vs) ∧ Reps K g.cl H ws vs := Rep.t (K := K) (S := g.cl) (H := H) h
theorem RepL.l {ws : List W} (h : RepL lv K g H0 H (.lst ws) v) : ∃ a vs, v = .ref a ∧ H a = some (.lst vs) ∧ Reps K g.cl H ws vs ∧ (2 ≤ lv → g.cl a) ∧ (3 ≤ lv → H0 a = none ∧ Reps K (fun b => g.cl b ∧ b ≠ a) H ws vs) := h
theorem RepL.d {kvs : List (List Int × Int)} (h : RepL lv K g H0 H (.dct kvs) v) : ∃ a, v = .ref a ∧ Rd H a (.dT (dKV kvs)) ∧ (2 ≤ lv → g.cl a) ∧ (3 ≤ lv → H0 a = none ∧ H a = some (.dT (dKV kvs))) := h
theorem RepL.c {ns : List Int} (h : RepL lv K g H0 H (.scr ns) v) : ∃ a, v = .ref a ∧ SqL K H a (ns.map V.int) := by
  have h : Rep K g.cl H (.scr ns) v := h
  simp only [Rep] at h
  obtain ⟨a, e, q⟩ := h
  refine ⟨a, e, ?_⟩
  rcases q with ⟨o, q⟩ | q
  · exact .inl (.inr ⟨o, q⟩)
  · rcases q with (q | ⟨o, q⟩) | q
    · cases q
    · cases q
    · exact .inr q
theorem RepL.mki (i : Int) : RepL lv K g H0 H (.int i) (.int i) := Rep.mki (K := K) (S := g.cl) (H := H) i
theorem RepL.mkb (i : Bool) : RepL lv K g H0 H (.bl i) (.bl i) := Rep.mkb (K := K) (S := g.cl) (H := H) i
theorem RepL.mkn : RepL lv K g H0 H .non .non := Rep.mkn (K := K) (S := g.cl) (H := H)
theorem RepL.mks (x : Str) : RepL lv K g H0 H (.str x) (.str x) := Rep.mks (K := K) (S := g.cl) (H := H) x
theorem RepL.mkt {a : Addr} {ws : List W} {vs : List V} (h : H a = some (.tup vs)) (r : Reps K g.cl H ws vs) : RepL lv K g H0 H (.tup ws) (.ref a) := Rep.mkt (K := K) (S := g.cl) (H := H) h r
end
end Mini

end

section
set_option maxRecDepth 100000
set_option maxHeartbeats 4000000
/-! SoundB: operators and comparisons. -/
namespace Mini
open PySem PySem.Spec PyProof.Rows L2

/-! ### W as the library's plain data -/
mutual
def W.py : W → PyData
  | .non => .none
  | .bl b => .bool b
  | .int i => .int i
  | .str x => .str x
  | .tup ws => .tuple (W.pys ws)
  | .lst ws => .list (W.pys ws)
  | .dct _ => .dict []
  | .scr _ => .dict []
def W.pys : List W → List PyData
  | [] => []
  | w :: ws => w.py :: W.pys ws
end
mutual
theorem W.eqv_py : ∀ x y : W, (∃ n, x.sh n = true) → (∃ n, y.sh n = true) → PyData.eqv x.py y.py = W.eqv x y
  | .non, y, _, _ => by cases y <;> simp [W.py, PyData.eqv, W.eqv]
  | .bl b, y, _, _ => by cases y <;> simp [W.py, PyData.eqv, W.eqv]
  | .int b, y, _, _ => by cases y <;> simp [W.py, PyData.eqv, W.eqv]
  | .str b, y, _, _ => by
    cases y with
    | str c =>
      simp only [W.py, PyData.eqv, W.eqv]
      exact Bool.beq_eq_decide_eq b c
    | _ => simp [W.py, PyData.eqv, W.eqv]
  | .tup xs, y, h, h' => by
    cases y with
    | tup ys =>
      simp only [W.py, PyData.eqv, W.eqv]
      obtain ⟨n, h⟩ := h
      obtain ⟨m, h'⟩ := h'
      refine W.eqvs_py xs ys ?_ ?_
      · cases n with
        | zero => cases h
        | succ n => exact ⟨n, h⟩
      · cases m with
        | zero => cases h'
        | succ m => exact ⟨m, h'⟩
    | _ => simp [W.py, PyData.eqv, W.eqv]
  | .lst xs, y, h, h' => by
    cases y with
    | lst ys =>
      simp only [W.py, PyData.eqv, W.eqv]
      obtain ⟨n, h⟩ := h
      obtain ⟨m, h'⟩ := h'
      refine W.eqvs_py xs ys ?_ ?_
      · cases n with
        | zero => cases h
        | succ n => exact ⟨n, h⟩
      · cases m with
        | zero => cases h'
        | succ m => exact ⟨m, h'⟩
    | _ => simp [W.py, PyData.eqv, W.eqv]
  | .dct _, y, ⟨n, h⟩, _ => by cases n <;> cases h
  | .scr _, y, ⟨n, h⟩, _ => by cases n <;> cases h
theorem W.eqvs_py : ∀ xs ys : List W, (∃ n, W.shs n xs = true) → (∃ n, W.shs n ys = true) → PyData.eqvAll (W.pys xs) (W.pys ys) = W.eqvs xs ys
  | [], [], _, _ => by simp [W.pys, PyData.eqvAll, W.eqvs]
  | [], _ :: _, _, _ => by simp [W.pys, PyData.eqvAll, W.eqvs]
  | _ :: _, [], _, _ => by simp [W.pys, PyData.eqvAll, W.eqvs]
  | x :: xs, y :: ys, ⟨n, h⟩, ⟨m, h'⟩ => by
    simp only [W.shs, Bool.and_eq_true] at h h'
    simp only [W.pys, PyData.eqvAll, W.eqvs]
    rw [W.eqv_py x y ⟨n, h.1⟩ ⟨m, h'.1⟩, W.eqvs_py xs ys ⟨n, h.2⟩ ⟨m, h'.2⟩]
end
mutual
theorem W.lay_py : ∀ (n : Nat) (x : W), x.sh n = true → x.py.canLay0 = true ∧ x.py.depth ≤ n
  | n, .non, _ => by simp [W.py, PyData.canLay0, PyData.depth]
  | n, .bl _, _ => by simp [W.py, PyData.canLay0, PyData.depth]
  | n, .int _, _ => by simp [W.py, PyData.canLay0, PyData.depth]
  | n, .str x, h => by
    have h : (x.cps.all (· < 0x110000)) = true := by cases n <;> exact h
    simp only [W.py, PyData.canLay0, PyData.depth]
    exact ⟨h, Nat.zero_le _⟩
  | 0, .tup _, h => by cases h
  | 0, .lst _, h => by cases h
  | n + 1, .tup ws, h => by
    have h : W.shs n ws = true := h
    obtain ⟨h1, h2⟩ := W.lays_py n ws h
    simp only [W.py, PyData.canLay0, PyData.depth]
    exact ⟨h1, by omega⟩
  | n + 1, .lst ws, h => by
    have h : W.shs n ws = true := h
    obtain ⟨h1, h2⟩ := W.lays_py n ws h
    simp only [W.py, PyData.canLay0, PyData.depth]
    exact ⟨h1, by omega⟩
  | n, .dct _, h => by cases n <;> cases h
  | n, .scr _, h => by cases n <;> cases h
theorem W.lays_py : ∀ (n : Nat) (xs : List W), W.shs n xs = true → PyData.canLayAll0 (W.pys xs) = true ∧ PyData.depthAll (W.pys xs) ≤ n
  | _, [], _ => by simp [W.pys, PyData.canLayAll0, PyData.depthAll]
  | n, x :: xs, h => by
    simp only [W.shs, Bool.and_eq_true] at h
    obtain ⟨h1, h2⟩ := W.lay_py n x h.1
    obtain ⟨h3, h4⟩ := W.lays_py n xs h.2
    simp only [W.pys, PyData.canLayAll0, PyData.depthAll, h1, h3, Bool.and_self, true_and]
    omega
end
theorem W.shaped {x : W} (h : x.sh 60 = true) : SeqAt.shaped x.py = true := by
  obtain ⟨h1, h2⟩ := W.lay_py 60 x h
  unfold SeqAt.shaped
  rw [h1, decide_eq_true (by omega)]
  rfl
theorem W.shapeds {xs : List W} (h : W.shs 60 xs = true) : SeqAt.shaped (.list (W.pys xs)) = true ∧ SeqAt.shaped (.tuple (W.pys xs)) = true := by
  obtain ⟨h1, h2⟩ := W.lays_py 60 xs h
  unfold SeqAt.shaped
  simp only [PyData.canLay0, PyData.depth, h1, Bool.true_and]
  have h3 : decide (PyData.depthAll (W.pys xs) + 1 ≤ 64) = true := decide_eq_true (by omega)
  exact ⟨h3, h3⟩
section
variable {K : PySem.W.Frag} {S : Addr → Prop} {H : Hp}
mutual
theorem Rep.dp : ∀ (n : Nat) (w : W) (v : V), w.sh n = true → Rep K S H w v → Dp K H v w.py
  | n, .non, v, _, h => by rw [h.n]; exact .non
  | n, .bl b, v, _, h => by rw [h.b]; exact .bl b
  | n, .int b, v, _, h => by rw [h.i]; exact .int b
  | n, .str b, v, _, h => by rw [h.s]; exact .str b
  | 0, .tup _, _, h, _ => by cases h
  | 0, .lst _, _, h, _ => by cases h
  | n + 1, .tup ws, v, h, r => by
    have h : W.shs n ws = true := h
    obtain ⟨a, vs, rfl, q, r⟩ := r.t
    exact .tup (.of q) (Reps.dps n ws vs h r)
  | n + 1, .lst ws, v, h, r => by
    have h : W.shs n ws = true := h
    obtain ⟨a, vs, rfl, _, q, r⟩ := r.l
    exact .lst (.of q) (Reps.dps n ws vs h r)
  | n, .dct _, _, h, _ => by cases n <;> cases h
  | n, .scr _, _, h, _ => by cases n <;> cases h
theorem Reps.dps : ∀ (n : Nat) (ws : List W) (vs : List V), W.shs n ws = true → Reps K S H ws vs → DpAll K H vs (W.pys ws)
  | n, [], vs, _, r => by
    rw [r.inv_nil]
    exact .nil
  | n, w :: ws, vs, h, r => by
    simp only [W.shs, Bool.and_eq_true] at h
    obtain ⟨v, t, rfl, r1, r2⟩ := r.inv_cons
    exact .cons (Rep.dp n w v h.1 r1) (Reps.dps n ws t h.2 r2)
end
/-- at any level, as a value of the heap -/
theorem RepL.any {n : Nat} {g : G} {H0 : Hp} {w : W} {v : V} (r : RepL n K g H0 H w v) : Rep K (fun _ => True) H w v := by
  cases w with
  | lst ws =>
    obtain ⟨a, vs, rfl, h1, h2, _⟩ := r
    exact .mkl trivial h1 (h2.weak fun _ _ _ _ => trivial)
  | dct kvs =>
    obtain ⟨a, rfl, h1, _⟩ := r
    exact .mkd trivial h1
  | _ => exact Rep.weak (K := K) (S := g.cl) (fun _ _ _ _ => trivial) r
end

/-! ### the reading of an expression -/
/-- e's value: whatever body's state fits, the value e has there, at its level -/
def tE (K : PySem.W.Frag) (M : List Nat) (cf : CF) (e : E) (n : Nat) : TE := fun σ H Q =>
  ∃ g ρ w, StOk K M g ρ σ H ∧ evalE cf e ρ = some w ∧ ∀ v H', Same H H' → RepL n K g H H' w v → Q v H'
def tT (K : PySem.W.Frag) (M : List Nat) (cf : CF) (e : E) : TT := fun σ H Q =>
  ∃ g ρ b, StOk K M g ρ σ H ∧ (evalE cf e ρ).bind W.bl? = some b ∧ ∀ H', Same H H' → Q b H'
theorem _root_.L2.PE.imp {X : Cx} {e : Expr} {t t' : TE} (h : PE X e t) (q : ∀ σ H Q, t' σ H Q → t σ H Q) : PE X e t' := ⟨fun pins s σ H Q I w => h.run pins s σ H Q I (q _ _ _ w)⟩
theorem _root_.L2.PT.imp {X : Cx} {e : Expr} {t t' : TT} (h : PT X e t) (q : ∀ σ H Q, t' σ H Q → t σ H Q) : PT X e t' := ⟨fun pins s σ H Q I w => h.run pins s σ H Q I (q _ _ _ w)⟩
section
variable {X : Cx} {M : List Nat} {cf : CF} {e1 e2 e3 : Expr} {a b c : E} {na nb nc : Nat} {pos : Pos}

/-- what an operator by values does on W -/
def OpW (K : PySem.W.Frag) (r : R2) (f : W → W → Option W) : Prop :=
  ∀ (H : Hp) (g : G) (x y w : W) (v u : V) (Q : VK), (∀ p, H p = none → g.cl p) → RepL 1 K g H H x v → RepL 1 K g H H y u → f x y = some w →
    (∀ z H', Same H H' → RepL 3 K g H H' w z → Q z H') → r v u H Q
/-- the same, two expressions -/
theorem two {K : PySem.W.Frag} {σ : L2.St} {H : Hp} {Q : VK} {r : R2} {f : W → W → Option W} (hw : OpW K r f) {g : G} {ρ : Env} {x y w : W} (st : StOk K M g ρ σ H) (hx : evalE cf a ρ = some x) (hy : evalE cf b ρ = some y) (hf : f x y = some w)
    (h1 : 1 ≤ na) (h2 : 1 ≤ nb) (q : ∀ v H', Same H H' → RepL 3 K g H H' w v → Q v H') : tOp r (tE K M cf a na) (tE K M cf b nb) σ H Q := by
  refine ⟨g, ρ, x, st, hx, fun v H1 s1 r1 => ⟨g, ρ, y, st.same s1, hy, fun u H2 s2 r2 => ?_⟩⟩
  refine hw H2 g x y w v u Q (fun p hp => (st.same (s1.trans s2)).new hp) (((r1.le h1).same s2).base (by omega)) ((r2.le h2).base (by omega)) hf fun z H3 s3 r3 => ?_
  exact q z H3 ((s1.trans s2).trans s3) (r3.back (s1.trans s2))
theorem pe_bin {o : BO} {op : Operator} {r : R2} (ho : OpR X (binaryOp op) r) (hw : OpW X.K r (Mini.bin o)) (ha : PE X e1 (tE X.K M cf a na)) (hb : PE X e2 (tE X.K M cf b nb)) (h1 : 1 ≤ na) (h2 : 1 ≤ nb) :
    PE X (.BinOp e1 op e2 pos) (tE X.K M cf (.bin o a b) 3) := by
  refine (pe_op ho ha hb).imp fun σ H Q ⟨g, ρ, w, st, he, q⟩ => ?_
  simp only [evalE, Option.bind_eq_some_iff] at he
  obtain ⟨x, hx, y, hy, hf⟩ := he
  exact two hw st hx hy hf h1 h2 q
theorem OpW.or {K : PySem.W.Frag} {r r' : R2} {f : W → W → Option W} (h : ∀ x y w, f x y = some w → (∃ f1, f1 x y = some w ∧ OpW K r f1) ∨ (∃ f2, f2 x y = some w ∧ OpW K r' f2)) : OpW K (fun x y H Q => r x y H Q ∨ r' x y H Q) f := by
  intro H g x y w v u Q hn rx ry hf q
  rcases h x y w hf with ⟨f1, e, h⟩ | ⟨f1, e, h⟩
  · exact .inl (h H g x y w v u Q hn rx ry e q)
  · exact .inr (h H g x y w v u Q hn rx ry e q)

/-- ints -/
def onInt (f : Int → Int → Option Int) : W → W → Option W
  | .int i, .int j => (f i j).map .int
  | _, _ => none
theorem onInt_some {f : Int → Int → Option Int} {x y w : W} (h : onInt f x y = some w) : ∃ i j k, x = .int i ∧ y = .int j ∧ f i j = some k ∧ w = .int k := by
  cases x <;> cases y <;> simp only [onInt, Option.map_eq_some_iff, reduceCtorEq] at h
  obtain ⟨k, e, rfl⟩ := h
  exact ⟨_, _, k, rfl, rfl, e, rfl⟩
theorem opW_int {K : PySem.W.Frag} {C : Int → Int → Prop} {g : Int → Int → V} {f : Int → Int → Option Int} (h : ∀ i j k, f i j = some k → C i j ∧ g i j = .int k) : OpW K (rI C g) (onInt f) := by
  intro H gg x y w v u Q _ rx ry hf q
  obtain ⟨i, j, k, rfl, rfl, e, rfl⟩ := onInt_some hf
  obtain ⟨hc, hg⟩ := h i j k e
  refine ⟨i, j, rx.i, ry.i, hc, ?_⟩
  rw [hg]
  exact q _ H (Same.refl H) (.mki k)
theorem opW_int0 {K : PySem.W.Frag} {g : Int → Int → V} {f : Int → Int → Option Int} (h : ∀ i j k, f i j = some k → g i j = .int k) : OpW K (rI0 g) (onInt f) := by
  intro H gg x y w v u Q _ rx ry hf q
  obtain ⟨i, j, k, rfl, rfl, e, rfl⟩ := onInt_some hf
  refine ⟨i, j, rx.i, ry.i, ?_⟩
  rw [h i j k e]
  exact q _ H (Same.refl H) (.mki k)
theorem same_upd' {H : Hp} {p : Addr} {o : HO} (h : H p = none) : Same H (upd H p o) := fun b x e => by
  rw [upd_ne (ne_of_none e h)]
  exact e
/-- a new tuple -/
theorem new_tup {K : PySem.W.Frag} {g : G} {H : Hp} {p : Addr} {ws : List W} {vs : List V} {S : Addr → Prop} (hp : H p = none) (r : Reps K S H ws vs) (n : Nat) (hS : ∀ b u, S b → H b = some u → g.cl b) : RepL n K g H (upd H p (.tup vs)) (.tup ws) (.ref p) :=
  .mkt upd_same (r.same (same_upd' hp) hS)
theorem new_lst {K : PySem.W.Frag} {g : G} {H : Hp} {p : Addr} {ws : List W} {vs : List V} {S : Addr → Prop} (hn : g.cl p) (hp : H p = none) (r : Reps K S H ws vs) (n : Nat) (hS : ∀ b u, S b → H b = some u → g.cl b) : RepL n K g H (upd H p (.lst vs)) (.lst ws) (.ref p) :=
  ⟨p, vs, rfl, upd_same, r.same (same_upd' hp) hS, fun _ => hn, fun _ => ⟨hp, r.same (same_upd' hp) fun b u s e => ⟨hS b u s e, ne_of_none e hp⟩⟩⟩

def addT : W → W → Option W
  | .tup xs, .tup ys => if xs.length + ys.length ≤ big then some (.tup (xs ++ ys)) else none
  | _, _ => none
def addL : W → W → Option W
  | .lst xs, .lst ys => if xs.length + ys.length ≤ big then some (.lst (xs ++ ys)) else none
  | _, _ => none
def addS : W → W → Option W
  | .str x, .str y => if x.length + y.length ≤ big then some (.str (x ++ y)) else none
  | _, _ => none
theorem big_line : big = sizeLine := by rw [sizeLine_eq]; rfl
theorem opW_addT {K : PySem.W.Frag} : OpW K (rCatA K) addT := by
  intro H g x y w v u Q hn rx ry hf q
  cases x <;> cases y <;> simp only [addT, reduceCtorEq] at hf
  rename_i xs ys
  split at hf <;> cases hf
  rename_i hl
  obtain ⟨a, vs, rfl, ha, r1⟩ := rx.t
  obtain ⟨b, us, rfl, hb, r2⟩ := ry.t
  have e1 := r1.len
  have e2 := r2.len
  refine ⟨a, b, vs, us, rfl, rfl, .of ha, .of hb, by rw [e1, e2, ← big_line]; exact hl, fun z => ?_, fun _ z => ?_, fun _ _ p hp => ?_⟩
  · subst z
    have z : xs = [] := List.eq_nil_of_length_eq_zero e1.symm
    subst z
    exact q _ H (Same.refl H) (.mkt hb r2)
  · subst z
    have z : ys = [] := List.eq_nil_of_length_eq_zero e2.symm
    subst z
    refine q _ H (Same.refl H) ?_
    rw [List.append_nil]
    exact .mkt ha r1
  · exact q _ _ (same_upd' hp) (new_tup hp (r1.append r2) _ fun _ _ z _ => z)
theorem opW_addL {K : PySem.W.Frag} : OpW K rCat addL := by
  intro H g x y w v u Q hn rx ry hf q
  cases x <;> cases y <;> simp only [addL, reduceCtorEq] at hf
  rename_i xs ys
  split at hf <;> cases hf
  rename_i hl
  obtain ⟨a, vs, rfl, ha, r1, _⟩ := rx
  obtain ⟨b, us, rfl, hb, r2, _⟩ := ry
  have e1 := r1.len
  have e2 := r2.len
  refine ⟨a, b, vs, us, rfl, rfl, ha, hb, by rw [e1, e2, ← big_line]; exact hl, fun p hp => ?_⟩
  exact q _ _ (same_upd' hp) (new_lst (hn p hp) hp (r1.append r2) _ fun _ _ z _ => z)
theorem opW_addS {K : PySem.W.Frag} : OpW K (fun x y H Q => ∃ i j, x = .str i ∧ y = .str j ∧ i.length + j.length ≤ sizeLine ∧ Q (.str (i ++ j)) H) addS := by
  intro H g x y w v u Q hn rx ry hf q
  cases x <;> cases y <;> simp only [addS, reduceCtorEq] at hf
  rename_i xs ys
  split at hf <;> cases hf
  rename_i hl
  exact ⟨xs, ys, rx.s, ry.s, by rw [← big_line]; exact hl, q _ H (Same.refl H) (.mks _)⟩
def rAddW (K : PySem.W.Frag) : R2 := fun x y H Q => rI0 (fun i j => .int (i + j)) x y H Q ∨ rCatA K x y H Q ∨ rCat x y H Q ∨ (∃ i j, x = .str i ∧ y = .str j ∧ i.length + j.length ≤ sizeLine ∧ Q (.str (i ++ j)) H)
theorem op_addW : OpR X (binaryOp .Add) (rAddW X.K) := op_add.or (op_catA.or (op_cat.or op_add_str))
theorem opW_add {K : PySem.W.Frag} : OpW K (rAddW K) (Mini.bin .add) := by
  intro H g x y w v u Q hn rx ry hf q
  cases x <;> cases y <;> simp only [Mini.bin, reduceCtorEq] at hf
  · exact .inl (opW_int0 (f := binI .add) (fun i j k e => by cases e; rfl) H g _ _ w v u Q hn rx ry hf q)
  · exact .inr (.inr (.inr (opW_addS H g _ _ w v u Q hn rx ry hf q)))
  · exact .inr (.inl (opW_addT H g _ _ w v u Q hn rx ry hf q))
  · exact .inr (.inr (.inl (opW_addL H g _ _ w v u Q hn rx ry hf q)))
theorem opW_sub {K : PySem.W.Frag} : OpW K (rI0 fun i j => .int (i - j)) (Mini.bin .sub) := by
  intro H g x y w v u Q hn rx ry hf q
  cases x <;> cases y <;> simp only [Mini.bin, reduceCtorEq] at hf
  exact opW_int0 (f := binI .sub) (fun i j k e => by cases e; rfl) H g _ _ w v u Q hn rx ry hf q
theorem binI_mul {i j k : Int} (e : binI .mul i j = some k) : CMul i j ∧ i * j = k := by
  simp only [binI] at e
  split at e <;> cases e
  rename_i h
  simp only [small64, Bool.or_eq_true, Bool.and_eq_true, decide_eq_true_eq] at h
  exact ⟨h, rfl⟩
theorem binI_fdiv {i j k : Int} (e : binI .fdiv i j = some k) : CDiv i j ∧ i / j = k := by
  simp only [binI] at e
  split at e <;> cases e
  rename_i h
  simp only [Bool.and_eq_true, decide_eq_true_eq] at h
  exact ⟨h, rfl⟩
theorem binI_mod {i j k : Int} (e : binI .mod i j = some k) : 0 < j ∧ i % j = k := by
  simp only [binI] at e
  split at e <;> cases e
  rename_i h
  exact ⟨h, rfl⟩
theorem binI_pow {i j k : Int} (e : binI .pow i j = some k) : CPow i j ∧ i ^ j.toNat = k := by
  simp only [binI] at e
  split at e <;> cases e
  rename_i h
  simp only [Bool.and_eq_true, decide_eq_true_eq] at h
  exact ⟨⟨h.1.1, h.1.2, h.2⟩, rfl⟩
theorem binI_shl {i j k : Int} (e : binI .shl i j = some k) : CPow i j ∧ i * 2 ^ j.toNat = k := by
  simp only [binI] at e
  split at e <;> cases e
  rename_i h
  simp only [Bool.and_eq_true, decide_eq_true_eq] at h
  exact ⟨⟨h.1.1, h.1.2, h.2⟩, rfl⟩
theorem binI_shr {i j k : Int} (e : binI .shr i j = some k) : 0 ≤ j ∧ i / 2 ^ j.toNat = k := by
  simp only [binI] at e
  split at e <;> cases e
  rename_i h
  exact ⟨h, rfl⟩
theorem binI_band {i j k : Int} (e : binI .band i j = some k) : Builtin.bitAnd i j = k := by
  simp only [binI] at e
  split at e <;> cases e
  rename_i h
  simp only [Bool.and_eq_true, decide_eq_true_eq] at h
  unfold Builtin.bitAnd
  rw [decide_eq_true h.1, decide_eq_true h.2]
def mulL : W → W → Option W
  | .lst xs, .int k => if -(2 ^ 63) ≤ k && k < 2 ^ 63 && decide (xs.length * k.toNat ≤ big) then some (.lst (repW k xs)) else none
  | _, _ => none
theorem opW_mulL {K : PySem.W.Frag} : OpW K rRep mulL := by
  intro H g x y w v u Q hn rx ry hf q
  cases x <;> cases y <;> simp only [mulL, reduceCtorEq] at hf
  rename_i xs k
  split at hf <;> cases hf
  rename_i hl
  simp only [Bool.and_eq_true, decide_eq_true_eq] at hl
  obtain ⟨a, vs, rfl, ha, r1, _⟩ := rx
  refine ⟨a, k, vs, rfl, ry.i, ha, hl.1.1, hl.1.2, by rw [r1.len, ← big_line]; exact hl.2, fun p hp => ?_⟩
  exact q _ _ (same_upd' hp) (new_lst (hn p hp) hp (r1.rep _) _ fun _ _ z _ => z)
end
end Mini

end

section
set_option maxRecDepth 100000
set_option maxHeartbeats 4000000
/-! SoundC: comparisons, subscripts, calls of built-ins. -/
namespace Mini
open PySem PySem.Spec PyProof.Rows L2

section
variable {X : Cx} {K : PySem.W.Frag}
/-! ### comparisons -/
def cmpW (o : CO) (x y : W) : Option W := (Mini.cmp o x y).map .bl
theorem opW_eq : OpW K (rEqD K) (cmpW .eq) := by
  intro H g x y w v u Q hn rx ry hf q
  simp only [cmpW, Mini.cmp, Option.map_eq_some_iff] at hf
  obtain ⟨b, hf, rfl⟩ := hf
  split at hf <;> cases hf
  rename_i h
  simp only [Bool.and_eq_true] at h
  refine ⟨x.py, y.py, Rep.dp 60 x v h.1 rx.any, Rep.dp 60 y u h.2 ry.any, W.shaped h.1, W.shaped h.2, ?_⟩
  rw [W.eqv_py x y ⟨_, h.1⟩ ⟨_, h.2⟩]
  exact q _ H (Same.refl H) (.mkb _)
theorem opW_ne : OpW K (rNeD K) (cmpW .ne) := by
  intro H g x y w v u Q hn rx ry hf q
  simp only [cmpW, Mini.cmp, Option.map_eq_some_iff] at hf
  obtain ⟨b, hf, rfl⟩ := hf
  split at hf <;> cases hf
  rename_i h
  simp only [Bool.and_eq_true] at h
  refine ⟨x.py, y.py, Rep.dp 60 x v h.1 rx.any, Rep.dp 60 y u h.2 ry.any, W.shaped h.1, W.shaped h.2, ?_⟩
  rw [W.eqv_py x y ⟨_, h.1⟩ ⟨_, h.2⟩]
  exact q _ H (Same.refl H) (.mkb _)
def cmpO (o : CO) : W → W → Option W
  | .int i, .int j => (cmpI o i j).map .bl
  | _, _ => none
theorem cmp_int {o : CO} {x y w : W} (h : cmpO o x y = some w) : ∃ i j b, x = .int i ∧ y = .int j ∧ cmpI o i j = some b ∧ w = .bl b := by
  cases x <;> cases y <;> simp only [cmpO, Option.map_eq_some_iff, reduceCtorEq] at h
  obtain ⟨k, e, rfl⟩ := h
  exact ⟨_, _, k, rfl, rfl, e, rfl⟩
theorem opW_cmpO {o : CO} {p : Int → Int → Bool} (hp : ∀ i j, cmpI o i j = some (p i j)) : OpW K (rI0 fun i j => .bl (p i j)) (cmpO o) := by
  intro H g x y w v u Q hn rx ry hf q
  obtain ⟨i, j, b, rfl, rfl, e, rfl⟩ := cmp_int hf
  rw [hp] at e
  cases e
  exact ⟨i, j, rx.i, ry.i, q _ H (Same.refl H) (.mkb _)⟩
theorem OpW.of {r : R2} {f f' : W → W → Option W} (h : OpW K r f) (e : ∀ x y w, f' x y = some w → f x y = some w) : OpW K r f' := fun H g x y w v u Q hn rx ry hf q => h H g x y w v u Q hn rx ry (e x y w hf) q
theorem opW_lt : OpW K (rI0 fun i j => .bl (decide (i < j))) (cmpW .lt) := (opW_cmpO (o := .lt) fun _ _ => rfl).of fun x y w h => by
  cases x <;> cases y <;> simp only [cmpW, Mini.cmp, cmpO, Option.map_none, reduceCtorEq] at h ⊢ <;> exact h
theorem opW_le : OpW K (rI0 fun i j => .bl (decide (i ≤ j))) (cmpW .le) := (opW_cmpO (o := .le) fun _ _ => rfl).of fun x y w h => by
  cases x <;> cases y <;> simp only [cmpW, Mini.cmp, cmpO, Option.map_none, reduceCtorEq] at h ⊢ <;> exact h
theorem opW_gt : OpW K (rI0 fun i j => .bl (decide (j < i))) (cmpW .gt) := (opW_cmpO (o := .gt) fun _ _ => rfl).of fun x y w h => by
  cases x <;> cases y <;> simp only [cmpW, Mini.cmp, cmpO, Option.map_none, reduceCtorEq] at h ⊢ <;> exact h
theorem opW_geI : OpW K (rI0 fun i j => .bl (decide (j ≤ i))) (cmpO .ge) := opW_cmpO fun _ _ => rfl
/-! is -/
def rIsW : R2 := fun x y H Q => (y = .non ∧ Q (.bl (decide (x = .non))) H) ∨ rIsB x y H Q
def rNotW : R2 := fun x y H Q => (y = .non ∧ Q (.bl (!decide (x = .non))) H) ∨ rNotB x y H Q
theorem op_isW : OpR X (compareOp .Is) rIsW := op_isN.or op_isBl
theorem op_notW : OpR X (compareOp .IsNot) rNotW := op_notN.or op_notBl
theorem rep_non {g : G} {H : Hp} {x : W} {v : V} (r : RepL 1 K g H H x v) : decide (v = .non) = x.isNon := by
  cases x with
  | non => rw [r.n]; rfl
  | bl b => rw [r.b]; rfl
  | int b => rw [r.i]; rfl
  | str b => rw [r.s]; rfl
  | tup ws => obtain ⟨a, vs, rfl, _⟩ := r.t; rfl
  | lst ws => obtain ⟨a, vs, rfl, _⟩ := r.l; rfl
  | dct ws => obtain ⟨a, rfl, _⟩ := r.d; rfl
  | scr ws => obtain ⟨a, rfl, _⟩ := r.c; rfl
theorem isW_cases {x y : W} {b : Bool} (h : isW x y = some b) : (y = .non ∧ b = x.isNon) ∨ ∃ c d, x = .bl c ∧ y = .bl d ∧ b = decide (c = d) := by
  cases y with
  | non =>
    refine .inl ⟨rfl, ?_⟩
    cases x <;> (simp only [isW, Option.some.injEq] at h; exact h.symm)
  | bl d =>
    cases x <;> simp only [isW, Option.some.injEq, reduceCtorEq] at h
    subst h
    refine .inr ⟨_, _, rfl, rfl, ?_⟩
    exact Bool.beq_eq_decide_eq _ _
  | _ => cases x <;> simp only [isW, reduceCtorEq] at h
theorem opW_is : OpW K rIsW (cmpW .is) := by
  intro H g x y w v u Q hn rx ry hf q
  simp only [cmpW, Mini.cmp, Option.map_eq_some_iff] at hf
  obtain ⟨b, hf, rfl⟩ := hf
  rcases isW_cases hf with ⟨rfl, e⟩ | ⟨c, d, rfl, rfl, e⟩
  · refine .inl ⟨ry.n, ?_⟩
    rw [rep_non rx, ← e]
    exact q _ H (Same.refl H) (.mkb _)
  · refine .inr ⟨c, d, rx.b, ry.b, ?_⟩
    rw [← e]
    exact q _ H (Same.refl H) (.mkb _)
theorem opW_isnot : OpW K rNotW (cmpW .isnot) := by
  intro H g x y w v u Q hn rx ry hf q
  simp only [cmpW, Mini.cmp, Option.map_eq_some_iff] at hf
  obtain ⟨b, ⟨b', hf, rfl⟩, rfl⟩ := hf
  rcases isW_cases hf with ⟨rfl, e⟩ | ⟨c, d, rfl, rfl, e⟩
  · refine .inl ⟨ry.n, ?_⟩
    rw [rep_non rx, ← e]
    exact q _ H (Same.refl H) (.mkb _)
  · refine .inr ⟨c, d, rx.b, ry.b, ?_⟩
    rw [← e]
    exact q _ H (Same.refl H) (.mkb _)
/-! in -/
def rInT (K : PySem.W.Frag) (neg : Bool) : R2 := fun x y H Q => ∃ d ds, Dp K H x d ∧ Dp K H y (.tuple ds) ∧ SeqAt.shaped d = true ∧ SeqAt.shaped (.tuple ds) = true ∧ Q (.bl (if neg then !ds.any fun z => PyData.eqv z d else ds.any fun z => PyData.eqv z d)) H
theorem op_inT (hu : X.A.units + 65 < cLine) : OpR X (compareOp .In) (rInT X.K false) := by
  intro pins s σ H x y v u Q I rx ry h
  obtain ⟨d, ds, hd, he, sd, se, q⟩ := h
  obtain ⟨as, r1⟩ := Dp.reads I d x v hd rx
  obtain ⟨bs, r2⟩ := Dp.reads I (.tuple ds) y u he ry
  exact SeqAt.in_tuple_reads r2 r1 (SeqAt.canLay_of_shaped se) (SeqAt.canLay_of_shaped sd) (room_in_shaped sd hu) ⟨.bl _, H, I, rfl, q⟩
theorem op_notInT (hu : X.A.units + 65 < cLine) : OpR X (compareOp .NotIn) (rInT X.K true) := by
  intro pins s σ H x y v u Q I rx ry h
  obtain ⟨d, ds, hd, he, sd, se, q⟩ := h
  obtain ⟨as, r1⟩ := Dp.reads I d x v hd rx
  obtain ⟨bs, r2⟩ := Dp.reads I (.tuple ds) y u he ry
  exact SeqAt.notIn_tuple_reads r2 r1 (SeqAt.canLay_of_shaped se) (SeqAt.canLay_of_shaped sd) (room_in_shaped sd hu) ⟨.bl _, H, I, rfl, q⟩
/-- what a dict with tuple keys holds at a key -/
def DAt (H : Hp) (a : Addr) (y : V) (o : Option V) : Prop := ∃ kvs k b, Rd H a (.dT kvs) ∧ y = .ref b ∧ H b = some (.tup (k.map kV)) ∧ o = valV kvs k
theorem DAt.get {H : Hp} {a : Addr} {y : V} {o : Option V} (h : DAt H a y o) : DGet H a y o := by
  obtain ⟨kvs, k, b, e, ey, eb, l⟩ := h
  exact .inr ⟨kvs, k, b, e, ey, eb, l⟩
def rInDc (neg : Bool) : R2 := fun x y H Q => ∃ a o, y = .ref a ∧ DGet H a x o ∧ Q (.bl (if neg then !o.isSome else o.isSome)) H
theorem op_inDc (hu : X.A.units + 1 < cLine) : OpR X (compareOp .In) (rInDc false) := by
  intro pins s σ H x y v u Q I rx ry h
  obtain ⟨a, o, rfl, d, q⟩ := h
  obtain rfl : u = Value.ref a := ry
  exact d_in hu I d rx fun s' I' => ⟨.bl _, H, I', rfl, q⟩
theorem op_notInDc (hu : X.A.units + 1 < cLine) : OpR X (compareOp .NotIn) (rInDc true) := by
  intro pins s σ H x y v u Q I rx ry h
  obtain ⟨a, o, rfl, d, q⟩ := h
  obtain rfl : u = Value.ref a := ry
  exact d_notIn hu I d rx fun s' I' => ⟨.bl _, H, I', rfl, q⟩
theorem any_eqv (x : W) (n : ∃ n, x.sh n = true) : ∀ ws : List W, (∃ n, W.shs n ws = true) → (W.pys ws).any (fun z => PyData.eqv z x.py) = ws.any fun z => W.eqv z x
  | [], _ => rfl
  | w :: ws, ⟨m, h⟩ => by
    simp only [W.shs, Bool.and_eq_true] at h
    simp only [W.pys, List.any_cons]
    rw [W.eqv_py w x ⟨m, h.1⟩ n, any_eqv x n ws ⟨m, h.2⟩]
theorem inl_inj : ∀ {a b : List Int}, a.map (Sum.inl : Int → Key) = b.map Sum.inl → a = b
  | [], [], _ => rfl
  | [], _ :: _, h => by cases h
  | _ :: _, [], h => by cases h
  | x :: a, y :: b, h => by
    rw [List.map_cons, List.map_cons] at h
    injection h with h1 h2
    rw [Sum.inl.inj h1, inl_inj h2]
theorem valV_dKV (kvs : List (List Int × Int)) (k : List Int) : valV (dKV kvs) (k.map Sum.inl) = (dGet kvs k).map V.int := by
  unfold dGet
  induction kvs with
  | nil => rfl
  | cons p r ih =>
    have inj : ∀ a b : List Int, (a.map (Sum.inl : Int → Key) = b.map Sum.inl) ↔ a = b := fun a b => ⟨inl_inj, fun h => by rw [h]⟩
    by_cases h : p.1 = k
    · rw [show dKV (p :: r) = (p.1.map Sum.inl, V.int p.2) :: dKV r from rfl, valV_pos ((inj _ _).mpr h), List.find?_cons_of_pos (by simpa using h)]
      rfl
    · rw [show dKV (p :: r) = (p.1.map Sum.inl, V.int p.2) :: dKV r from rfl, valV_neg (fun e => h ((inj _ _).mp e)), List.find?_cons_of_neg (by simpa using h)]
      exact ih
theorem kV_ints (k : List Int) : (k.map (Sum.inl : Int → Key)).map kV = k.map V.int := by
  rw [List.map_map]
  rfl
/-- a key's tuple: one that H tracks -/
theorem key_at {S : Addr → Prop} {H : Hp} {x : W} {v : V} {k : List Int} (r : Rep K S H x v) (hk : x.key? = some k) : ∃ b, v = .ref b ∧ H b = some (.tup (k.map V.int)) := by
  cases x <;> simp only [W.key?, reduceCtorEq] at hk
  obtain ⟨a, vs, rfl, q, r⟩ := r.t
  rw [ints?_eq hk] at r
  rw [r.ints] at q
  exact ⟨a, rfl, q⟩
theorem dget_at {H : Hp} {a b : Addr} {kvs : List (List Int × Int)} {k : List Int} (e : Rd H a (.dT (dKV kvs))) (eb : H b = some (.tup (k.map V.int))) : DGet H a (.ref b) ((dGet kvs k).map V.int) := by
  rw [← valV_dKV]
  exact .inr ⟨_, _, b, e, rfl, by rw [kV_ints]; exact eb, rfl⟩
theorem any_dGet (kvs : List (List Int × Int)) (k : List Int) : (kvs.any fun kv => decide (kv.1 = k)) = (dGet kvs k).isSome := by
  unfold dGet
  induction kvs with
  | nil => rfl
  | cons p r ih =>
    rw [List.any_cons, ih]
    by_cases h : p.1 = k
    · rw [decide_eq_true h, List.find?_cons_of_pos (by simpa using h)]
      rfl
    · rw [decide_eq_false h, List.find?_cons_of_neg (by simpa using h)]
      rfl
theorem map_isSome' {α β : Type} (o : Option α) (f : α → β) : (o.map f).isSome = o.isSome := by cases o <;> rfl
def rInW (K : PySem.W.Frag) : R2 := fun x y H Q => rInD K x y H Q ∨ rInT K false x y H Q ∨ rInDc false x y H Q
def rNotInW (K : PySem.W.Frag) : R2 := fun x y H Q => rNotInD K x y H Q ∨ rInT K true x y H Q ∨ rInDc true x y H Q
theorem op_inW (hu : X.A.units + 65 < cLine) : OpR X (compareOp .In) (rInW X.K) := (op_inD hu).or ((op_inT hu).or (op_inDc (by omega)))
theorem op_notInW (hu : X.A.units + 65 < cLine) : OpR X (compareOp .NotIn) (rNotInW X.K) := (op_notInD hu).or ((op_notInT hu).or (op_notInDc (by omega)))
theorem opW_in : OpW K (rInW K) (cmpW .inn) := by
  intro H g x y w v u Q hn rx ry hf q
  simp only [cmpW, Mini.cmp, Option.map_eq_some_iff] at hf
  obtain ⟨b, hf, rfl⟩ := hf
  have q1 := q (.bl b) H (Same.refl H) (.mkb _)
  cases y <;> simp only [inW, reduceCtorEq] at hf
  · rename_i ws
    split at hf <;> cases hf
    rename_i h
    simp only [Bool.and_eq_true] at h
    have h2 : (W.tup ws).sh 61 = true := h.2
    refine .inr (.inl ⟨x.py, W.pys ws, Rep.dp 60 x v h.1 rx.any, Rep.dp 61 _ u h2 ry.any, W.shaped h.1, (W.shapeds h.2).2, ?_⟩)
    rw [any_eqv x ⟨_, h.1⟩ ws ⟨_, h.2⟩]
    exact q1
  · rename_i ws
    split at hf <;> cases hf
    rename_i h
    simp only [Bool.and_eq_true] at h
    have h2 : (W.lst ws).sh 61 = true := h.2
    refine .inl ⟨x.py, W.pys ws, Rep.dp 60 x v h.1 rx.any, Rep.dp 61 _ u h2 ry.any, W.shaped h.1, (W.shapeds h.2).1, ?_⟩
    rw [any_eqv x ⟨_, h.1⟩ ws ⟨_, h.2⟩]
    exact q1
  · rename_i kvs
    obtain ⟨k, hk, rfl⟩ := Option.map_eq_some_iff.mp hf
    obtain ⟨c, rfl, hc⟩ := key_at rx.any hk
    obtain ⟨a, rfl, hd, _⟩ := ry.d
    refine .inr (.inr ⟨a, _, rfl, dget_at hd hc, ?_⟩)
    rw [map_isSome', ← any_dGet]
    exact q1
theorem opW_notin : OpW K (rNotInW K) (cmpW .notin) := by
  intro H g x y w v u Q hn rx ry hf q
  simp only [cmpW, Mini.cmp, Option.map_eq_some_iff] at hf
  obtain ⟨b', ⟨b, hf, rfl⟩, rfl⟩ := hf
  have q1 := q (.bl (!b)) H (Same.refl H) (.mkb _)
  cases y <;> simp only [inW, reduceCtorEq] at hf
  · rename_i ws
    split at hf <;> cases hf
    rename_i h
    simp only [Bool.and_eq_true] at h
    have h2 : (W.tup ws).sh 61 = true := h.2
    refine .inr (.inl ⟨x.py, W.pys ws, Rep.dp 60 x v h.1 rx.any, Rep.dp 61 _ u h2 ry.any, W.shaped h.1, (W.shapeds h.2).2, ?_⟩)
    rw [any_eqv x ⟨_, h.1⟩ ws ⟨_, h.2⟩]
    exact q1
  · rename_i ws
    split at hf <;> cases hf
    rename_i h
    simp only [Bool.and_eq_true] at h
    have h2 : (W.lst ws).sh 61 = true := h.2
    refine .inl ⟨x.py, W.pys ws, Rep.dp 60 x v h.1 rx.any, Rep.dp 61 _ u h2 ry.any, W.shaped h.1, (W.shapeds h.2).1, ?_⟩
    rw [any_eqv x ⟨_, h.1⟩ ws ⟨_, h.2⟩]
    exact q1
  · rename_i kvs
    obtain ⟨k, hk, rfl⟩ := Option.map_eq_some_iff.mp hf
    obtain ⟨c, rfl, hc⟩ := key_at rx.any hk
    obtain ⟨a, rfl, hd, _⟩ := ry.d
    refine .inr (.inr ⟨a, _, rfl, dget_at hd hc, ?_⟩)
    rw [map_isSome', ← any_dGet]
    exact q1

/-! ### subscripts -/
theorem atI_eq {α : Type} (xs : List α) (i : Int) : Mini.atI xs i = L2.atI xs i := rfl
theorem Reps.at {S : Addr → Prop} {H : Hp} {ws : List W} {vs : List V} {i : Int} {w : W} (r : Reps K S H ws vs) (h : Mini.atI ws i = some w) : ∃ v, L2.atI vs i = some v ∧ Rep K S H w v := by
  unfold Mini.atI at h
  obtain ⟨j, hj, e⟩ := Option.bind_eq_some_iff.mp h
  obtain ⟨v, e1, e2⟩ := r.get e
  refine ⟨v, ?_, e2⟩
  unfold L2.atI
  rw [r.len]
  exact Option.bind_eq_some_iff.mpr ⟨j, hj, e1⟩
def rIxW (K : PySem.W.Frag) : R2 := fun x y H Q => rIxL K x y H Q ∨ rIxT K x y H Q
theorem ix_W : IxR X (rIxW X.K) := ix_list.or ix_tup
/-- an operator whose answer stays (level 2) -/
def OpW2 (K : PySem.W.Frag) (r : R2) (f : W → W → Option W) : Prop :=
  ∀ (H : Hp) (g : G) (x y w : W) (v u : V) (Q : VK), (∀ p, H p = none → g.cl p) → RepL 1 K g H H x v → RepL 1 K g H H y u → f x y = some w →
    (∀ z H', Same H H' → RepL 2 K g H H' w z → Q z H') → r v u H Q
def rDGetW : R2 := fun x y H Q => ∃ a v, x = .ref a ∧ DGet H a y (some v) ∧ Q v H
theorem idx_cases {x y w : W} (h : Mini.idx x y = some w) : (∃ ws i, x = .lst ws ∧ y = .int i ∧ Mini.atI ws i = some w) ∨ (∃ ws i, x = .tup ws ∧ y = .int i ∧ Mini.atI ws i = some w) ∨
    (∃ ns i n, x = .scr ns ∧ y = .int i ∧ Mini.atI ns i = some n ∧ w = .int n) ∨ ∃ kvs k n, x = .dct kvs ∧ y.key? = some k ∧ dGet kvs k = some n ∧ w = .int n := by
  cases x with
  | lst ws => cases y <;> simp only [Mini.idx, reduceCtorEq] at h; exact .inl ⟨_, _, rfl, rfl, h⟩
  | tup ws => cases y <;> simp only [Mini.idx, reduceCtorEq] at h; exact .inr (.inl ⟨_, _, rfl, rfl, h⟩)
  | scr ns =>
    cases y <;> simp only [Mini.idx, reduceCtorEq, Option.map_eq_some_iff] at h
    obtain ⟨n, e, rfl⟩ := h
    exact .inr (.inr (.inl ⟨_, _, n, rfl, rfl, e, rfl⟩))
  | dct kvs =>
    have h : (y.key?).bind (fun ks => (dGet kvs ks).map W.int) = some w := by cases y <;> exact h
    simp only [Option.bind_eq_some_iff, Option.map_eq_some_iff] at h
    obtain ⟨k, hk, n, e, rfl⟩ := h
    exact .inr (.inr (.inr ⟨_, k, n, rfl, hk, e, rfl⟩))
  | _ => cases y <;> simp only [Mini.idx, reduceCtorEq] at h
theorem atI_map {ns : List Int} {i n : Int} (h : Mini.atI ns i = some n) : L2.atI (ns.map V.int) i = some (.int n) := by
  unfold Mini.atI at h
  obtain ⟨j, hj, e⟩ := Option.bind_eq_some_iff.mp h
  unfold L2.atI
  rw [List.length_map]
  refine Option.bind_eq_some_iff.mpr ⟨j, hj, ?_⟩
  rw [List.getElem?_map, e]
  rfl
/-- a[b], a a list, a tuple or the script -/
theorem opW_ix {H : Hp} {g : G} {x y w : W} {v u : V} {Q : VK} (hd : ∀ kvs, x ≠ .dct kvs) (rx : RepL 1 K g H H x v) (ry : RepL 1 K g H H y u) (hf : Mini.idx x y = some w) (q : ∀ z H', Same H H' → RepL 2 K g H H' w z → Q z H') : rIxW K v u H Q := by
  rcases idx_cases hf with ⟨ws, i, rfl, rfl, e⟩ | ⟨ws, i, rfl, rfl, e⟩ | ⟨ns, i, n, rfl, rfl, e, rfl⟩ | ⟨kvs, k, n, rfl, _⟩
  · obtain ⟨a, vs, rfl, ha, r, _⟩ := rx.l
    obtain ⟨z, e1, e2⟩ := r.at e
    exact .inl ⟨a, vs, i, z, rfl, ry.i, .of ha, e1, q z H (Same.refl H) (.of2 e2 (Nat.le_refl _))⟩
  · obtain ⟨a, vs, rfl, ha, r⟩ := rx.t
    obtain ⟨z, e1, e2⟩ := r.at e
    exact .inr ⟨a, vs, i, z, rfl, ry.i, .of ha, e1, q z H (Same.refl H) (.of2 e2 (Nat.le_refl _))⟩
  · obtain ⟨a, rfl, ha⟩ := rx.c
    exact .inl ⟨a, _, i, .int n, rfl, ry.i, ha, atI_map e, q _ H (Same.refl H) (.mki n)⟩
  · exact absurd rfl (hd kvs)
end
end Mini

end

section
set_option maxRecDepth 100000
set_option maxHeartbeats 4000000
/-! SoundD: subscripts, slices, calls of built-ins as expressions. -/
namespace Mini
open PySem PySem.Spec PyProof.Rows L2
section
variable {X : Cx} {K : PySem.W.Frag}

/-! ### subscripts -/
theorem ix_dict (hu : X.A.units + 1 < cLine) : IxR X rDGetW := by
  intro value slice pins s σ H x y v u Q I rx ry h hs
  obtain ⟨a, z, rfl, d, q⟩ := h
  obtain rfl : v = Value.ref a := rx
  exact tail_any (dict_typeIs I d) PySem.F.slot_dict_getitem.lookup (d_getItem hu I d ry fun w' s' I' r' => ⟨z, H, I', r', q⟩) hs
def rIxA (K : PySem.W.Frag) : R2 := fun x y H Q => rIxW K x y H Q ∨ rDGetW x y H Q
theorem ix_A (hu : X.A.units + 1 < cLine) : IxR X (rIxA X.K) := ix_W.or (ix_dict hu)
theorem opW_ixA : OpW2 K (rIxA K) Mini.idx := by
  intro H g x y w v u Q hn rx ry hf q
  by_cases hd : ∃ kvs, x = .dct kvs
  · obtain ⟨kvs, rfl⟩ := hd
    rcases idx_cases hf with ⟨ws, i, h, _⟩ | ⟨ws, i, h, _⟩ | ⟨ns, i, n, h, _⟩ | ⟨kvs', k, n, h, hk, e, rfl⟩
    · cases h
    · cases h
    · cases h
    · cases h
      obtain ⟨a, rfl, ha, _⟩ := rx.d
      obtain ⟨b, rfl, hb⟩ := key_at ry.any hk
      refine .inr ⟨a, .int n, rfl, ?_, q _ H (Same.refl H) (.mki n)⟩
      have := dget_at ha hb
      rw [e] at this
      exact this
  · exact .inl (opW_ix (fun kvs e => hd ⟨kvs, e⟩) rx ry hf q)
theorem two2 {σ : L2.St} {H : Hp} {Q : VK} {r : R2} {f : W → W → Option W} (hw : OpW2 K r f) {M : List Nat} {cf : CF} {a b : E} {na nb : Nat} {g : G} {ρ : Env} {x y w : W} (st : StOk K M g ρ σ H) (hx : evalE cf a ρ = some x) (hy : evalE cf b ρ = some y) (hf : f x y = some w)
    (h1 : 1 ≤ na) (h2 : 1 ≤ nb) (q : ∀ v H', Same H H' → RepL 2 K g H H' w v → Q v H') : tOp r (tE K M cf a na) (tE K M cf b nb) σ H Q := by
  refine ⟨g, ρ, x, st, hx, fun v H1 s1 r1 => ⟨g, ρ, y, st.same s1, hy, fun u H2 s2 r2 => ?_⟩⟩
  refine hw H2 g x y w v u Q (fun p hp => (st.same (s1.trans s2)).new hp) (((r1.le h1).same s2).base (by omega)) ((r2.le h2).base (by omega)) hf fun z H3 s3 r3 => ?_
  exact q z H3 ((s1.trans s2).trans s3) (r3.back (s1.trans s2))
def isSlice : Expr → Bool
  | .Slice _ _ _ _ => true
  | _ => false
theorem plainIx_of {b : Expr} (h : isSlice b = false) : PlainIx b := fun o i => by
  cases b <;> first | rfl | cases h
variable {M : List Nat} {cf : CF} {e1 e2 e3 : Expr} {a b c : E} {na nb nc : Nat} {pos : Pos}
theorem pe_idx (hu : X.A.units + 1 < cLine) (hs : isSlice e2 = false) (ha : PE X e1 (tE X.K M cf a na)) (hb : PE X e2 (tE X.K M cf b nb)) (h1 : 1 ≤ na) (h2 : 1 ≤ nb) : PE X (.Subscript e1 e2 pos) (tE X.K M cf (.idx a b) 2) := by
  refine (pe_ix (ix_A hu) ha hb (plainIx_of hs)).imp fun σ H Q ⟨g, ρ, w, st, he, q⟩ => ?_
  simp only [evalE, Option.bind_eq_some_iff] at he
  obtain ⟨x, hx, y, hy, hf⟩ := he
  exact two2 opW_ixA st hx hy hf h1 h2 q

/-! ### slices -/
def tO (K : PySem.W.Frag) (M : List Nat) (cf : CF) (e : Oe) : TO := fun σ H Q => ∃ g ρ o, StOk K M g ρ σ H ∧ evalO cf e ρ = some o ∧ ∀ H', Same H H' → Q o H'
theorem po_no : PO X none (tO X.K M cf .no) := ⟨fun pins s σ H Q I ⟨g, ρ, o, st, he, q⟩ => by
  simp only [evalO, Option.some.injEq] at he
  subst he
  exact po_none.run pins s σ H Q I (q H (Same.refl H))⟩
theorem po_so (ha : PE X e1 (tE X.K M cf a na)) : PO X (some e1) (tO X.K M cf (.so a)) := ⟨fun pins s σ H Q I ⟨g, ρ, o, st, he, q⟩ => by
  simp only [evalO, Option.bind_eq_some_iff, Option.map_eq_some_iff] at he
  obtain ⟨w, hw, i, hi, rfl⟩ := he
  cases w <;> simp only [W.int?, reduceCtorEq] at hi
  cases hi
  refine (po_some ha).run pins s σ H Q I ⟨g, ρ, _, st, hw, fun v H' sm r => ⟨i, r.i, q H' sm⟩⟩⟩
def rSlW (K : PySem.W.Frag) : V → Option Int → Option Int → Hp → VK → Prop := fun x lo hi H Q => rSlA K x lo hi H Q ∨ rSlL K x lo hi H Q
theorem sl_W : SlR X (rSlW X.K) := sl_tupA.or sl_list
theorem cut_reps {S : Addr → Prop} {H : Hp} {ws : List W} {vs : List V} (r : Reps K S H ws vs) (lo hi : Option Int) : Reps K S H (cut ws lo hi) (cutV vs lo hi) := by
  unfold cut cutV
  have e : HT.sIx = Mini.sIx := by
    funext n d o
    cases o <;> rfl
  rw [e, r.len]
  exact (r.drop _).take _
theorem cut_whole {α : Type} {ws : List α} {lo hi : Option Int} (h : HT.sIx ws.length 0 lo = 0 ∧ HT.sIx ws.length ws.length hi = ws.length) : cut ws lo hi = ws := by
  have e : HT.sIx = Mini.sIx := by
    funext n d o
    cases o <;> rfl
  rw [e] at h
  unfold cut
  rw [h.1, h.2]
  simp
theorem pe_slc {lo hi : Option Expr} {l u : Oe} {p2 : Pos} (ha : PE X e1 (tE X.K M cf a na)) (hl : PO X lo (tO X.K M cf l)) (hh : PO X hi (tO X.K M cf u)) (h1 : 1 ≤ na) : PE X (.Subscript e1 (.Slice lo hi none p2) pos) (tE X.K M cf (.slc a l u) 3) := by
  refine (pe_slice sl_W ha hl hh).imp fun σ H Q ⟨g, ρ, w, st, he, q⟩ => ?_
  simp only [evalE, Option.bind_eq_some_iff] at he
  obtain ⟨x, hx, lo, hlo, hi, hhi, hf⟩ := he
  refine ⟨g, ρ, x, st, hx, fun v H1 s1 r1 => ⟨g, ρ, lo, st.same s1, hlo, fun H2 s2 => ⟨g, ρ, hi, st.same (s1.trans s2), hhi, fun H3 s3 => ?_⟩⟩⟩
  have r3 := (((r1.le h1).same s2).same s3).base (H0' := H3) (by omega)
  have sa := (s1.trans s2).trans s3
  cases x <;> simp only [Mini.slc, Option.some.injEq, reduceCtorEq] at hf
  · subst hf
    obtain ⟨p, vs, rfl, hp, r⟩ := r3.t
    refine .inl ⟨p, vs, rfl, .of hp, fun h => ?_, fun h p' hp' => ?_⟩
    · rw [r.len] at h
      rw [cut_whole h] at q
      exact q _ H3 sa (.mkt hp r)
    · exact q _ _ (sa.trans (same_upd' hp')) ((new_tup hp' (cut_reps r lo hi) 3 fun _ _ z _ => z).back sa)
  · subst hf
    obtain ⟨p, vs, rfl, hp, r, _⟩ := r3.l
    exact .inr ⟨p, vs, rfl, .of hp, fun p' hp' => q _ _ (sa.trans (same_upd' hp')) ((new_lst ((st.same sa).new hp') hp' (cut_reps r lo hi) 3 fun _ _ z _ => z).back sa)⟩

/-! ### calls of built-ins with one argument -/
def CallW (K : PySem.W.Frag) (r : List V → Hp → VK → Prop) (f : W → Option W) : Prop :=
  ∀ (H : Hp) (g : G) (x w : W) (v : V) (Q : VK), (∀ p, H p = none → g.cl p) → RepL 1 K g H H x v → f x = some w → (∀ z H', Same H H' → RepL 3 K g H H' w z → Q z H') → r [v] H Q
theorem one_arg {r : List V → Hp → VK → Prop} {f : W → Option W} (hw : CallW K r f) {g : G} {ρ : Env} {σ : L2.St} {H : Hp} {Q : VK} {x w : W} (st : StOk K M g ρ σ H) (hx : evalE cf a ρ = some x) (hf : f x = some w) (h1 : 1 ≤ na)
    (q : ∀ v H', Same H H' → RepL 3 K g H H' w v → Q v H') : tCB r (tCons (tE K M cf a na) tNil) σ H Q := by
  refine ⟨g, ρ, x, st, hx, fun v H1 s1 r1 => ?_⟩
  exact hw H1 g x w v Q (fun p hp => (st.same s1).new hp) ((r1.le h1).base (by omega)) hf fun z H2 s2 r2 => q z H2 (s1.trans s2) (r2.back s1)
def notStar : Expr → Bool
  | .Starred _ _ => false
  | _ => true
theorem star_of {e : Expr} {es : List Expr} {env : PySem.Env} (h : notStar e = true) : starEach (e :: es) env = (false, eval e env) :: starEach es env := by
  cases e <;> first | rfl | cases h
theorem pe_bltB {id : String} {x : Str} {r : List V → Hp → VK → Prop} {f : BF} {p : Pos} (hc : CallR X (.builtin id) r) (hw : CallW X.K r (Mini.blt f)) (hg : Gl X x) (hm : X.mg x = none) (hv : bootBuiltins x = some (.builtin id)) (hn : x ≠ "__name__") (hdb : (x == ("__debug__" : Str)) = false)
    (hs : notStar e1 = true) (ha : PE X e1 (tE X.K M cf a na)) (h1 : 1 ≤ na) : PE X (.Call (.Name x p) [e1] [] pos) (tE X.K M cf (.blt f a) 3) := by
  refine (pe_callB hc hg hm hv (pa_cons ha pa_nil (star_of hs)) hn hdb (star_of hs) rfl).imp fun σ H Q ⟨g, ρ, w, st, he, q⟩ => ?_
  simp only [evalE, Option.bind_eq_some_iff] at he
  obtain ⟨x, hx, hf⟩ := he
  exact one_arg hw st hx hf h1 q
theorem pe_bltT {T : String} {x : Str} {r : List V → Hp → VK → Prop} {f : BF} {p : Pos} (hc : CallR X (.type T) r) (hw : CallW X.K r (Mini.blt f)) (hg : Gl X x) (hm : X.mg x = none) (hv : bootBuiltins x = some (.type T)) (hn : x ≠ "__name__") (hdb : (x == ("__debug__" : Str)) = false)
    (hs : notStar e1 = true) (ha : PE X e1 (tE X.K M cf a na)) (h1 : 1 ≤ na) : PE X (.Call (.Name x p) [e1] [] pos) (tE X.K M cf (.blt f a) 3) := by
  refine (pe_callTy hc hg hm hv (pa_cons ha pa_nil (star_of hs)) hn hdb (star_of hs) rfl).imp fun σ H Q ⟨g, ρ, w, st, he, q⟩ => ?_
  simp only [evalE, Option.bind_eq_some_iff] at he
  obtain ⟨x, hx, hf⟩ := he
  exact one_arg hw st hx hf h1 q

/-! len -/
theorem call_len_dR : CallR X (.builtin "len") (fun xs H Q => ∃ (p : Addr) (kvs : List (List Key × V)), xs = [.ref p] ∧ Rd H p (.dT kvs) ∧ Q (.int ((kvs.length : Nat) : Int)) H) := by
  intro pins s σ H xs us Q I r h
  obtain ⟨p, kvs, rfl, hp, q⟩ := h
  obtain ⟨u, rfl, rx⟩ := vals1 r
  obtain rfl : u = .ref p := rx
  obtain ⟨z, hd, ys, rel, dd⟩ := dt_rd I.hok hp
  have hl : kvs.length = ys.length := Paired.length rel
  refine call_len_dictH hd dd (by rw [← hl]; rw [sizeLine_eq] at z; omega) ?_
  rw [← hl]
  exact ⟨.int ((kvs.length : Nat) : Int), H, I.tok _, ⟨_, rfl⟩, q⟩
def rLenW (K : PySem.W.Frag) : List V → Hp → VK → Prop := fun xs H Q => (∃ x n, xs = [x] ∧ LenV K x H n ∧ Q (.int n) H) ∨ (∃ (p : Addr) (kvs : List (List Key × V)), xs = [.ref p] ∧ Rd H p (.dT kvs) ∧ Q (.int ((kvs.length : Nat) : Int)) H)
theorem call_lenW : CallR X (.builtin "len") (rLenW X.K) := call_len.or call_len_dR
theorem callW_len : CallW K (rLenW K) (Mini.blt .len) := by
  intro H g x w v Q hn r hf q
  cases x <;> simp only [Mini.blt, Option.some.injEq, reduceCtorEq] at hf <;> subst hf
  · obtain ⟨a, vs, rfl, ha, r⟩ := r.t
    refine .inl ⟨_, _, rfl, .inr ⟨vs, .of ha, rfl⟩, ?_⟩
    rw [r.len]
    exact q _ H (Same.refl H) (.mki _)
  · obtain ⟨a, vs, rfl, ha, r, _⟩ := r.l
    refine .inl ⟨_, _, rfl, .inl ⟨vs, .of ha, rfl⟩, ?_⟩
    rw [r.len]
    exact q _ H (Same.refl H) (.mki _)
  · obtain ⟨a, rfl, ha, _⟩ := r.d
    refine .inr ⟨a, _, rfl, ha, ?_⟩
    rw [show (dKV _).length = _ from List.length_map ..]
    exact q _ H (Same.refl H) (.mki _)
  · obtain ⟨a, rfl, ha⟩ := r.c
    refine .inl ⟨_, _, rfl, .inl ⟨_, ha, rfl⟩, ?_⟩
    rw [List.length_map]
    exact q _ H (Same.refl H) (.mki _)

/-! sums, greatest and least of a list or a tuple of ints -/
theorem ints_arr {its : List Value} {ns : List Int} (hi : IntsAre its ns) : ∃ xs : Array (Int × Tok), its.toArray = intItems xs ∧ xs.toList.map (·.1) = ns := by
  obtain ⟨xs, e⟩ := hi.allInts.items
  have hn : numsOf (intItems xs).toList = ns := by rw [← e]; exact hi.numsOf
  rw [nums_intItems] at hn
  exact ⟨xs, e, hn⟩
theorem iter_tupInts {prog : Program} {w : World} {A : Around} {E : Value → Shared → Prop} {s : Shared} {l : Addr} {xs : Array (Int × Tok)} {Q : Value → Shared → Prop} (hl : s.heap.IsTuple l (intItems xs))
    (h : ∀ s₂ : Shared, s₂ = { s with heap := s.heap.push { cls := .type "tuple_iterator", data := .fields #[.ref l, .int 0 0] } } → (s₂.heap.IsTupleIter s.heap.objs.size l 0 ∧ s₂.heap.IsTuple l (intItems xs)) → (∀ b ∈ [s.heap.objs.size, l], b < s₂.heap.objs.size) → l ≠ s.heap.objs.size → Q (.ref s.heap.objs.size) s₂) :
    wpAny (model prog w) A (pyIter (.ref l)) Q E s := by
  have hlt : l < s.heap.objs.size := by obtain ⟨_, e, _⟩ := hl; exact Heap.lt_size e
  refine wpAny_pyIter_tuple hl (h _ rfl ⟨⟨_, Heap.get?_push_size _ rfl, rfl, rfl⟩, hl.push _⟩ (fun b hb => ?_) (Nat.ne_of_lt hlt))
  show b < (s.heap.push _).objs.size
  rw [Heap.size_push]
  rcases List.mem_cons.mp hb with rfl | hb
  · exact Nat.lt_succ_self _
  · rcases List.mem_cons.mp hb with rfl | hb
    · exact Nat.lt_succ_of_lt hlt
    · cases hb
section
variable {prog : Program} {w : World} {A : Around} {E : Value → Shared → Prop} {s : Shared} {l : Addr} {its : List Value} {ns : List Int} {Q : Value → Shared → Prop}
theorem oldT {h h' : Heap} {ob : Obj} (hk : ∀ (b : Addr) (o : Obj), ¬ b ∈ [h.objs.size] → (h.push ob).get? b = some o → h'.get? b = some o) : ∀ b o, h.get? b = some o → h'.get? b = some o := fun b o e =>
  hk b o (fun m => by
    have m := List.mem_singleton.mp m
    rw [m] at e
    exact Nat.lt_irrefl _ (Heap.lt_size e)) (Heap.get?_push_of_some _ e)
theorem sum_tupRaw (hh : A.handled = none) (hl : s.heap.IsTuple l its.toArray) (hi : IntsAre its ns)
    (h : ∀ h' tk t', (∀ b o, s.heap.get? b = some o → h'.get? b = some o) → Q (.int ns.sum t') { s with heap := h', toks := tk }) : wpAny (model prog w) A (call (.builtin "sum") [.ref l]) Q E s := by
  obtain ⟨xs, e, hn⟩ := ints_arr hi
  rw [e] at hl
  refine call_sum_walkG (iter_tupInts hl fun s₂ e2 st hfp hlI => ?_)
  subst e2
  refine ⟨_, _, _, _, _, _, numAt xs, rfl, Walks.tuple (A := A.in1) hh _ l hlI (intItems xs), st, hfp, (fun _ _ => intItems_at), fun h' tk t' hk => ?_⟩
  have := h h' tk t' (oldT hk)
  rw [show (intItems xs).size = xs.size by simp [intItems], preSum_eq, List.take_of_length_le (by simp), hn]
  exact this
theorem max_tupRaw (hh : A.handled = none) (hl : s.heap.IsTuple l its.toArray) (hi : IntsAre its ns) (hne : 0 < ns.length)
    (h : ∀ h' tk N t', (∀ b o, s.heap.get? b = some o → h'.get? b = some o) → N ∈ ns → (∀ a, a ∈ ns → a ≤ N) → Q (.int N t') { s with heap := h', toks := tk }) : wpAny (model prog w) A (call (.builtin "max") [.ref l]) Q E s := by
  obtain ⟨xs, e, hn⟩ := ints_arr hi
  subst hn
  rw [e] at hl
  have hsz : 0 < xs.size := by simpa using hne
  refine call_max_walk (iter_tupInts hl fun s₂ e2 st hfp hlI => ?_)
  subst e2
  refine ⟨_, _, _, _, _, _, _, rfl, Walks.tuple (A := A.in1) hh _ l hlI (intItems xs), st, hfp, by simpa [intItems] using hsz, CmpOf.ints_gt (numAt xs) (fun _ _ => intItems_at), fun v h' tk hP hk => ?_⟩
  have hv : (intItems xs)[argBest (fun i j => decide (numAt xs i > numAt xs j)) (xs.size - 1)]? = some v := by simpa [intItems] using hP
  obtain ⟨t, rfl⟩ := intItems_at hv
  obtain ⟨h1, h2⟩ := argBest_gt (numAt xs) (xs.size - 1)
  refine h h' tk _ t (oldT hk) ?_ fun a ha => ?_
  · rw [numAt_eq]; exact PySem.getD_mem (by rw [List.length_map, Array.length_toList]; omega)
  · obtain ⟨j, hj, rfl⟩ := mem_getD ha
    rw [List.length_map, Array.length_toList] at hj
    rw [← numAt_eq]; exact h2 j (by omega)
theorem min_tupRaw (hh : A.handled = none) (hl : s.heap.IsTuple l its.toArray) (hi : IntsAre its ns) (hne : 0 < ns.length)
    (h : ∀ h' tk N t', (∀ b o, s.heap.get? b = some o → h'.get? b = some o) → N ∈ ns → (∀ a, a ∈ ns → N ≤ a) → Q (.int N t') { s with heap := h', toks := tk }) : wpAny (model prog w) A (call (.builtin "min") [.ref l]) Q E s := by
  obtain ⟨xs, e, hn⟩ := ints_arr hi
  subst hn
  rw [e] at hl
  have hsz : 0 < xs.size := by simpa using hne
  refine call_min_walk (iter_tupInts hl fun s₂ e2 st hfp hlI => ?_)
  subst e2
  refine ⟨_, _, _, _, _, _, _, rfl, Walks.tuple (A := A.in1) hh _ l hlI (intItems xs), st, hfp, by simpa [intItems] using hsz, CmpOf.ints_lt (numAt xs) (fun _ _ => intItems_at), fun v h' tk hP hk => ?_⟩
  have hv : (intItems xs)[argBest (fun i j => decide (numAt xs i < numAt xs j)) (xs.size - 1)]? = some v := by simpa [intItems] using hP
  obtain ⟨t, rfl⟩ := intItems_at hv
  obtain ⟨h1, h2⟩ := argBest_lt (numAt xs) (xs.size - 1)
  refine h h' tk _ t (oldT hk) ?_ fun a ha => ?_
  · rw [numAt_eq]; exact PySem.getD_mem (by rw [List.length_map, Array.length_toList]; omega)
  · obtain ⟨j, hj, rfl⟩ := mem_getD ha
    rw [List.length_map, Array.length_toList] at hj
    rw [← numAt_eq]; exact h2 j (by omega)
end
def rSumT (K : PySem.W.Frag) : List V → Hp → VK → Prop := fun vs H Q => ∃ (a : Addr) (ns : List Int), vs = [V.ref a] ∧ SqT K H a (ns.map V.int) ∧ Q (.int ns.sum) H
def rMaxT (K : PySem.W.Frag) : List V → Hp → VK → Prop := fun vs H Q => ∃ (a : Addr) (ns : List Int), vs = [V.ref a] ∧ SqT K H a (ns.map V.int) ∧ 0 < ns.length ∧ ∀ m, m ∈ ns → (∀ y, y ∈ ns → y ≤ m) → Q (.int m) H
def rMinT (K : PySem.W.Frag) : List V → Hp → VK → Prop := fun vs H Q => ∃ (a : Addr) (ns : List Int), vs = [V.ref a] ∧ SqT K H a (ns.map V.int) ∧ 0 < ns.length ∧ ∀ m, m ∈ ns → (∀ y, y ∈ ns → m ≤ y) → Q (.int m) H
theorem cr_sumT (hc : X.calm = true) : CallR X (.builtin "sum") (rSumT X.K) := by
  intro pins s σ H vs us Q I r h
  obtain ⟨a, ns, rfl, hs, q⟩ := h
  obtain ⟨its, rv, hl, _⟩ := I.tuple hs
  rw [Vals.ref1 r]
  exact sum_tupRaw (I.ok.hd hc) hl rv.ints fun h' tk t' hk => ⟨.int _, H, I.kept hk, ⟨_, rfl⟩, q⟩
theorem cr_maxT (hc : X.calm = true) : CallR X (.builtin "max") (rMaxT X.K) := by
  intro pins s σ H vs us Q I r h
  obtain ⟨a, ns, rfl, hs, hne, q⟩ := h
  obtain ⟨its, rv, hl, _⟩ := I.tuple hs
  rw [Vals.ref1 r]
  exact max_tupRaw (I.ok.hd hc) hl rv.ints hne fun h' tk m t' hk h1 h2 => ⟨.int _, H, I.kept hk, ⟨_, rfl⟩, q m h1 h2⟩
theorem cr_minT (hc : X.calm = true) : CallR X (.builtin "min") (rMinT X.K) := by
  intro pins s σ H vs us Q I r h
  obtain ⟨a, ns, rfl, hs, hne, q⟩ := h
  obtain ⟨its, rv, hl, _⟩ := I.tuple hs
  rw [Vals.ref1 r]
  exact min_tupRaw (I.ok.hd hc) hl rv.ints hne fun h' tk m t' hk h1 h2 => ⟨.int _, H, I.kept hk, ⟨_, rfl⟩, q m h1 h2⟩
theorem foldl_max : ∀ (ns : List Int) (x : Int), (x ≤ ns.foldl (fun m y => if m < y then y else m) x) ∧ (∀ y ∈ ns, y ≤ ns.foldl (fun m y => if m < y then y else m) x) ∧ (ns.foldl (fun m y => if m < y then y else m) x = x ∨ ns.foldl (fun m y => if m < y then y else m) x ∈ ns)
  | [], x => ⟨Int.le_refl _, (fun _ h => nomatch h), .inl rfl⟩
  | y :: ns, x => by
    have ih := foldl_max ns (if x < y then y else x)
    obtain ⟨h1, h2, h3⟩ := ih
    simp only [List.foldl_cons]
    refine ⟨Int.le_trans (by split <;> omega) h1, fun z hz => ?_, ?_⟩
    · rcases List.mem_cons.mp hz with rfl | hz
      · exact Int.le_trans (by split <;> omega) h1
      · exact h2 z hz
    · rcases h3 with h3 | h3
      · rw [h3]
        split
        · exact .inr List.mem_cons_self
        · exact .inl rfl
      · exact .inr (List.mem_cons_of_mem _ h3)
theorem foldl_min : ∀ (ns : List Int) (x : Int), (ns.foldl (fun m y => if y < m then y else m) x ≤ x) ∧ (∀ y ∈ ns, ns.foldl (fun m y => if y < m then y else m) x ≤ y) ∧ (ns.foldl (fun m y => if y < m then y else m) x = x ∨ ns.foldl (fun m y => if y < m then y else m) x ∈ ns)
  | [], x => ⟨Int.le_refl _, (fun _ h => nomatch h), .inl rfl⟩
  | y :: ns, x => by
    have ih := foldl_min ns (if y < x then y else x)
    obtain ⟨h1, h2, h3⟩ := ih
    simp only [List.foldl_cons]
    refine ⟨Int.le_trans h1 (by split <;> omega), fun z hz => ?_, ?_⟩
    · rcases List.mem_cons.mp hz with rfl | hz
      · exact Int.le_trans h1 (by split <;> omega)
      · exact h2 z hz
    · rcases h3 with h3 | h3
      · rw [h3]
        split
        · exact .inr List.mem_cons_self
        · exact .inl rfl
      · exact .inr (List.mem_cons_of_mem _ h3)
theorem maxI_is {ns : List Int} (h : ns ≠ []) : maxI ns ∈ ns ∧ ∀ y ∈ ns, y ≤ maxI ns := by
  cases ns with
  | nil => exact absurd rfl h
  | cons x xs =>
    obtain ⟨h1, h2, h3⟩ := foldl_max xs x
    refine ⟨?_, fun y hy => ?_⟩
    · rcases h3 with h3 | h3
      · show xs.foldl _ x ∈ _
        rw [h3]
        exact List.mem_cons_self
      · exact List.mem_cons_of_mem _ h3
    · rcases List.mem_cons.mp hy with rfl | hy
      · exact h1
      · exact h2 y hy
theorem minI_is {ns : List Int} (h : ns ≠ []) : minI ns ∈ ns ∧ ∀ y ∈ ns, minI ns ≤ y := by
  cases ns with
  | nil => exact absurd rfl h
  | cons x xs =>
    obtain ⟨h1, h2, h3⟩ := foldl_min xs x
    refine ⟨?_, fun y hy => ?_⟩
    · rcases h3 with h3 | h3
      · show xs.foldl _ x ∈ _
        rw [h3]
        exact List.mem_cons_self
      · exact List.mem_cons_of_mem _ h3
    · rcases List.mem_cons.mp hy with rfl | hy
      · exact h1
      · exact h2 y hy
def rSumW (K : PySem.W.Frag) : List V → Hp → VK → Prop := fun xs H Q => rSum K xs H Q ∨ rSumT K xs H Q
theorem call_sumW (hc : X.calm = true) : CallR X (.builtin "sum") (rSumW X.K) := (cr_sum hc).or (cr_sumT hc)
theorem callW_sum : CallW K (rSumW K) (Mini.blt .sum) := by
  intro H g x w v Q hn r hf q
  cases x <;> simp only [Mini.blt, Option.map_eq_some_iff, reduceCtorEq] at hf
  · obtain ⟨ns, e, rfl⟩ := hf
    rw [ints?_eq e] at r
    obtain ⟨a, vs, rfl, ha, r⟩ := r.t
    rw [r.ints] at ha
    exact .inr ⟨a, ns, rfl, .of ha, q _ H (Same.refl H) (.mki _)⟩
  · obtain ⟨ns, e, rfl⟩ := hf
    rw [ints?_eq e] at r
    obtain ⟨a, vs, rfl, ha, r, _⟩ := r.l
    rw [r.ints] at ha
    exact .inl ⟨a, ns, rfl, .of ha, q _ H (Same.refl H) (.mki _)⟩
def rMaxW (K : PySem.W.Frag) : List V → Hp → VK → Prop := fun xs H Q => rMax K xs H Q ∨ rMaxT K xs H Q
def rMinW (K : PySem.W.Frag) : List V → Hp → VK → Prop := fun xs H Q => rMin K xs H Q ∨ rMinT K xs H Q
theorem call_maxW (hc : X.calm = true) : CallR X (.builtin "max") (rMaxW X.K) := (cr_max hc).or (cr_maxT hc)
theorem call_minW (hc : X.calm = true) : CallR X (.builtin "min") (rMinW X.K) := (cr_min hc).or (cr_minT hc)
theorem callW_max : CallW K (rMaxW K) (Mini.blt .max) := by
  intro H g x w v Q hn r hf q
  cases x <;> simp only [Mini.blt, Option.bind_eq_some_iff, reduceCtorEq] at hf
  · obtain ⟨ns, e, h⟩ := hf
    split at h <;> cases h
    rename_i hne
    have hne : ns ≠ [] := fun z => hne (by rw [z]; rfl)
    rw [ints?_eq e] at r
    obtain ⟨a, vs, rfl, ha, r⟩ := r.t
    rw [r.ints] at ha
    refine .inr ⟨a, ns, rfl, .of ha, List.length_pos_iff.mpr hne, fun m h1 h2 => ?_⟩
    obtain ⟨k1, k2⟩ := maxI_is hne
    rw [show m = maxI ns from Int.le_antisymm (k2 m h1) (h2 _ k1)]
    exact q _ H (Same.refl H) (.mki _)
  · obtain ⟨ns, e, h⟩ := hf
    split at h <;> cases h
    rename_i hne
    have hne : ns ≠ [] := fun z => hne (by rw [z]; rfl)
    rw [ints?_eq e] at r
    obtain ⟨a, vs, rfl, ha, r, _⟩ := r.l
    rw [r.ints] at ha
    refine .inl ⟨a, ns, rfl, .of ha, List.length_pos_iff.mpr hne, fun m h1 h2 => ?_⟩
    obtain ⟨k1, k2⟩ := maxI_is hne
    rw [show m = maxI ns from Int.le_antisymm (k2 m h1) (h2 _ k1)]
    exact q _ H (Same.refl H) (.mki _)
theorem callW_min : CallW K (rMinW K) (Mini.blt .min) := by
  intro H g x w v Q hn r hf q
  cases x <;> simp only [Mini.blt, Option.bind_eq_some_iff, reduceCtorEq] at hf
  · obtain ⟨ns, e, h⟩ := hf
    split at h <;> cases h
    rename_i hne
    have hne : ns ≠ [] := fun z => hne (by rw [z]; rfl)
    rw [ints?_eq e] at r
    obtain ⟨a, vs, rfl, ha, r⟩ := r.t
    rw [r.ints] at ha
    refine .inr ⟨a, ns, rfl, .of ha, List.length_pos_iff.mpr hne, fun m h1 h2 => ?_⟩
    obtain ⟨k1, k2⟩ := minI_is hne
    rw [show m = minI ns from Int.le_antisymm (h2 _ k1) (k2 m h1)]
    exact q _ H (Same.refl H) (.mki _)
  · obtain ⟨ns, e, h⟩ := hf
    split at h <;> cases h
    rename_i hne
    have hne : ns ≠ [] := fun z => hne (by rw [z]; rfl)
    rw [ints?_eq e] at r
    obtain ⟨a, vs, rfl, ha, r, _⟩ := r.l
    rw [r.ints] at ha
    refine .inl ⟨a, ns, rfl, .of ha, List.length_pos_iff.mpr hne, fun m h1 h2 => ?_⟩
    obtain ⟨k1, k2⟩ := minI_is hne
    rw [show m = minI ns from Int.le_antisymm (h2 _ k1) (k2 m h1)]
    exact q _ H (Same.refl H) (.mki _)
theorem callW_all : CallW K (rAll K) (Mini.blt .all) := by
  intro H g x w v Q hn r hf q
  cases x <;> simp only [Mini.blt, Option.map_eq_some_iff, reduceCtorEq] at hf
  obtain ⟨bs, e, rfl⟩ := hf
  rw [bls?_eq e] at r
  obtain ⟨a, vs, rfl, ha, r, _⟩ := r.l
  rw [r.bls] at ha
  exact ⟨a, bs, rfl, .of ha, q _ H (Same.refl H) (.mkb _)⟩
theorem callW_abs : CallW K (fun xs H Q => ∃ i, xs = [.int i] ∧ Q (.int (if i < 0 then -i else i)) H) (Mini.blt .abs) := by
  intro H g x w v Q hn r hf q
  cases x <;> simp only [Mini.blt, Option.some.injEq, reduceCtorEq] at hf
  subst hf
  rw [r.i]
  exact ⟨_, rfl, q _ H (Same.refl H) (.mki _)⟩
theorem callW_int : CallW K (fun xs H Q => (∃ i, xs = [.int i] ∧ Q (.int i) H) ∨ ∃ k, xs = [.bl k] ∧ Q (.int (if k then 1 else 0)) H) (Mini.blt .int) := by
  intro H g x w v Q hn r hf q
  cases x <;> simp only [Mini.blt, Option.some.injEq, reduceCtorEq] at hf <;> subst hf
  · rw [r.b]
    exact .inr ⟨_, rfl, q _ H (Same.refl H) (.mki _)⟩
  · rw [r.i]
    exact .inl ⟨_, rfl, q _ H (Same.refl H) (.mki _)⟩
/-! tuple(..), list(..) -/
theorem callW_tuple : CallW K (fun xs H Q => ∃ p ys, xs = [.ref p] ∧ ((SqL K H p ys ∧ ∀ l, H l = none → Q (.ref l) (upd H l (.tup ys))) ∨ (SqT K H p ys ∧ Q (.ref p) H))) (Mini.blt .tuple) := by
  intro H g x w v Q hn r hf q
  cases x <;> simp only [Mini.blt, Option.some.injEq, reduceCtorEq] at hf <;> subst hf
  · obtain ⟨a, vs, rfl, ha, r⟩ := r.t
    exact ⟨a, vs, rfl, .inr ⟨.of ha, q _ H (Same.refl H) (.mkt ha r)⟩⟩
  · obtain ⟨a, vs, rfl, ha, r, _⟩ := r.l
    exact ⟨a, vs, rfl, .inl ⟨.of ha, fun p hp => q _ _ (same_upd' hp) (new_tup hp r 3 fun _ _ z _ => z)⟩⟩
theorem callW_list : CallW K (fun xs H Q => ∃ p ys, xs = [.ref p] ∧ (SqL K H p ys ∨ SqT K H p ys) ∧ ∀ l, H l = none → Q (.ref l) (upd H l (.lst ys))) (Mini.blt .list) := by
  intro H g x w v Q hn r hf q
  cases x <;> simp only [Mini.blt, Option.some.injEq, reduceCtorEq] at hf <;> subst hf
  · obtain ⟨a, vs, rfl, ha, r⟩ := r.t
    exact ⟨a, vs, rfl, .inr (.of ha), fun p hp => q _ _ (same_upd' hp) (new_lst (hn p hp) hp r 3 fun _ _ z _ => z)⟩
  · obtain ⟨a, vs, rfl, ha, r, _⟩ := r.l
    exact ⟨a, vs, rfl, .inl (.of ha), fun p hp => q _ _ (same_upd' hp) (new_lst (hn p hp) hp r 3 fun _ _ z _ => z)⟩
/-! sorted of ints -/
theorem insI_perm (x : Int) : ∀ ys : List Int, (insI x ys).Perm (x :: ys)
  | [] => .refl _
  | y :: ys => by
    unfold insI
    split
    · exact .refl _
    · exact ((insI_perm x ys).cons y).trans (.swap x y ys)
theorem sortI_perm : ∀ xs : List Int, (sortI xs).Perm xs
  | [] => .refl _
  | x :: xs => (insI_perm x (sortI xs)).trans ((sortI_perm xs).cons x)
theorem insI_sorted (x : Int) : ∀ ys : List Int, ys.Pairwise (· ≤ ·) → (insI x ys).Pairwise (· ≤ ·)
  | [], _ => List.pairwise_singleton _ _
  | y :: ys, h => by
    unfold insI
    obtain ⟨h1, h2⟩ := List.pairwise_cons.mp h
    split
    · rename_i hl
      refine List.pairwise_cons.mpr ⟨fun z hz => ?_, h⟩
      rcases List.mem_cons.mp hz with rfl | hz
      · omega
      · have := h1 z hz
        omega
    · rename_i hl
      refine List.pairwise_cons.mpr ⟨fun z hz => ?_, insI_sorted x ys h2⟩
      rcases List.mem_cons.mp ((insI_perm x ys).mem_iff.mp hz) with rfl | hz
      · omega
      · exact h1 z hz
theorem sortI_sorted : ∀ xs : List Int, (sortI xs).Pairwise (· ≤ ·)
  | [] => .nil
  | x :: xs => insI_sorted x _ (sortI_sorted xs)
theorem sorted_one {xs ys : List Int} (h : xs.Perm ys) (h1 : xs.Pairwise (· ≤ ·)) (h2 : ys.Pairwise (· ≤ ·)) : xs = ys :=
  h.eq_of_pairwise (fun a b _ _ h1 h2 => Int.le_antisymm h1 h2) h1 h2
end
end Mini

end

section
set_option maxRecDepth 100000
set_option maxHeartbeats 4000000
/-! SoundE: the other expressions without a block of their own. -/
namespace Mini
open PySem PySem.Spec PyProof.Rows L2
section
variable {X : Cx} {K : PySem.W.Frag} {M : List Nat} {cf : CF} {e1 e2 e3 : Expr} {a b c : E} {na nb nc : Nat} {pos p : Pos}

theorem callW_sorted : CallW K (rSortedI K) (Mini.blt .sorted) := by
  intro H g x w v Q hn r hf q
  cases x <;> simp only [Mini.blt, Option.map_eq_some_iff, reduceCtorEq] at hf
  obtain ⟨ns, e, rfl⟩ := hf
  rw [ints?_eq e] at r
  obtain ⟨a, vs, rfl, ha, r, _⟩ := r.l
  rw [r.ints] at ha
  refine ⟨a, ns, rfl, .of ha, fun ns' p h1 h2 hp => ?_⟩
  rw [sorted_one (h1.trans (sortI_perm ns).symm) h2 (sortI_sorted ns)]
  exact q _ _ (same_upd' hp) (new_lst (hn p hp) hp (Reps.map_int (K := K) (S := fun _ => False) (sortI ns)) 3 fun _ _ z _ => z.elim)

/-! names and constants -/
theorem pe_slot {i : Nat} {x : Str} (hN : X.N[i]? = some x) (hv : Vis X.env.scope x) (hd : (x == ("__debug__" : Str)) = false) (hcd : (x == ("__classdict__" : Str)) = false) : PE X (.Name x pos) (tE X.K M cf (.var i) (if i ∈ M then 1 else 2)) := by
  refine (pe_var hN hv hd hcd).imp fun σ H Q ⟨g, ρ, w, st, he, q⟩ => ?_
  obtain ⟨v, e, r⟩ := st.sl i w he
  exact ⟨v, e, q v H (Same.refl H) r⟩
theorem pe_slotT {i : Nat} {x : Str} (hN : X.N[i]? = some x) (hv : Vis X.env.scope x) (hd : (x == ("__debug__" : Str)) = false) (hcd : (x == ("__classdict__" : Str)) = false) : PE X (.Name x pos) (tE X.K M cf (.varT i) 3) := by
  refine (pe_var hN hv hd hcd).imp fun σ H Q ⟨g, ρ, w, st, he, q⟩ => ?_
  simp only [evalE, Option.bind_eq_some_iff] at he
  obtain ⟨w0, h0, he⟩ := he
  obtain ⟨v, e, r⟩ := st.sl i _ h0
  refine ⟨v, e, q v H (Same.refl H) ?_⟩
  cases w0 <;> simp only [Option.some.injEq, reduceCtorEq] at he
  all_goals
    subst he
    exact r.low rfl
theorem pe_i {i : Int} {j : Nat} : PE X (.Constant (.int i) j pos) (tE X.K M cf (.int i) 3) := pe_int.imp fun σ H Q ⟨g, ρ, w, st, he, q⟩ => by
  simp only [evalE, Option.some.injEq] at he
  subst he
  exact q _ H (Same.refl H) (.mki i)
theorem pe_b {i : Bool} {j : Nat} : PE X (.Constant (.bool i) j pos) (tE X.K M cf (.bl i) 3) := pe_bl.imp fun σ H Q ⟨g, ρ, w, st, he, q⟩ => by
  simp only [evalE, Option.some.injEq] at he
  subst he
  exact q _ H (Same.refl H) (.mkb i)
theorem pe_n {j : Nat} : PE X (.Constant .none j pos) (tE X.K M cf .non 3) := pe_non.imp fun σ H Q ⟨g, ρ, w, st, he, q⟩ => by
  simp only [evalE, Option.some.injEq] at he
  subst he
  exact q _ H (Same.refl H) .mkn
theorem pe_s {x : Str} {y : String} {j : Nat} (h : Str.ofString y = x) : PE X (.Constant (.str x) j pos) (tE X.K M cf (.str y) 3) := pe_str.imp fun σ H Q ⟨g, ρ, w, st, he, q⟩ => by
  simp only [evalE, Option.some.injEq] at he
  subst he
  rw [← h]
  exact q _ H (Same.refl H) (.mks _)
theorem pe_g {x : Str} {y : String} {i : Int} {t : Tok} (hg : Gl X x) (hm : X.mg x = some (.int i t)) (hd : (x == ("__debug__" : Str)) = false) : PE X (.Name x pos) (tE X.K M cf (.glb y i) 3) := (pe_glob (v := .int i) hg hm ⟨t, rfl⟩ hd).imp fun σ H Q ⟨g, ρ, w, st, he, q⟩ => by
  simp only [evalE, Option.some.injEq] at he
  subst he
  exact q _ H (Same.refl H) (.mki i)
theorem pe_neg (ha : PE X e1 (tE X.K M cf a na)) (h1 : 1 ≤ na) : PE X (.UnaryOp .USub e1 pos) (tE X.K M cf (.neg a) 3) := by
  refine (pe_un un_neg ha).imp fun σ H Q ⟨g, ρ, w, st, he, q⟩ => ?_
  simp only [evalE, Option.bind_eq_some_iff, Option.map_eq_some_iff] at he
  obtain ⟨x, hx, i, hi, rfl⟩ := he
  cases x <;> simp only [W.int?, Option.some.injEq, reduceCtorEq] at hi
  subst hi
  exact ⟨g, ρ, _, st, hx, fun v H1 s1 r1 => ⟨_, r1.i, q _ H1 s1 (.mki _)⟩⟩
theorem W.bl?_some {w : W} {b : Bool} (h : w.bl? = some b) : w = .bl b := by cases w <;> simp only [W.bl?, Option.some.injEq, reduceCtorEq] at h; rw [h]
theorem W.int?_some {w : W} {b : Int} (h : w.int? = some b) : w = .int b := by cases w <;> simp only [W.int?, Option.some.injEq, reduceCtorEq] at h; rw [h]

/-! comparisons -/
theorem pe_cmpW {o : CO} {op : CmpOp} {r : R2} (ho : OpR X (compareOp op) r) (hw : OpW X.K r (cmpW o)) (ha : PE X e1 (tE X.K M cf a na)) (hb : PE X e2 (tE X.K M cf b nb)) (hm : behindInMarks op e2 = false) (h1 : 1 ≤ na) (h2 : 1 ≤ nb) :
    PE X (.Compare e1 [op] [e2] pos) (tE X.K M cf (.cmp o a b) 3) := by
  refine (pe_cmpR ho ha hb hm).imp fun σ H Q ⟨g, ρ, w, st, he, q⟩ => ?_
  simp only [evalE, Option.bind_eq_some_iff] at he
  obtain ⟨x, hx, y, hy, hf⟩ := he
  exact two hw st hx hy hf h1 h2 q
theorem pt_cmpW {o : CO} {op : CmpOp} {r : R2} (ho : OpR X (compareOp op) r) (hw : OpW X.K r (cmpW o)) (ha : PE X e1 (tE X.K M cf a na)) (hb : PE X e2 (tE X.K M cf b nb)) (hm : behindInMarks op e2 = false) (h1 : 1 ≤ na) (h2 : 1 ≤ nb) :
    PT X (.Compare e1 [op] [e2] pos) (tT X.K M cf (.cmp o a b)) := by
  refine (pt_cmpR ho ha hb hm).imp fun σ H Q ⟨g, ρ, k, st, he, q⟩ => ?_
  simp only [evalE, Option.bind_eq_some_iff] at he
  obtain ⟨w, ⟨x, hx, y, hy, hf⟩, hk⟩ := he
  cases W.bl?_some hk
  exact two hw st hx hy hf h1 h2 fun v H' s r => ⟨k, r.b, q H' s⟩
/-- an int comparison, by its operator -/
def cI (o : CO) (i j : Int) : Bool := (cmpI o i j).getD false
theorem chainW {o o' : CO} {op op' : CmpOp} (ho : OpR X (compareOp op) (rI0 fun i j => .bl (cI o i j))) (ho' : OpR X (compareOp op') (rI0 fun i j => .bl (cI o' i j))) (ha : PE X e1 (tE X.K M cf a na)) (hb : PE X e2 (tE X.K M cf b nb)) (hc : PE X e3 (tE X.K M cf c nc))
    (h : ∀ x y w, cmpW o x y = some w → cmpO o x y = some w) (h' : ∀ x y w, cmpW o' x y = some w → cmpO o' x y = some w) {σ : L2.St} {H : Hp} {Q : VK} (hE : tE X.K M cf (.cmp2 o o' a b c) 3 σ H Q) :
    tChain (rI0 fun i j => .bl (cI o i j)) (rI0 fun i j => .bl (cI o' i j)) (tE X.K M cf a na) (tE X.K M cf b nb) (tE X.K M cf c nc) σ H Q := by
  obtain ⟨g, ρ, w, st, he, q⟩ := hE
  simp only [evalE, Option.bind_eq_some_iff] at he
  obtain ⟨x, hx, y, hy, k, hk, hf⟩ := he
  obtain ⟨i, j, b1, rfl, rfl, e1', e2'⟩ := cmp_int (h x y (.bl k) (by unfold cmpW; rw [hk]; rfl))
  cases e2'
  refine ⟨g, ρ, _, st, hx, fun v H1 s1 r1 => ⟨g, ρ, _, st.same s1, hy, fun u H2 s2 r2 => ⟨i, j, r1.i, r2.i, k, by show V.bl (cI o i j) = V.bl k; unfold cI; rw [e1']; rfl, ?_⟩⟩⟩
  split
  · rename_i hk'
    rw [if_pos hk', ] at hf
    obtain ⟨z, hz, hf⟩ := Option.bind_eq_some_iff.mp hf
    obtain ⟨k2, hk2, rfl⟩ := Option.map_eq_some_iff.mp hf
    obtain ⟨i2, j2, b2, e3', rfl, e4', e5'⟩ := cmp_int (h' _ z (.bl k2) (by unfold cmpW; rw [hk2]; rfl))
    cases e5'
    cases e3'
    refine ⟨g, ρ, _, st.same (s1.trans s2), hz, fun t H3 s3 r3 => ⟨j, j2, r2.i, r3.i, ?_⟩⟩
    show Q (V.bl (cI o' j j2)) H3
    rw [show cI o' j j2 = k2 by unfold cI; rw [e4']; rfl]
    exact q _ H3 ((s1.trans s2).trans s3) (.mkb _)
  · rename_i hk'
    rw [if_neg hk'] at hf
    cases hf
    exact q _ H2 (s1.trans s2) (.mkb _)

theorem pe_cmp2 {o o' : CO} {op op' : CmpOp} (ho : OpR X (compareOp op) (rI0 fun i j => .bl (cI o i j))) (ho' : OpR X (compareOp op') (rI0 fun i j => .bl (cI o' i j))) (ha : PE X e1 (tE X.K M cf a na)) (hb : PE X e2 (tE X.K M cf b nb)) (hc : PE X e3 (tE X.K M cf c nc))
    (hm : behindInMarks op' e3 = false) (h : ∀ x y w, cmpW o x y = some w → cmpO o x y = some w) (h' : ∀ x y w, cmpW o' x y = some w → cmpO o' x y = some w) : PE X (.Compare e1 [op, op'] [e2, e3] pos) (tE X.K M cf (.cmp2 o o' a b c) 3) :=
  (pe_chain ho ho' ha hb hc hm).imp fun _ _ _ hE => chainW ho ho' ha hb hc h h' hE
theorem pt_cmp2 {o o' : CO} {op op' : CmpOp} (ho : OpR X (compareOp op) (rI0 fun i j => .bl (cI o i j))) (ho' : OpR X (compareOp op') (rI0 fun i j => .bl (cI o' i j))) (ha : PE X e1 (tE X.K M cf a na)) (hb : PE X e2 (tE X.K M cf b nb)) (hc : PE X e3 (tE X.K M cf c nc))
    (hm : behindInMarks op' e3 = false) (h : ∀ x y w, cmpW o x y = some w → cmpO o x y = some w) (h' : ∀ x y w, cmpW o' x y = some w → cmpO o' x y = some w) : PT X (.Compare e1 [op, op'] [e2, e3] pos) (tT X.K M cf (.cmp2 o o' a b c)) :=
  (pt_chain ho ho' ha hb hc hm).imp fun σ H Q ⟨g, ρ, k, st, he, q⟩ => by
    obtain ⟨w, hw, hk⟩ := Option.bind_eq_some_iff.mp he
    cases W.bl?_some hk
    exact chainW ho ho' ha hb hc h h' ⟨g, ρ, _, st, hw, fun v H' s r => ⟨k, r.b, q H' s⟩⟩

/-! not, and, or, if -/
theorem pe_nt (ha : PE X e1 (tE X.K M cf a na)) (h1 : 1 ≤ na) : PE X (.UnaryOp .Not e1 pos) (tE X.K M cf (.nt a) 3) := (pe_not ha).imp fun σ H Q ⟨g, ρ, w, st, he, q⟩ => by
  simp only [evalE, Option.bind_eq_some_iff, Option.map_eq_some_iff] at he
  obtain ⟨x, hx, k, hk, rfl⟩ := he
  cases W.bl?_some hk
  exact ⟨g, ρ, _, st, hx, fun v H1 s r => ⟨k, r.b, q _ H1 s (.mkb _)⟩⟩
theorem pt_nt (ha : PT X e1 (tT X.K M cf a)) : PT X (.UnaryOp .Not e1 pos) (tT X.K M cf (.nt a)) := (pt_not ha).imp fun σ H Q ⟨g, ρ, k, st, he, q⟩ => by
  simp only [evalE, Option.bind_eq_some_iff, Option.map_eq_some_iff] at he
  obtain ⟨w, ⟨x, hx, b, hb, rfl⟩, hk⟩ := he
  cases hk
  exact ⟨g, ρ, b, st, Option.bind_eq_some_iff.mpr ⟨x, hx, hb⟩, fun H' s => q H' s⟩
/-- a test of an expression whose value is a bool -/
def plainTest : Expr → Bool
  | .UnaryOp .Not _ _ => false
  | .BoolOp _ _ _ => false
  | .IfExp _ _ _ _ => false
  | .Compare _ _ _ _ => false
  | _ => true
theorem plain_isTrue {e : Expr} (h : plainTest e = true) (env : PySem.Env) (whole : Sem Value) : isTrue e env whole = (do let v ← whole; standAt e.pos; holding [v] (truthy v)) := by
  cases e with
  | UnaryOp op x p => cases op <;> first | rfl | cases h
  | BoolOp _ _ _ => cases h
  | IfExp _ _ _ _ => cases h
  | Compare _ _ _ _ => cases h
  | _ => rfl
theorem pt_plain (ha : PE X e1 (tE X.K M cf a na)) (h : plainTest e1 = true) : PT X e1 (tT X.K M cf a) := (pt_val ha (plain_isTrue h X.env)).imp fun σ H Q ⟨g, ρ, k, st, he, q⟩ => by
  obtain ⟨w, hw, hk⟩ := Option.bind_eq_some_iff.mp he
  cases W.bl?_some hk
  exact ⟨g, ρ, _, st, hw, fun v H' s r => ⟨k, r.b, q H' s⟩⟩
/-- and, or as values, from the right: the rest is a BoolOp of its own -/
theorem pe_andW {rest : List Expr} (ha : PE X e1 (tE X.K M cf a na)) (hb : PE X (.BoolOp .And (e2 :: rest) pos) (tE X.K M cf b nb)) : PE X (.BoolOp .And (e1 :: e2 :: rest) pos) (tE X.K M cf (.and a b) 3) := (pe_and ha hb).imp fun σ H Q ⟨g, ρ, w, st, he, q⟩ => by
  simp only [evalE, Option.bind_eq_some_iff] at he
  obtain ⟨x, hx, k, hk, hf⟩ := he
  cases W.bl?_some hk
  refine ⟨g, ρ, _, st, hx, fun v H1 s r => ⟨k, r.b, ?_⟩⟩
  split
  · rename_i hk'
    rw [if_pos hk'] at hf
    obtain ⟨y, hy, hf⟩ := Option.bind_eq_some_iff.mp hf
    obtain ⟨k2, hk2, rfl⟩ := Option.map_eq_some_iff.mp hf
    cases W.bl?_some hk2
    refine ⟨g, ρ, _, st.same s, hy, fun u H2 s2 r2 => ?_⟩
    rw [r2.b]
    exact q _ H2 (s.trans s2) (.mkb _)
  · rename_i hk'
    rw [if_neg hk'] at hf
    cases hf
    exact q _ H1 s (.mkb _)
theorem pe_orW {rest : List Expr} (ha : PE X e1 (tE X.K M cf a na)) (hb : PE X (.BoolOp .Or (e2 :: rest) pos) (tE X.K M cf b nb)) : PE X (.BoolOp .Or (e1 :: e2 :: rest) pos) (tE X.K M cf (.or a b) 3) := (pe_or ha hb).imp fun σ H Q ⟨g, ρ, w, st, he, q⟩ => by
  simp only [evalE, Option.bind_eq_some_iff] at he
  obtain ⟨x, hx, k, hk, hf⟩ := he
  cases W.bl?_some hk
  refine ⟨g, ρ, _, st, hx, fun v H1 s r => ⟨k, r.b, ?_⟩⟩
  split
  · rename_i hk'
    rw [if_pos hk'] at hf
    cases hf
    exact q _ H1 s (.mkb _)
  · rename_i hk'
    rw [if_neg hk'] at hf
    obtain ⟨y, hy, hf⟩ := Option.bind_eq_some_iff.mp hf
    obtain ⟨k2, hk2, rfl⟩ := Option.map_eq_some_iff.mp hf
    cases W.bl?_some hk2
    refine ⟨g, ρ, _, st.same s, hy, fun u H2 s2 r2 => ?_⟩
    rw [r2.b]
    exact q _ H2 (s.trans s2) (.mkb _)
theorem _root_.L2.PW.imp {X : Cx} {e : Expr} {t t' : TT} (h : PW X e t) (q : ∀ σ H Q, t' σ H Q → t σ H Q) : PW X e t' := ⟨fun wh pins s σ H Q I w => h.run wh pins s σ H Q I (q _ _ _ w)⟩
theorem pw_andW {rest : List Expr} (ha : PT X e1 (tT X.K M cf a)) (hb : PW X (.BoolOp .And (e2 :: rest) pos) (tT X.K M cf b)) : PW X (.BoolOp .And (e1 :: e2 :: rest) pos) (tT X.K M cf (.and a b)) := (pw_and ha hb).imp fun σ H Q ⟨g, ρ, k0, st, he, q⟩ => by
  simp only [evalE, Option.bind_eq_some_iff] at he
  obtain ⟨w, ⟨x, hx, k, hk, hf⟩, hk0⟩ := he
  refine ⟨g, ρ, k, st, Option.bind_eq_some_iff.mpr ⟨x, hx, hk⟩, fun H1 s => ?_⟩
  show ite (k = true) _ _
  split
  · rename_i hk'
    rw [if_pos hk'] at hf
    obtain ⟨y, hy, hf⟩ := Option.bind_eq_some_iff.mp hf
    obtain ⟨k2, hk2, rfl⟩ := Option.map_eq_some_iff.mp hf
    cases hk0
    exact ⟨g, ρ, _, st.same s, Option.bind_eq_some_iff.mpr ⟨y, hy, hk2⟩, fun H2 s2 => q H2 (s.trans s2)⟩
  · rename_i hk'
    rw [if_neg hk'] at hf
    cases hf
    cases hk0
    exact q H1 s
theorem pw_orW {rest : List Expr} (ha : PT X e1 (tT X.K M cf a)) (hb : PW X (.BoolOp .Or (e2 :: rest) pos) (tT X.K M cf b)) : PW X (.BoolOp .Or (e1 :: e2 :: rest) pos) (tT X.K M cf (.or a b)) := (pw_or ha hb).imp fun σ H Q ⟨g, ρ, k0, st, he, q⟩ => by
  simp only [evalE, Option.bind_eq_some_iff] at he
  obtain ⟨w, ⟨x, hx, k, hk, hf⟩, hk0⟩ := he
  refine ⟨g, ρ, k, st, Option.bind_eq_some_iff.mpr ⟨x, hx, hk⟩, fun H1 s => ?_⟩
  show ite (k = true) _ _
  split
  · rename_i hk'
    rw [if_pos hk'] at hf
    cases hf
    cases hk0
    exact q H1 s
  · rename_i hk'
    rw [if_neg hk'] at hf
    obtain ⟨y, hy, hf⟩ := Option.bind_eq_some_iff.mp hf
    obtain ⟨k2, hk2, rfl⟩ := Option.map_eq_some_iff.mp hf
    cases hk0
    exact ⟨g, ρ, _, st.same s, Option.bind_eq_some_iff.mpr ⟨y, hy, hk2⟩, fun H2 s2 => q H2 (s.trans s2)⟩
theorem pe_iteW (hc : PT X e3 (tT X.K M cf c)) (ha : PE X e1 (tE X.K M cf a na)) (hb : PE X e2 (tE X.K M cf b nb)) : PE X (.IfExp e3 e1 e2 pos) (tE X.K M cf (.ite c a b) (min na nb)) := (pe_ifExp hc ha hb).imp fun σ H Q ⟨g, ρ, w, st, he, q⟩ => by
  simp only [evalE, Option.bind_eq_some_iff] at he
  obtain ⟨x, hx, k, hk, hf⟩ := he
  refine ⟨g, ρ, k, st, Option.bind_eq_some_iff.mpr ⟨x, hx, hk⟩, fun H1 s => ?_⟩
  show ite (k = true) _ _
  split
  · rename_i hk'
    rw [if_pos hk'] at hf
    exact ⟨g, ρ, w, st.same s, hf, fun v H2 s2 r => q v H2 (s.trans s2) ((r.back s).le (Nat.min_le_left _ _))⟩
  · rename_i hk'
    rw [if_neg hk'] at hf
    exact ⟨g, ρ, w, st.same s, hf, fun v H2 s2 r => q v H2 (s.trans s2) ((r.back s).le (Nat.min_le_right _ _))⟩

/-! isinstance -/
def Ty.name : Ty → String
  | .bool => "bool" | .int => "int" | .str => "str" | .tuple => "tuple" | .list => "list" | .dict => "dict"
def rIsiD : List V → Hp → VK → Prop := fun xs H Q => ∃ (d : Addr) (kvs : List (List Key × V)) (n : String) (b : Bool), xs = [.ref d, .ty n] ∧ Rd H d (.dT kvs) ∧ kitB "dict" n = some b ∧ Q (.bl b) H
theorem call_isiD : CallR X (.builtin "isinstance") rIsiD := by
  intro pins s σ H xs us Q I r h
  obtain ⟨d, kvs, n, b, rfl, hd, e, q⟩ := h
  obtain ⟨u1, u2, rfl, r1, r2⟩ := vals2 r
  obtain rfl : u1 = Value.ref d := r1
  obtain rfl : u2 = Value.type n := r2
  obtain ⟨_, _, _, _, dd⟩ := dt_rd I.hok hd
  obtain ⟨o, es, ep, h1, h2, _⟩ := dd
  exact PySem.W.kia_one (PySem.W.kitx_dict) I.kIn ⟨o, h1, h2.1⟩ (kit_ty e) (fun z => nomatch z) fun tk => ⟨.bl b, H, I.tok tk, rfl, q⟩
def rIsiW (K : PySem.W.Frag) : List V → Hp → VK → Prop := fun xs H Q => rIsi K xs H Q ∨ rIsiD xs H Q
theorem call_isiW : CallR X (.builtin "isinstance") (rIsiW X.K) := call_isi.or call_isiD
theorem kit_non (t : Ty) : kitB "NoneType" t.name = some false := by cases t <;> decide +kernel
theorem kit_bool (t : Ty) : kitB "bool" t.name = some (match t with | .bool => true | .int => true | _ => false) := by cases t <;> decide +kernel
theorem kit_int (t : Ty) : kitB "int" t.name = some (match t with | .int => true | _ => false) := by cases t <;> decide +kernel
theorem kit_str (t : Ty) : kitB "str" t.name = some (match t with | .str => true | _ => false) := by cases t <;> decide +kernel
theorem kit_tup (t : Ty) : kitB "tuple" t.name = some (match t with | .tuple => true | _ => false) := by cases t <;> decide +kernel
theorem kit_lst (t : Ty) : kitB "list" t.name = some (match t with | .list => true | _ => false) := by cases t <;> decide +kernel
theorem kit_dct (t : Ty) : kitB "dict" t.name = some (match t with | .dict => true | _ => false) := by cases t <;> decide +kernel
theorem isi_ok {t : Ty} {g : G} {H : Hp} {x : W} {v : V} {k : Bool} {Q : VK} (h : Mini.isi t x = some k) (r : RepL 1 K g H H x v) (q : Q (.bl k) H) : rIsiW K [v, .ty t.name] H Q := by
  cases x with
  | non =>
    rw [r.n]
    refine .inl ⟨_, _, _, _, _, rfl, .ty _, .base .non, kit_ty (kit_non t), ?_⟩
    cases t <;> (cases h; exact q)
  | bl b =>
    rw [r.b]
    refine .inl ⟨_, _, _, _, _, rfl, .ty _, .base (.bl _), kit_ty (kit_bool t), ?_⟩
    cases t <;> (cases h; exact q)
  | int b =>
    rw [r.i]
    refine .inl ⟨_, _, _, _, _, rfl, .ty _, .base (.int _), kit_ty (kit_int t), ?_⟩
    cases t <;> (cases h; exact q)
  | str b =>
    rw [r.s]
    refine .inl ⟨_, _, _, _, _, rfl, .ty _, .base (.str _), kit_ty (kit_str t), ?_⟩
    cases t <;> (cases h; exact q)
  | tup ws =>
    obtain ⟨a, vs, rfl, ha, _⟩ := r.t
    refine .inl ⟨_, _, _, _, _, rfl, .ty _, .base (.tup ha), kit_ty (kit_tup t), ?_⟩
    cases t <;> (cases h; exact q)
  | lst ws =>
    obtain ⟨a, vs, rfl, ha, _⟩ := r.l
    refine .inl ⟨_, _, _, _, _, rfl, .ty _, .base (.lst ha), kit_ty (kit_lst t), ?_⟩
    cases t <;> (cases h; exact q)
  | dct kvs =>
    obtain ⟨a, rfl, ha, _⟩ := r.d
    refine .inr ⟨a, _, _, _, rfl, ha, kit_dct t, ?_⟩
    cases t <;> (cases h; exact q)
  | scr ns => cases t <;> cases h
theorem pe_isi {t : Ty} {y : Str} {p2 : Pos} (hg : Gl X "isinstance") (hm : X.mg "isinstance" = none) (hs : notStar e1 = true) (hgT : Gl X y) (hmT : X.mg y = none) (hvT : bootBuiltins y = some (.type t.name)) (hnT : y ≠ "__name__") (hdT : (y == ("__debug__" : Str)) = false)
    (ha : PE X e1 (tE X.K M cf a na)) (h1 : 1 ≤ na) : PE X (.Call (.Name "isinstance" p) [e1, .Name y p2] [] pos) (tE X.K M cf (.isi t a) 3) := by
  refine (pe_callB call_isiW hg hm boot_isinstance (pa_cons ha (pa_cons (pe_bltn (v := .ty t.name) hgT hmT hvT rfl hnT hdT) pa_nil (star_of rfl)) (star_of hs)) (by decide) (by decide) (star_of hs) (by rw [star_of rfl]; rfl)).imp fun σ H Q ⟨g, ρ, w, st, he, q⟩ => ?_
  simp only [evalE, Option.bind_eq_some_iff, Option.map_eq_some_iff] at he
  obtain ⟨x, hx, k, hk, rfl⟩ := he
  exact ⟨g, ρ, x, st, hx, fun v H1 s r => isi_ok hk ((r.le h1).base (by omega)) (q _ H1 s (.mkb _))⟩

/-! two ints' greater and less one -/
theorem pe_max2 (hc : X.calm = true) {b' : E} (hg : Gl X "max") (hm : X.mg "max" = none) (hs : notStar e1 = true) (hs2 : notStar e2 = true) (ha : PE X e1 (tE X.K M cf a na)) (hb : PE X e2 (tE X.K M cf b' nb)) (h1 : 1 ≤ na) (h2 : 1 ≤ nb) :
    PE X (.Call (.Name "max" p) [e1, e2] [] pos) (tE X.K M cf (.mm true (.cons a (.cons b' .nil))) 3) := by
  refine (pe_callB (call_max2 hc) hg hm boot_max (pa_cons ha (pa_cons hb pa_nil (star_of hs2)) (star_of hs)) (by decide) (by decide) (star_of hs) (by rw [star_of hs2]; rfl)).imp fun σ H Q ⟨g, ρ, w, st, he, q⟩ => ?_
  simp only [evalE, evalEs, Option.bind_eq_some_iff] at he
  obtain ⟨ws, ⟨x, hx, ws2, ⟨y, hy, ws3, e3, e4⟩, e5⟩, hf⟩ := he
  cases e3; cases e4; cases e5
  cases x <;> cases y <;> simp only [max2, Option.some.injEq, reduceCtorEq] at hf
  subst hf
  exact ⟨g, ρ, _, st, hx, fun v H1 s r => ⟨g, ρ, _, st.same s, hy, fun u H2 s2 r2 => ⟨_, _, by rw [r.i, r2.i], q _ H2 (s.trans s2) (.mki _)⟩⟩⟩
theorem pe_min2 (hc : X.calm = true) {b' : E} (hg : Gl X "min") (hm : X.mg "min" = none) (hs : notStar e1 = true) (hs2 : notStar e2 = true) (ha : PE X e1 (tE X.K M cf a na)) (hb : PE X e2 (tE X.K M cf b' nb)) (h1 : 1 ≤ na) (h2 : 1 ≤ nb) :
    PE X (.Call (.Name "min" p) [e1, e2] [] pos) (tE X.K M cf (.mm false (.cons a (.cons b' .nil))) 3) := by
  refine (pe_callB (call_min2 hc) hg hm boot_min (pa_cons ha (pa_cons hb pa_nil (star_of hs2)) (star_of hs)) (by decide) (by decide) (star_of hs) (by rw [star_of hs2]; rfl)).imp fun σ H Q ⟨g, ρ, w, st, he, q⟩ => ?_
  simp only [evalE, evalEs, Option.bind_eq_some_iff] at he
  obtain ⟨ws, ⟨x, hx, ws2, ⟨y, hy, ws3, e3, e4⟩, e5⟩, hf⟩ := he
  cases e3; cases e4; cases e5
  cases x <;> cases y <;> simp only [max2, Option.some.injEq, reduceCtorEq] at hf
  subst hf
  exact ⟨g, ρ, _, st, hx, fun v H1 s r => ⟨g, ρ, _, st.same s, hy, fun u H2 s2 r2 => ⟨_, _, by rw [r.i, r2.i], q _ H2 (s.trans s2) (.mki _)⟩⟩⟩
end
end Mini

end

section
set_option maxRecDepth 100000
set_option maxHeartbeats 4000000
/-! SoundF: displays, calls of the program's functions. -/
namespace Mini
open PySem PySem.Spec PyProof.Rows L2
section
variable {X : Cx} {K : PySem.W.Frag} {M : List Nat} {cf : CF} {e1 e2 e3 : Expr} {a b c : E} {na nb nc : Nat} {pos p : Pos}

/-! ### lists of expressions: all clean, or any -/
def tEs (K : PySem.W.Frag) (M : List Nat) (cf : CF) (es : Es) : TA := fun σ H Q => ∃ g ρ ws, StOk K M g ρ σ H ∧ evalEs cf es ρ = some ws ∧ ∀ vs H', Same H H' → Reps K g.cl H' ws vs → Q vs H'
def tEa (K : PySem.W.Frag) (M : List Nat) (cf : CF) (es : Es) : TA := fun σ H Q => ∃ g ρ ws, StOk K M g ρ σ H ∧ evalEs cf es ρ = some ws ∧ ∀ vs H', Same H H' → Reps K (fun _ => True) H' ws vs → Q vs H'
theorem _root_.L2.PA.imp {X : Cx} {es : List Expr} {t t' : TA} (h : PA X es t) (q : ∀ σ H Q, t' σ H Q → t σ H Q) : PA X es t' := ⟨fun pos pins s σ H Q I w => h.run pos pins s σ H Q I (q _ _ _ w)⟩
theorem pa_es0 : PA X [] (tEs X.K M cf .nil) := pa_nil.imp fun σ H Q ⟨g, ρ, ws, st, he, q⟩ => by
  simp only [evalEs, Option.some.injEq] at he
  subst he
  exact q [] H (Same.refl H) .nil
theorem pa_ea0 : PA X [] (tEa X.K M cf .nil) := pa_nil.imp fun σ H Q ⟨g, ρ, ws, st, he, q⟩ => by
  simp only [evalEs, Option.some.injEq] at he
  subst he
  exact q [] H (Same.refl H) .nil
theorem pa_es1 {es : List Expr} {as : Es} (hs : notStar e1 = true) (ha : PE X e1 (tE X.K M cf a na)) (h1 : 2 ≤ na) (hr : PA X es (tEs X.K M cf as)) : PA X (e1 :: es) (tEs X.K M cf (.cons a as)) :=
  (pa_cons ha hr (star_of hs)).imp fun σ H Q ⟨g, ρ, ws, st, he, q⟩ => by
    simp only [evalEs, Option.bind_eq_some_iff, Option.some.injEq] at he
    obtain ⟨x, hx, ys, hy, rfl⟩ := he
    exact ⟨g, ρ, x, st, hx, fun v H1 s r => ⟨g, ρ, ys, st.same s, hy, fun vs H2 s2 r2 => q _ H2 (s.trans s2) (.cons ((r.same s2).rep h1) r2)⟩⟩
theorem pa_ea1 {es : List Expr} {as : Es} (hs : notStar e1 = true) (ha : PE X e1 (tE X.K M cf a na)) (hr : PA X es (tEa X.K M cf as)) : PA X (e1 :: es) (tEa X.K M cf (.cons a as)) :=
  (pa_cons ha hr (star_of hs)).imp fun σ H Q ⟨g, ρ, ws, st, he, q⟩ => by
    simp only [evalEs, Option.bind_eq_some_iff, Option.some.injEq] at he
    obtain ⟨x, hx, ys, hy, rfl⟩ := he
    exact ⟨g, ρ, x, st, hx, fun v H1 s r => ⟨g, ρ, ys, st.same s, hy, fun vs H2 s2 r2 => q _ H2 (s.trans s2) (.cons (r.same s2).any r2)⟩⟩
theorem guard_some {ws r : List W} (h : guardLen ws = some r) : r = ws ∧ ws.length ≤ sizeLine := by
  unfold guardLen at h
  split at h <;> cases h
  rename_i hl
  exact ⟨rfl, by rw [← big_line]; exact hl⟩
theorem pe_tupW {es : List Expr} {as : Es} {k : Nat} (h : PA X es (tEs X.K M cf as)) : PE X (.Tuple es k pos) (tE X.K M cf (.tup as) 3) := (pe_tup h).imp fun σ H Q ⟨g, ρ, w, st, he, q⟩ => by
  simp only [evalE, Option.bind_eq_some_iff, Option.map_eq_some_iff] at he
  obtain ⟨ws, hw, r, hr, rfl⟩ := he
  obtain ⟨rfl, hl⟩ := guard_some hr
  refine ⟨g, ρ, _, st, hw, fun vs H1 s1 r1 => ⟨by rw [r1.len]; exact hl, fun p hp => ?_⟩⟩
  exact q _ _ (s1.trans (same_upd' hp)) ((new_tup hp r1 3 fun _ _ z _ => z).back s1)
theorem pe_lstW {es : List Expr} {as : Es} (h : PA X es (tEs X.K M cf as)) : PE X (.List es pos) (tE X.K M cf (.lst as) 3) := (pe_lst h).imp fun σ H Q ⟨g, ρ, w, st, he, q⟩ => by
  simp only [evalE, Option.bind_eq_some_iff, Option.map_eq_some_iff] at he
  obtain ⟨ws, hw, r, hr, rfl⟩ := he
  obtain ⟨rfl, hl⟩ := guard_some hr
  refine ⟨g, ρ, _, st, hw, fun vs H1 s1 r1 => ⟨by rw [r1.len]; exact hl, fun p hp => ?_⟩⟩
  exact q _ _ (s1.trans (same_upd' hp)) ((new_lst ((st.same s1).new hp) hp r1 3 fun _ _ z _ => z).back s1)
theorem new_dct {g : G} {H : Hp} {p : Addr} {kvs : List (List Int × Int)} (hn : g.cl p) (hp : H p = none) (n : Nat) : RepL n K g H (upd H p (.dT (dKV kvs))) (.dct kvs) (.ref p) :=
  ⟨p, rfl, .inl upd_same, fun _ => hn, fun _ => ⟨hp, upd_same⟩⟩
theorem pe_dnilW : PE X (.Dict [] [] pos) (tE X.K M cf .dnil 3) := pe_dnewT.imp fun σ H Q ⟨g, ρ, w, st, he, q⟩ => by
  simp only [evalE, Option.some.injEq] at he
  subst he
  exact fun p hp => q _ _ (same_upd' hp) (new_dct (kvs := []) (st.new hp) hp 3)

/-! ### a function's promise -/
/-- what stands at a, a list or dict that may be changed -/
def OwnC (K : PySem.W.Frag) (S : Addr → Prop) (H : Hp) (w : W) (a : Addr) : Prop :=
  match w with
  | .lst ws => ∃ vs, H a = some (.lst vs) ∧ Reps K S H ws vs
  | .dct kvs => H a = some (.dT (dKV kvs))
  | _ => False
/-- what may be old and clean, or new -/
def SN (S : Addr → Prop) (H : Hp) : Addr → Prop := fun b => S b ∨ H b = none
/-- a call's answer -/
def Res (K : PySem.W.Frag) (S : Addr → Prop) (H : Hp) (fresh : Bool) (w : W) (v : V) (H' : Hp) : Prop :=
  Rep K (SN S H) H' w v ∧ (fresh = true → match w with
    | .lst ws => ∃ a vs, v = .ref a ∧ H a = none ∧ H' a = some (.lst vs) ∧ Reps K (fun b => SN S H b ∧ b ≠ a) H' ws vs
    | .dct kvs => ∃ a, v = .ref a ∧ H a = none ∧ H' a = some (.dT (dKV kvs))
    | _ => True)
def spF (K : PySem.W.Frag) (d : Fn) (call : List W → Option (W × List W)) : Sp := fun vs H Q _ =>
  ∃ (S : Addr → Prop) (ws : List W) (w : W) (os : List W) (as : List Addr),
    ws.length = vs.length ∧ ws.length = d.np ∧
    (∀ i w, ws[i]? = some w → i ∉ d.io → ∃ v, vs[i]? = some v ∧ Rep K S H w v) ∧
    as.length = d.io.length ∧ as.Nodup ∧ (∀ a ∈ as, ¬ S a) ∧
    (∀ (k i : Nat) (a : Addr) (w : W), d.io[k]? = some i → as[k]? = some a → ws[i]? = some w → vs[i]? = some (.ref a) ∧ OwnC K S H w a) ∧
    call ws = some (w, os) ∧
    ∀ v H', (∀ b o, H b = some o → b ∉ as → H' b = some o) → (∀ (k : Nat) (a : Addr) (w : W), as[k]? = some a → os[k]? = some w → OwnC K (SN S H) H' w a) → os.length = d.io.length → Res K S H d.fresh w v H' → Q v H'
/-- the functions of the program, as a body sees them -/
structure Fns (X : Cx) (T : List Fn) (nm : List Str) (k : Nat) (cf : CFI) : Prop where
  fn : ∀ f d, T[f]? = some d → ∃ x a fd ps, nm[f]? = some x ∧ X.mg x = some (.ref a) ∧ PySem.W.keepIn X.K (.ref a) = true ∧ Binds X.K fd ps [] ∧ FnOk X.prog X.w X.K X.mg X.base CX0 k a fd ps (spF X.K d (cf f))
  room : Room k X.A
  len : ∀ f d ws r, T[f]? = some d → cf f ws = some r → ws.length = d.np
theorem Res.lv {g : G} {H0 H H' : Hp} {w : W} {v : V} {fresh : Bool} (hn : ∀ p, H p = none → g.cl p) (h : Res K g.cl H fresh w v H') : RepL (if fresh then 3 else 2) K g H H' w v := by
  have hS : ∀ b u, SN g.cl H b → H' b = some u → g.cl b := fun b u z _ => z.elim id fun z => hn b z
  obtain ⟨h1, h2⟩ := h
  have r2 : Rep K g.cl H' w v := h1.weak hS
  cases fresh with
  | false => exact .of2 r2 (Nat.le_refl _)
  | true =>
    have h2 := h2 rfl
    cases w with
    | lst ws =>
      obtain ⟨a, vs, rfl, h3, h4, h5⟩ := h2
      exact ⟨a, vs, rfl, h4, h5.weak fun b u z e => hS b u z.1 e, fun _ => hn a h3, fun _ => ⟨h3, h5.weak fun b u z e => ⟨hS b u z.1 e, z.2⟩⟩⟩
    | dct kvs =>
      obtain ⟨a, rfl, h3, h4⟩ := h2
      exact ⟨a, rfl, .inl h4, fun _ => hn a h3, fun _ => ⟨h3, h4⟩⟩
    | _ => exact r2
theorem purely_some {T : List Fn} {cfi : CFI} {f : Nat} {ws : List W} {w : W} (h : purely T cfi f ws = some w) : ∃ d os, T[f]? = some d ∧ d.io = [] ∧ cfi f ws = some (w, os) := by
  unfold purely at h
  obtain ⟨d, hd, h⟩ := Option.bind_eq_some_iff.mp h
  split at h
  · rename_i he
    obtain ⟨r, hr, rfl⟩ := Option.map_eq_some_iff.mp h
    exact ⟨d, r.2, hd, List.isEmpty_iff.mp he, hr⟩
  · cases h
/-- a call of a function that changes nothing, its arguments clean -/
theorem pe_callW {T : List Fn} {nm : List Str} {k : Nat} {cfi : CFI} {f : Nat} {d : Fn} {x : Str} {es : List Expr} {as : Es} (F : Fns X T nm k cfi) (hd : T[f]? = some d) (hx : nm[f]? = some x) (hg : Gl X x) (hs : notStar e1 = true) (hdb : (x == ("__debug__" : Str)) = false)
    (ha : PA X (e1 :: es) (tEs X.K M (purely T cfi) (.cons a as))) (hpl : (backTo pos (starEach es X.env)).any (·.1) = false) : PE X (.Call (.Name x p) (e1 :: es) [] pos) (tE X.K M (purely T cfi) (.call f (.cons a as)) (if d.fresh then 3 else 2)) := by
  obtain ⟨x', ad, fd, ps, h1, h2, h3, h4, h5⟩ := F.fn f d hd
  rw [hx] at h1
  cases h1
  refine (pe_call h5 F.room hg h2 h3 h4 .nil pass0 ha hdb (star_of hs) hpl).imp fun σ H Q ⟨g, ρ, w, st, he, q⟩ => ?_
  simp only [evalE, Option.bind_eq_some_iff] at he
  obtain ⟨ws, hw, hc⟩ := he
  obtain ⟨d', os, hd', hio, hcf⟩ := purely_some hc
  rw [hd] at hd'
  cases hd'
  refine ⟨g, ρ, ws, st, hw, fun vs H1 s1 r1 => ?_⟩
  show spF X.K d (cfi f) (vs ++ []) H1 Q E0
  rw [List.append_nil]
  have hlen : ws.length = d.np := F.len f d ws _ hd hcf
  refine ⟨g.cl, ws, w, os, [], r1.len.symm, hlen, fun i w hi _ => r1.get hi, by rw [hio], .nil, (fun _ z => nomatch z), fun k i a w hk => by rw [hio] at hk; simp at hk, hcf, fun v H' k1 _ _ res => ?_⟩
  have sm : Same H1 H' := fun b o e => k1 b o e (by simp)
  exact q v H' (s1.trans sm) ((res.lv (H0 := H) fun p hp => (st.same s1).new hp).back s1)

mutual
theorem flat_rep {S S' : Addr → Prop} {H : Hp} : ∀ (w : W) (v : V), w.flat = true → Rep K S H w v → Rep K S' H w v
  | .non, _, _, h => by rw [h.n]; exact .mkn
  | .bl _, _, _, h => by rw [h.b]; exact .mkb _
  | .int _, _, _, h => by rw [h.i]; exact .mki _
  | .str _, _, _, h => by rw [h.s]; exact .mks _
  | .tup ws, _, f, h => by
    obtain ⟨a, vs, rfl, ha, r⟩ := h.t
    exact .mkt ha (flats_rep ws vs f r)
  | .lst _, _, f, _ => by cases f
  | .dct _, _, f, _ => by cases f
  | .scr _, _, f, _ => by cases f
theorem flats_rep {S S' : Addr → Prop} {H : Hp} : ∀ (ws : List W) (vs : List V), W.flats ws = true → Reps K S H ws vs → Reps K S' H ws vs
  | [], _, _, h => by rw [h.inv_nil]; exact .nil
  | w :: ws, _, f, h => by
    obtain ⟨v, r, rfl, h1, h2⟩ := h.inv_cons
    have f : (w.flat && W.flats ws) = true := f
    rw [Bool.and_eq_true] at f
    exact .cons (flat_rep w v f.1 h1) (flats_rep ws r f.2 h2)
end
theorem flat_obj {w : W} (h : w.flat = true) : w.obj = false := by cases w <;> first | rfl | cases h
theorem pe_callbW {T : List Fn} {nm : List Str} {k : Nat} {cfi : CFI} {f : Nat} {d : Fn} {x : Str} {es : List Expr} {as : Es} (F : Fns X T nm k cfi) (hd : T[f]? = some d) (hx : nm[f]? = some x) (hg : Gl X x) (hs : notStar e1 = true) (hdb : (x == ("__debug__" : Str)) = false)
    (ha : PA X (e1 :: es) (tEa X.K M (purely T cfi) (.cons a as))) (hpl : (backTo pos (starEach es X.env)).any (·.1) = false) : PE X (.Call (.Name x p) (e1 :: es) [] pos) (tE X.K M (purely T cfi) (.callb f (.cons a as)) 3) := by
  obtain ⟨x', ad, fd, ps, h1, h2, h3, h4, h5⟩ := F.fn f d hd
  rw [hx] at h1
  cases h1
  refine (pe_call h5 F.room hg h2 h3 h4 .nil pass0 ha hdb (star_of hs) hpl).imp fun σ H Q ⟨g, ρ, w, st, he, q⟩ => ?_
  simp only [evalE, Option.bind_eq_some_iff] at he
  obtain ⟨ws, hw, w', hc, hf⟩ := he
  split at hf <;> cases hf
  rename_i hfl
  obtain ⟨d', os, hd', hio, hcf⟩ := purely_some hc
  rw [hd] at hd'
  cases hd'
  refine ⟨g, ρ, ws, st, hw, fun vs H1 s1 r1 => ?_⟩
  show spF X.K d (cfi f) (vs ++ []) H1 Q E0
  rw [List.append_nil]
  have hlen : ws.length = d.np := F.len f d ws _ hd hcf
  refine ⟨fun _ => True, ws, w, os, [], r1.len.symm, hlen, fun i w hi _ => r1.get hi, by rw [hio], .nil, (fun _ z => nomatch z), fun k i a w hk => by rw [hio] at hk; simp at hk, hcf, fun v H' k1 _ _ res => ?_⟩
  have sm : Same H1 H' := fun b o e => k1 b o e (by simp)
  exact q v H' (s1.trans sm) (.of (flat_rep w v hfl res.1) (flat_obj hfl) 3)

/-! dict.get, list.index, list(range(n)) -/
theorem pe_dgetW (hu : X.A.units + 1 < cLine) {apos : Pos} (hbase : attributeBase e1 "get" X.env (eval e1 X.env) = eval e1 X.env) (hline : (apos.endLine == pos.line) = true) (hs : notStar e2 = true) (hs3 : notStar e3 = true)
    (ha : PE X e1 (tE X.K M cf a na)) (hb : PE X e2 (tE X.K M cf b nb)) (hc : PE X e3 (tE X.K M cf c nc)) : PE X (.Call (.Attribute e1 "get" apos) [e2, e3] [] pos) (tE X.K M cf (.dget a b c) 3) := by
  have tr : backTo pos (starEach [e2, e3] X.env) = [(false, eval e2 X.env), (false, eval e3 X.env)] := by rw [star_of hs, star_of hs3]; rfl
  refine (pe_dget2 hu ha hb hc ⟨hbase, by rw [tr]; rfl, hline, tr⟩).imp fun σ H Q ⟨g, ρ, w, st, he, q⟩ => ?_
  simp only [evalE, Option.bind_eq_some_iff] at he
  obtain ⟨x, hx, y, hy, z, hz, i, hi, hf⟩ := he
  cases W.int?_some hi
  cases x <;> simp only [dgetW, reduceCtorEq, Option.map_eq_some_iff] at hf
  rename_i kvs
  obtain ⟨k, hk, rfl⟩ := hf
  refine ⟨g, ρ, _, st, hx, fun v H1 s1 r1 => ?_⟩
  obtain ⟨d, rfl, hd, _⟩ := r1.d
  refine ⟨d, rfl, .inr ⟨_, hd⟩, g, ρ, y, st.same s1, hy, fun u H2 s2 r2 => ⟨g, ρ, _, (st.same s1).same s2, hz, fun t H3 s3 r3 => ?_⟩⟩
  obtain ⟨bb, rfl, hb⟩ := key_at r2.any hk
  have hd2 : Rd H3 d (.dT (dKV kvs)) := (Kp.of_same (M := fun _ => False) (s2.trans s3)).rd (fun z => z) hd
  refine ⟨_, dget_at hd2 (s3 _ _ hb), ?_⟩
  rw [r3.i]
  cases e : dGet kvs k with
  | none =>
    rw [e] at q
    exact q _ H3 ((s1.trans s2).trans s3) (.mki _)
  | some n =>
    rw [e] at q
    exact q _ H3 ((s1.trans s2).trans s3) (.mki _)
theorem rangeW_some {i j : Int} {ws : List W} (h : rangeW i j = some ws) : (-(2 ^ 62) ≤ i ∧ i < 2 ^ 62 ∧ -(2 ^ 62) ≤ j ∧ j < 2 ^ 62) ∧ ws = (List.range (j - i).toNat).map fun (k : Nat) => W.int (i + k) := by
  unfold rangeW at h
  split at h <;> cases h
  rename_i hb
  simp only [Bool.and_eq_true, decide_eq_true_eq] at hb
  exact ⟨⟨hb.1.1.1, hb.1.1.2, hb.1.2, hb.2⟩, rfl⟩
theorem rg_reps {S : Addr → Prop} {H : Hp} (i j : Int) : Reps K S H ((List.range (j - i).toNat).map fun (k : Nat) => W.int (i + k)) (rgV i j) := by
  unfold rgV
  generalize List.range (j - i).toNat = l
  induction l with
  | nil => exact .nil
  | cons x l ih => exact .cons (.mki _) ih
theorem pe_lrangeW (hc : X.calm = true) {p2 pos2 : Pos} (hg : Gl X "list") (hm : X.mg "list" = none) (hg2 : Gl X "range") (hm2 : X.mg "range" = none) (hs : notStar e1 = true) (ha : PE X e1 (tE X.K M cf a na)) : PE X (.Call (.Name "list" p) [.Call (.Name "range" p2) [e1] [] pos2] [] pos) (tE X.K M cf (.lrange a) 3) := by
  refine (pe_listRg hc hg hm (prg_1 hg2 hm2 ha (star_of hs)) (star_of rfl)).imp fun σ H Q ⟨g, ρ, w, st, he, q⟩ => ?_
  simp only [evalE, Option.bind_eq_some_iff] at he
  obtain ⟨x, hx, n, hn, hf⟩ := he
  cases W.int?_some hn
  split at hf
  · rename_i hle
    obtain ⟨ws, hw, rfl⟩ := Option.map_eq_some_iff.mp hf
    obtain ⟨⟨h1, h2, h3, h4⟩, rfl⟩ := rangeW_some hw
    refine ⟨g, ρ, _, st, hx, fun v H1 s1 r1 => ⟨n, r1.i, ⟨h1, h2, h3, h4, by omega⟩, fun p hp => ?_⟩⟩
    exact q _ _ (s1.trans (same_upd' hp)) ((new_lst ((st.same s1).new hp) hp (rg_reps (K := X.K) (S := fun _ => False) 0 n) 3 fun _ _ z _ => z.elim).back s1)
  · cases hf
theorem pe_trangeW (hc : X.calm = true) {p2 pos2 : Pos} (hg : Gl X "tuple") (hm : X.mg "tuple" = none) (hg2 : Gl X "range") (hm2 : X.mg "range" = none) (hs : notStar e1 = true) (ha : PE X e1 (tE X.K M cf a na)) : PE X (.Call (.Name "tuple" p) [.Call (.Name "range" p2) [e1] [] pos2] [] pos) (tE X.K M cf (.trange a) 3) := by
  refine (pe_tupRg hc hg hm (prg_1 hg2 hm2 ha (star_of hs)) (star_of rfl)).imp fun σ H Q ⟨g, ρ, w, st, he, q⟩ => ?_
  simp only [evalE, Option.bind_eq_some_iff] at he
  obtain ⟨x, hx, n, hn, hf⟩ := he
  cases W.int?_some hn
  split at hf
  · rename_i hle
    obtain ⟨ws, hw, rfl⟩ := Option.map_eq_some_iff.mp hf
    obtain ⟨⟨h1, h2, h3, h4⟩, rfl⟩ := rangeW_some hw
    refine ⟨g, ρ, _, st, hx, fun v H1 s1 r1 => ⟨n, r1.i, ⟨h1, h2, h3, h4, by omega⟩, fun p hp => ?_⟩⟩
    exact q _ _ (s1.trans (same_upd' hp)) ((new_tup hp (rg_reps (K := X.K) (S := fun _ => False) 0 n) 3 fun _ _ z _ => z.elim).back s1)
  · cases hf
end
end Mini

end

section
set_option maxRecDepth 100000
set_option maxHeartbeats 4000000
/-! SoundG: what loops and comprehensions walk, and where the items go. -/
namespace Mini
open PySem PySem.Spec PyProof.Rows L2
section
variable {K : PySem.W.Frag} {M : List Nat} {g : G} {ρ : Env} {σ : L2.St} {H H' : Hp} {D : Addr}

/-! ### an object of the body's own under way at D -/
def G.push (g : G) (D : Addr) : G := { g with O := D :: g.O }
theorem G.push_cl {g : G} {D b : Addr} : (g.push D).cl b ↔ g.cl b ∧ b ≠ D := by
  unfold G.cl G.push
  simp only [List.mem_cons, not_or]
  constructor
  · rintro ⟨h1, h2, h3⟩
    exact ⟨⟨h1, h3⟩, h2⟩
  · rintro ⟨⟨h1, h2⟩, h3⟩
    exact ⟨h1, h3, h2⟩
def Mo (o : HO) : Prop := (∃ xs, o = .lst xs) ∨ ∃ kvs, o = .dT kvs
theorem kr_upd {S : Addr → Prop} {o : HO} (hS : ∀ b, S b → b ≠ D) (hD : H D = none ∨ ∃ u, H D = some u ∧ Mo u) : Kr S H (upd H D o) := by
  have ne : ∀ a u, H a = some u → ¬ Mo u → a ≠ D := fun a u e hm z => by
    subst z
    rcases hD with h | ⟨u', h, m⟩
    · rw [h] at e; cases e
    · rw [h] at e; cases e; exact hm m
  refine ⟨fun a xs e => ?_, fun a xs s e => ?_, fun a kvs s e => ?_, fun a ob xs e => ?_⟩
  · rw [upd_ne (ne a _ e (by rintro (⟨_, z⟩ | ⟨_, z⟩) <;> cases z))]; exact e
  · rw [upd_ne (hS a s)]; exact e
  · unfold Rd
    rw [upd_ne (hS a s)]
    exact e
  · rw [upd_ne (ne a _ e (by rintro (⟨_, z⟩ | ⟨_, z⟩) <;> cases z))]; exact e
/-- a slot's value while D is changed -/
theorem RepL.upd {n : Nat} {H0 H0' : Hp} {w : W} {v : V} {o : HO} (r : RepL n K g H0 H w v) (hn : n ≤ 2) (hcl : ∀ b, g.cl b → b ≠ D) (hv : ∀ a, v = .ref a → w.obj = true → a ≠ D) (hD : H D = none ∨ ∃ u, H D = some u ∧ Mo u) : RepL n K g H0' (upd H D o) w v := by
  have kr := kr_upd (H := H) (D := D) (S := g.cl) (o := o) hcl hD
  cases w with
  | lst ws =>
    obtain ⟨a, vs, e, h1, h2, h3, h4⟩ := r
    exact ⟨a, vs, e, by rw [upd_ne (hv a e rfl)]; exact h1, h2.kr kr fun _ _ z _ => z, h3, fun q => by omega⟩
  | dct kvs =>
    obtain ⟨a, e, h1, h3, h4⟩ := r
    refine ⟨a, e, ?_, h3, fun q => by omega⟩
    unfold Rd
    rw [upd_ne (hv a e rfl)]
    exact h1
  | _ => exact Rep.kr (K := K) (S := g.cl) kr (fun _ _ z _ => z) _ _ r
theorem StOk.push {o : HO} (s : StOk K M g ρ σ H) (hD : H D = none) (ho : Mo o) : StOk K M (g.push D) ρ σ (upd H D o) := by
  have ne : ∀ {b u}, H b = some u → b ≠ D := fun e => ne_of_none e hD
  have clD := s.new hD
  have up : ∀ {n w v}, n ≤ 2 → RepL n K g H H w v → RepL n K (g.push D) (upd H D o) (upd H D o) w v := fun {n w v} hn r => by
    have r' : RepL n K (g.push D) H H w v := by
      cases w with
      | lst ws =>
        obtain ⟨a, vs, e, h1, h2, h3, h4⟩ := r
        exact ⟨a, vs, e, h1, h2.weak fun b u z e => G.push_cl.mpr ⟨z, ne e⟩, fun q => G.push_cl.mpr ⟨h3 q, ne h1⟩, fun q => by omega⟩
      | dct kvs =>
        obtain ⟨a, e, h1, h3, h4⟩ := r
        exact ⟨a, e, h1, fun q => G.push_cl.mpr ⟨h3 q, h1.elim (fun z => ne z) fun ⟨_, z⟩ => ne z⟩, fun q => by omega⟩
      | _ => exact Rep.weak (K := K) (S := g.cl) (fun b u z e => G.push_cl.mpr ⟨z, ne e⟩) r
    refine r'.upd hn (fun b z => (G.push_cl.mp z).2) (fun a e ho => ?_) (.inl hD)
    cases w with
    | lst ws => obtain ⟨a', vs, e', h1, _⟩ := r; rw [e] at e'; cases e'; exact ne h1
    | dct kvs => obtain ⟨a', e', h1, _⟩ := r; rw [e] at e'; cases e'; exact h1.elim (fun z => ne z) fun ⟨_, z⟩ => ne z
    | _ => cases ho
  exact {
    keep := fun b u e n => by
      rcases s.keep b u e n with q | ⟨l, od, q⟩
      · exact .inl (by rw [upd_ne (ne q)]; exact q)
      · exact .inr ⟨l, od, by rw [upd_ne (ne q)]; exact q⟩
    O := fun b hb => by
      rcases List.mem_cons.mp hb with rfl | hb
      · refine ⟨.inr ?_, ?_⟩
        · rcases clD.1 with z | z
          · cases e : g.H0 b with
            | none => exact e
            | some u =>
              rcases s.keep b u e (fun q => clD.2 (s.ioO b q)) with q | ⟨_, _, q⟩ <;> rw [hD] at q <;> cases q
          · exact z
        · rw [upd_same]
          rcases ho with ⟨xs, rfl⟩ | ⟨kvs, rfl⟩
          · exact .inl ⟨xs, rfl⟩
          · exact .inr ⟨kvs, rfl⟩
      · obtain ⟨h1, h2⟩ := s.O b hb
        refine ⟨h1, ?_⟩
        rcases h2 with ⟨xs, e⟩ | ⟨kvs, e⟩
        · exact .inl ⟨xs, by rw [upd_ne (ne e)]; exact e⟩
        · exact .inr ⟨kvs, by rw [upd_ne (ne e)]; exact e⟩
    ioO := fun b q => List.mem_cons_of_mem _ (s.ioO b q)
    len := s.len
    sl := fun i w e => by
      obtain ⟨v, e1, r⟩ := s.sl i w e
      exact ⟨v, e1, up (mode_le i M) r⟩
    ow := fun i w hi e ho => by
      obtain ⟨a, h1, h2, h3⟩ := s.ow i w hi e ho
      exact ⟨a, h1, h2, List.mem_cons_of_mem _ h3⟩
    inj := s.inj
    od := fun i a e => by
      obtain ⟨u, z⟩ := s.od i a e
      exact ⟨u, by rw [upd_ne (ne z)]; exact z⟩ }
/-- D grows -/
theorem StOk.grow {o : HO} (s : StOk K M (g.push D) ρ σ H) (hn : ∀ i, g.own i ≠ some D) (hD : ∃ u, H D = some u ∧ Mo u) (ho : Mo o) : StOk K M (g.push D) ρ σ (upd H D o) := by
  have dOr : H D = none ∨ ∃ u, H D = some u ∧ Mo u := .inr hD
  have hio : ∀ u, (g.push D).H0 D = some u → D ∉ (g.push D).io → False := fun u e n => by
    rcases (s.O D List.mem_cons_self).1 with z | z
    · exact n z
    · rw [z] at e; cases e
  exact {
    keep := fun b u e n => by
      have hb : b ≠ D := fun z => by subst z; exact hio u e n
      rw [upd_ne hb]
      exact s.keep b u e n
    O := fun b hb => by
      refine ⟨(s.O b hb).1, ?_⟩
      by_cases h : b = D
      · subst h
        rw [upd_same]
        rcases ho with ⟨xs, rfl⟩ | ⟨kvs, rfl⟩
        · exact .inl ⟨xs, rfl⟩
        · exact .inr ⟨kvs, rfl⟩
      · rw [upd_ne h]
        exact (s.O b hb).2
    ioO := s.ioO
    len := s.len
    sl := fun i w e => by
      obtain ⟨v, e1, r⟩ := s.sl i w e
      refine ⟨v, e1, r.upd (mode_le i M) (fun b z => (G.push_cl.mp z).2) (fun a ea ho => ?_) dOr⟩
      by_cases hi : i ∈ M
      · obtain ⟨a', h1, h2, _⟩ := s.ow i w hi e ho
        rw [e1, ea] at h1
        cases h1
        intro z
        exact hn i (z ▸ h2)
      · rw [if_neg hi] at r
        cases w with
        | lst ws => obtain ⟨a', vs, e', _, _, h3, _⟩ := r; rw [ea] at e'; cases e'; exact (G.push_cl.mp (h3 (Nat.le_refl _))).2
        | dct kvs => obtain ⟨a', e', _, h3, _⟩ := r; rw [ea] at e'; cases e'; exact (G.push_cl.mp (h3 (Nat.le_refl _))).2
        | _ => cases ho
    ow := s.ow
    inj := s.inj
    od := fun i a e => by
      obtain ⟨u, z⟩ := s.od i a e
      by_cases h : a = D
      · subst h
        exact ⟨_, upd_same⟩
      · exact ⟨u, by rw [upd_ne h]; exact z⟩ }
theorem StOk.wipe (s : StOk K M g ρ σ H) : ∀ vs : List Nat, StOk K M g (Mini.wipe ρ vs) (L2.wipe σ vs) H
  | [] => s
  | v :: vs => by
    have ih := s.wipe vs
    show StOk K M g ((Mini.wipe ρ vs).set v none) ((L2.wipe σ vs).set v none) H
    exact {
      keep := ih.keep, O := ih.O, ioO := ih.ioO, inj := ih.inj, od := ih.od
      len := by rw [List.length_set, List.length_set, ih.len]
      sl := fun i w e => by
        rw [getv_setN] at e
        split at e
        · cases e
        · rename_i h
          rw [List.getElem?_set_ne h]
          exact ih.sl i w e
      ow := fun i w hi e ho => by
        rw [getv_setN] at e
        split at e
        · cases e
        · rename_i h
          rw [List.getElem?_set_ne h]
          exact ih.ow i w hi e ho }
/-! ### a dict is locked while it is walked -/
def G.lk (g : G) (d : Addr) : G := { g with L := d :: g.L }
theorem kr_lock {S : Addr → Prop} {d : Addr} {kvs : List (List Key × V)} {od : Obj} (h : H d = some (.dT kvs)) : Kr S H (upd H d (.frz od (.dT kvs))) := by
  refine ⟨fun a xs e => ?_, fun a xs s e => ?_, fun a ks s e => ?_, fun a ob xs e => ?_⟩
  · rw [upd_ne (ne_of e h (by intro z; cases z))]; exact e
  · rw [upd_ne (ne_of e h (by intro z; cases z))]; exact e
  · by_cases z : a = d
    · subst z
      rcases e with e | ⟨o, e⟩
      · rw [h] at e; cases e
        exact .inr ⟨od, upd_same⟩
      · rw [h] at e; cases e
    · unfold Rd
      rw [upd_ne z]
      exact e
  · rw [upd_ne (ne_of e h (by intro z; cases z))]; exact e
theorem kr_unlock {S : Addr → Prop} {d : Addr} {kvs : List (List Key × V)} {od : Obj} (h : H d = some (.frz od (.dT kvs))) : Kr S H (upd H d (.dT kvs)) := by
  refine ⟨fun a xs e => ?_, fun a xs s e => ?_, fun a ks s e => ?_, fun a ob xs e => ?_⟩
  · rw [upd_ne (ne_of e h (by intro z; cases z))]; exact e
  · rw [upd_ne (ne_of e h (by intro z; cases z))]; exact e
  · by_cases z : a = d
    · subst z
      rcases e with e | ⟨o, e⟩
      · rw [h] at e; cases e
      · rw [h] at e; cases e
        exact .inl upd_same
    · unfold Rd
      rw [upd_ne z]
      exact e
  · rw [upd_ne (ne_of e h (by intro z; cases z))]; exact e
/-- under a Kr that keeps the lists and dicts of one's own -/
theorem StOk.kr {g' : G} (s : StOk K M g ρ σ H) (hS : g'.S = g.S) (h0 : g'.H0 = g.H0) (hi : g'.io = g.io) (hO : g'.O = g.O) (hw : g'.own = g.own) (kr : Kr (fun _ => True) H H')
    (keep : ∀ b o, g.H0 b = some o → b ∉ g.io → H' b = some o ∨ (b ∈ g'.L ∧ ∃ od, H' b = some (.frz od o))) (O : ∀ b ∈ g.O, H' b = H b) (there : ∀ b u, H b = some u → ∃ u, H' b = some u) : StOk K M g' ρ σ H' := by
  have cl : g'.cl = g.cl := by unfold G.cl; rw [hS, h0, hO]
  have kr' : Kr g.cl H H' := ⟨kr.t, fun a xs _ => kr.l a xs trivial, fun a xs _ => kr.d a xs trivial, kr.f⟩
  exact {
    keep := by rw [h0, hi]; exact keep
    O := by
      rw [hO, hi, h0]
      intro b hb
      rw [O b hb]
      exact s.O b hb
    ioO := by rw [hi, hO]; exact s.ioO
    len := s.len
    sl := fun i w e => by
      obtain ⟨v, e1, r⟩ := s.sl i w e
      refine ⟨v, e1, ?_⟩
      have hm := mode_le i M
      cases w with
      | lst ws =>
        obtain ⟨a, vs, e, h1, h2, h3, _⟩ := r
        exact ⟨a, vs, e, kr.l a vs trivial h1, by rw [cl]; exact h2.kr kr' fun _ _ z _ => z, by rw [cl]; exact h3, fun q => by omega⟩
      | dct kvs =>
        obtain ⟨a, e, h1, h3, _⟩ := r
        exact ⟨a, e, kr.d a _ trivial h1, by rw [cl]; exact h3, fun q => by omega⟩
      | _ => show Rep K g'.cl H' _ v; rw [cl]; exact Rep.kr (K := K) (S := g.cl) kr' (fun _ _ z _ => z) _ _ r
    ow := by rw [hw, hO]; exact s.ow
    inj := by rw [hw]; exact s.inj
    od := by
      rw [hw]
      intro i a e
      obtain ⟨u, z⟩ := s.od i a e
      exact there a u z }
theorem StOk.lock {d : Addr} {kvs : List (List Key × V)} {od : Obj} (s : StOk K M g ρ σ H) (h : H d = some (.dT kvs)) (hd : d ∉ g.O) : StOk K M (g.lk d) ρ σ (upd H d (.frz od (.dT kvs))) := by
  refine s.kr rfl rfl rfl rfl rfl (kr_lock h) (fun b o e n => ?_) (fun b hb => upd_ne fun z => hd (z ▸ hb)) fun b u e => ?_
  · by_cases z : b = d
    · subst z
      rcases s.keep b o e n with q | ⟨_, _, q⟩
      · rw [h] at q
        cases q
        exact .inr ⟨List.mem_cons_self, od, upd_same⟩
      · rw [h] at q
        cases q
    · rw [upd_ne z]
      rcases s.keep b o e n with q | ⟨l, q⟩
      · exact .inl q
      · exact .inr ⟨List.mem_cons_of_mem _ l, q⟩
  · by_cases z : b = d
    · subst z; exact ⟨_, upd_same⟩
    · exact ⟨u, by rw [upd_ne z]; exact e⟩

/-! ### what is walked -/
/-- the dict at d is locked, or nothing is -/
def Lk (H_0 : Hp) (g : G) (H1 H' : Hp) (g' : G) : Prop :=
  (H' = H1 ∧ g' = g) ∨ ∃ d od kvs, d ∉ g.O ∧ H1 d = some (.dT kvs) ∧ H' = upd H1 d (.frz od (.dT kvs)) ∧ g' = g.lk d ∧ ∀ o u, H_0 d ≠ some (.frz o u)
theorem Lk.ok {H_0 : Hp} {g' : G} {H1 : Hp} (h : Lk H_0 g H1 H' g') (s : StOk K M g ρ σ H1) : StOk K M g' ρ σ H' := by
  rcases h with ⟨rfl, rfl⟩ | ⟨d, od, kvs, h1, h2, rfl, rfl, _⟩
  · exact s
  · exact s.lock h2 h1
theorem Lk.cl {H_0 : Hp} {g' : G} {H1 : Hp} (h : Lk H_0 g H1 H' g') : g'.cl = g.cl := by
  rcases h with ⟨rfl, rfl⟩ | ⟨d, od, kvs, h1, h2, rfl, rfl, _⟩
  · rfl
  · rfl
/-- n items, as they come while what is stored changes nothing of them; N: what may be changed meanwhile -/
structure Wk (K : PySem.W.Frag) (N cl : Addr → Prop) (J : L2.It) (ws : List W) (C : Hp → Prop) : Prop where
  stable : ∀ H H', C H → Kp N H H' → C H'
  go : ∀ i H, C H → i < ws.length → J.go i H
  yld : ∀ i H x H', C H → i < ws.length → J.yld i H x H' → H' = H ∧ ∃ w, ws[i]? = some w ∧ Rep K (fun b => cl b ∧ ¬ N b) H w x
  stop : ∀ i H, C H → ws.length ≤ i → J.stop i H
def tI (K : PySem.W.Frag) (M : List Nat) (cf : CF) (H_0 : Hp) (it : It) (n : Nat) : TI := fun σ H R =>
  ∃ g ρ ws, StOk K M g ρ σ H ∧ evalIt cf it ρ = some ws ∧ ∀ J H1 H' g', Same H H1 → Lk H_0 g H1 H' g' →
    (∀ N : Addr → Prop, (∀ b u, H' b = some u → g.cl b ∨ n < 2 → ¬ N b) → ∃ C, C H' ∧ Wk K N g.cl J ws C) → R J H'
theorem _root_.L2.PI.imp {X : Cx} {tg iter : Expr} {t t' : TI} (h : PI X tg iter t) (q : ∀ σ H R, t' σ H R → t σ H R) : PI X tg iter t' := ⟨fun pins s σ H R I w => h.run pins s σ H R I (q _ _ _ w)⟩
theorem rep_N {N : Addr → Prop} {H : Hp} {ws : List W} {vs : List V} {cl : Addr → Prop} (r : Reps K cl H ws vs) (hN : ∀ b u, H b = some u → cl b → ¬ N b) : Reps K (fun b => cl b ∧ ¬ N b) H ws vs := r.weak fun b u z e => ⟨z, hN b u e z⟩
theorem wk_list {N cl : Addr → Prop} {a : Addr} {ws : List W} {vs : List V} {H : Hp} (ha : H a = some (.lst vs)) (r : Reps K cl H ws vs) (hN : ∀ b u, H b = some u → cl b → ¬ N b) (hNa : ¬ N a) :
    ∃ C : Hp → Prop, C H ∧ Wk K N cl (Itl K a) ws C := by
  refine ⟨fun H => H a = some (.lst vs) ∧ Reps K (fun b => cl b ∧ ¬ N b) H ws vs, ⟨ha, rep_N r hN⟩, ⟨fun H H' ⟨h1, h2⟩ k => ⟨k.lst hNa h1, h2.mono k (fun b z => z.2) fun b u z _ => z⟩, fun i H ⟨h1, h2⟩ hi => ?_, fun i H x H' ⟨h1, h2⟩ _ y => ?_, fun i H ⟨h1, h2⟩ hi => ?_⟩⟩
  · obtain ⟨v, e, _⟩ := h2.get (List.getElem?_eq_getElem hi)
    exact ⟨vs, v, .of h1, e⟩
  · obtain ⟨e, y⟩ := y
    obtain ⟨w, e1, e2⟩ := h2.get' (y vs (.of h1))
    exact ⟨e, w, e1, e2⟩
  · exact ⟨vs, .of h1, by rw [h2.len]; exact hi⟩
theorem wk_tup {N cl : Addr → Prop} {a : Addr} {ws : List W} {vs : List V} {H : Hp} (ha : H a = some (.tup vs)) (r : Reps K cl H ws vs) (hN : ∀ b u, H b = some u → cl b → ¬ N b) :
    ∃ C : Hp → Prop, C H ∧ Wk K N cl (Itt K a) ws C := by
  refine ⟨fun H => H a = some (.tup vs) ∧ Reps K (fun b => cl b ∧ ¬ N b) H ws vs, ⟨ha, rep_N r hN⟩, ⟨fun H H' ⟨h1, h2⟩ k => ⟨k _ _ h1 (.inr ⟨(fun _ z => nomatch z), (fun _ z => nomatch z)⟩), h2.mono k (fun b z => z.2) fun b u z _ => z⟩, fun i H ⟨h1, h2⟩ hi => ?_, fun i H x H' ⟨h1, h2⟩ _ y => ?_, fun i H ⟨h1, h2⟩ hi => ?_⟩⟩
  · obtain ⟨v, e, _⟩ := h2.get (List.getElem?_eq_getElem hi)
    exact ⟨vs, v, .of h1, e⟩
  · obtain ⟨e, y⟩ := y
    obtain ⟨w, e1, e2⟩ := h2.get' (y vs (.of h1))
    exact ⟨e, w, e1, e2⟩
  · exact ⟨vs, .of h1, by rw [h2.len]; exact hi⟩
theorem wk_rng {N cl : Addr → Prop} (i j : Int) (H : Hp) : ∃ C : Hp → Prop, C H ∧ Wk K N cl (Itr i (j - i).toNat) ((List.range (j - i).toNat).map fun (k : Nat) => W.int (i + k)) C := by
  refine ⟨fun _ => True, trivial, ⟨fun _ _ _ _ => trivial, fun k H _ hk => by rw [List.length_map, List.length_range] at hk; exact hk, fun k H x H' _ hk y => ?_, fun k H _ hk => by rw [List.length_map, List.length_range] at hk; exact hk⟩⟩
  obtain ⟨e, rfl⟩ := y
  refine ⟨e, _, ?_, .mki _⟩
  have hk : k < (j - i).toNat := by simpa using hk
  rw [List.getElem?_map, List.getElem?_range hk]
  rfl
end
section
variable {X : Cx} {M : List Nat} {cf : CF} {tg e1 e2 : Expr} {a b : E} {na nb : Nat} {pos p : Pos}
/-- a list or a tuple, as it is found -/
def iSeq (K : PySem.W.Frag) (tl : TE) : TI := fun σ H R => tl σ H fun x H1 => ∃ a, x = .ref a ∧ ((∃ xs, H1 a = some (.lst xs) ∧ R (Itl K a) H1) ∨ ∃ xs, H1 a = some (.tup xs) ∧ R (Itt K a) H1)
theorem pi_seq {l : Expr} {tl : TE} (hl : PE X l tl) : PI X tg l (iSeq X.K tl) := by
  refine ⟨fun pins s σ H R I h => ?_⟩
  refine thn (hl.run pins s σ H _ I h) fun v s1 ⟨x, H1, I1, r1, a, e, q⟩ => ?_
  subst e
  obtain rfl : v = Value.ref a := r1
  have pt : PE X (.Constant .none 0 default) (fun _ H Q => Q .non H) := pe_non
  rcases q with ⟨xs, hx, q⟩ | ⟨xs, hx, q⟩
  · obtain ⟨its, rv, pl, hz⟩ := I1.list (.of hx)
    refine wpAny_pyIter_list pl.isList ?_
    refine ⟨s1.heap.objs.size, [s1.heap.objs.size], _, _, H1, rfl, I1.kept (t' := s1.toks) fun b o e => Heap.get?_push_of_some _ e, turn_list a _, ⟨_, Heap.get?_push_size _ rfl, rfl, rfl⟩, fun b hb => ?_, q⟩
    rw [List.mem_singleton.mp hb]
    exact I1.fpOk (Nat.le_refl _) (I1.hok.fresh (Nat.le_refl _))
  · obtain ⟨its, rv, pl, hz⟩ := I1.tuple (.of hx)
    refine wpAny_pyIter_tuple (show s1.heap.IsTuple a its.toArray from pl) ?_
    refine ⟨s1.heap.objs.size, [s1.heap.objs.size], _, _, H1, rfl, I1.kept (t' := s1.toks) fun b o e => Heap.get?_push_of_some _ e, turn_tuple a _, ⟨_, Heap.get?_push_size _ rfl, rfl, rfl⟩, fun b hb => ?_, q⟩
    rw [List.mem_singleton.mp hb]
    exact I1.fpOk (Nat.le_refl _) (I1.hok.fresh (Nat.le_refl _))
theorem W.seq?_some {w : W} {ws : List W} (h : w.seq? = some ws) : w = .lst ws ∨ w = .tup ws := by
  cases w <;> simp only [W.seq?, Option.some.injEq, reduceCtorEq] at h
  · exact .inr (by rw [h])
  · exact .inl (by rw [h])
theorem pi_seqW {H_0 : Hp} (ha : PE X e1 (tE X.K M cf a na)) (h1 : 1 ≤ na) : PI X tg e1 (tI X.K M cf H_0 (.seq a) na) := (pi_seq ha).imp fun σ H R ⟨g, ρ, ws, st, he, q⟩ => by
  simp only [evalIt, Option.bind_eq_some_iff] at he
  obtain ⟨x, hx, hs⟩ := he
  refine ⟨g, ρ, x, st, hx, fun v H1 s1 r1 => ?_⟩
  rcases W.seq?_some hs with rfl | rfl
  · obtain ⟨d, vs, rfl, hd, r, hcl, _⟩ := r1.l
    refine ⟨d, rfl, .inl ⟨vs, hd, q _ H1 H1 g s1 (.inl ⟨rfl, rfl⟩) fun N hN => wk_list hd r (fun b u e z => hN b u e (.inl z)) (hN d _ hd ?_)⟩⟩
    by_cases h2 : 2 ≤ na
    · exact .inl (hcl h2)
    · exact .inr (by omega)
  · obtain ⟨d, vs, rfl, hd, r⟩ := r1.t
    exact ⟨d, rfl, .inr ⟨vs, hd, q _ H1 H1 g s1 (.inl ⟨rfl, rfl⟩) fun N hN => wk_tup hd r (fun b u e z => hN b u e (.inl z))⟩⟩
theorem pi_rngW {H_0 : Hp} (hg : Gl X "range") (hm : X.mg "range" = none) (hs : notStar e1 = true) (ha : PE X e1 (tE X.K M cf a na)) : PI X tg (.Call (.Name "range" p) [e1] [] pos) (tI X.K M cf H_0 (.rng a) 3) :=
  (pi_range1 hg hm (pa_cons ha pa_nil (star_of hs)) (by rw [star_of hs]; rfl)).imp fun σ H R ⟨g, ρ, ws, st, he, q⟩ => by
    simp only [evalIt, Option.bind_eq_some_iff] at he
    obtain ⟨x, hx, n, hn, hr⟩ := he
    cases W.int?_some hn
    obtain ⟨⟨h1, h2, h3, h4⟩, rfl⟩ := rangeW_some hr
    refine ⟨g, ρ, _, st, hx, fun v H1 s1 r1 => ⟨n, by rw [r1.i], h3, h4, q _ H1 H1 g s1 (.inl ⟨rfl, rfl⟩) fun N _ => ?_⟩⟩
    have := wk_rng (K := X.K) (N := N) (cl := g.cl) 0 n H1
    rw [Int.sub_zero] at this ⊢
    exact this
theorem pi_rng2W {H_0 : Hp} (hg : Gl X "range") (hm : X.mg "range" = none) (hs : notStar e1 = true) (hs2 : notStar e2 = true) (ha : PE X e1 (tE X.K M cf a na)) (hb : PE X e2 (tE X.K M cf b nb)) : PI X tg (.Call (.Name "range" p) [e1, e2] [] pos) (tI X.K M cf H_0 (.rng2 a b) 3) :=
  (pi_range2 hg hm (pa_cons ha (pa_cons hb pa_nil (star_of hs2)) (star_of hs)) (by rw [star_of hs, star_of hs2]; rfl) (by rw [star_of hs2]; rfl)).imp fun σ H R ⟨g, ρ, ws, st, he, q⟩ => by
    simp only [evalIt, Option.bind_eq_some_iff] at he
    obtain ⟨x, hx, y, hy, m, hm, n, hn, hr⟩ := he
    cases W.int?_some hm
    cases W.int?_some hn
    obtain ⟨hb, rfl⟩ := rangeW_some hr
    refine ⟨g, ρ, _, st, hx, fun v H1 s1 r1 => ⟨g, ρ, _, st.same s1, hy, fun u H2 s2 r2 => ⟨m, n, by rw [r1.i, r2.i], hb, q _ H2 H2 g (s1.trans s2) (.inl ⟨rfl, rfl⟩) fun N _ => wk_rng m n H2⟩⟩⟩
end
end Mini

end

section
set_option maxRecDepth 100000
set_option maxHeartbeats 4000000
/-! SoundH: dicts walked, targets, list comprehensions. -/
namespace Mini
open PySem PySem.Spec PyProof.Rows L2
section
variable {X : Cx} {M : List Nat} {cf : CF} {tg e1 e2 : Expr} {a b : E} {na nb : Nat} {pos p : Pos}
def iKeysL (H_0 : Hp) (td : TE) : TI := fun σ H R => td σ H fun x H1 => ∃ d kvs, x = .ref d ∧ ((∃ o, H1 d = some (.frz o (.dT kvs)) ∧ R (Itkt d o kvs) H1) ∨
  (H1 d = some (.dT kvs) ∧ ∀ od, (∀ o u, H_0 d ≠ some (.frz o u)) → R (Itkt d od kvs) (upd H1 d (.frz od (.dT kvs)))))
theorem pi_keysL {e : Expr} {td : TE} (he : PE X e td) : PI X tg e (iKeysL X.H_0 td) := by
  refine ⟨fun pins s σ H R I h => ?_⟩
  refine thn (he.run pins s σ H _ I h) fun u s1 ⟨x, H1, I1, rx, d, kvs, ex, q⟩ => ?_
  subst ex
  obtain rfl : u = Value.ref d := rx
  have go : ∀ {H2 : Hp} {o : Obj}, Inv X pins σ H2 s1 → H2 d = some (.frz o (.dT kvs)) → R (Itkt d o kvs) H2 → wpAny (model X.prog X.w) X.A (pyIter (.ref d)) (PIE X pins σ tg R) X.xe s1 := fun {H2 o} I2 hd q => by
    obtain ⟨hs, hgd, hx, es, ep, hdt, hsz, ent⟩ := I2.frzT hd
    refine iter_keys hs hgd hx hdt (pi_one (tk := s1.toks) I2 _ (turn_keysT _ hdt) ⟨_, Heap.get?_push_size _ rfl, rfl, ?_⟩ q)
    rw [hsz] <;> rfl
  rcases q with ⟨o, hd, q⟩ | ⟨hd, q⟩
  · exact go I1 hd q
  · obtain ⟨od, I2⟩ := I1.lock hd trivial
    exact go I2 upd_same (q od (I1.nofrz hd trivial))
theorem wk_keys {K : PySem.W.Frag} {N cl : Addr → Prop} {d : Addr} {o : Obj} {kvs : List (List Int × Int)} {H : Hp} (hd : H d = some (.frz o (.dT (dKV kvs)))) : ∃ C : Hp → Prop, C H ∧ Wk K N cl (Itkt d o (dKV kvs)) (kvs.map fun kv => W.tup (kv.1.map .int)) C := by
  have hl : (dKV kvs).length = kvs.length := List.length_map ..
  refine ⟨fun H => H d = some (.frz o (.dT (dKV kvs))), hd, ⟨fun H H' h k => k.frz h, fun i H h hi => ⟨h, by rw [hl]; simpa using hi⟩, fun i H x H' h hi y => ?_, fun i H h hi => ⟨h, by rw [hl]; simpa using hi⟩⟩⟩
  obtain ⟨e, k, v, q, h1, rfl, h3⟩ := y
  refine ⟨e, ?_⟩
  unfold dKV at h1
  rw [List.getElem?_map] at h1
  obtain ⟨kv, e1, e2⟩ := Option.map_eq_some_iff.mp h1
  cases e2
  rw [kV_ints] at h3
  exact ⟨.tup (kv.1.map .int), by rw [List.getElem?_map, e1]; rfl, .mkt h3 (.map_int _)⟩
theorem pi_keysW (ha : PE X e1 (tE X.K M cf a na)) (h1 : 2 ≤ na) : PI X tg e1 (tI X.K M cf X.H_0 (.keys a) 3) := (pi_keysL ha).imp fun σ H R ⟨g, ρ, ws, st, he, q⟩ => by
  simp only [evalIt, Option.bind_eq_some_iff, Option.map_eq_some_iff] at he
  obtain ⟨x, hx, kvs, hk, rfl⟩ := he
  cases x <;> simp only [W.dct?, Option.some.injEq, reduceCtorEq] at hk
  subst hk
  rename_i kvs
  refine ⟨g, ρ, _, st, hx, fun v H1 s1 r1 => ?_⟩
  obtain ⟨d, rfl, hd, hcl, _⟩ := r1.d
  refine ⟨d, dKV kvs, rfl, ?_⟩
  rcases hd with hd | ⟨o, hd⟩
  · exact .inr ⟨hd, fun od nf => q _ H1 _ _ s1 (.inr ⟨d, od, _, (hcl h1).2, hd, rfl, rfl, nf⟩) fun N _ => wk_keys upd_same⟩
  · exact .inl ⟨o, hd, q _ H1 _ _ s1 (.inl ⟨rfl, rfl⟩) fun N _ => wk_keys hd⟩

/-! ### targets -/
structure TgOk (X : Cx) (i : Nat) (x : Str) : Prop where
  n : X.N[i]? = some x
  l : Loc X.env.scope x
  f : X.fn x = true ∨ X.env.scope.names.lookup x = some .local
def gW (K : PySem.W.Frag) (M : List Nat) (tg : Tg) : TG := fun v σ H Q => ∃ g ρ w ρ', StOk K M g ρ σ H ∧ Rep K g.cl H w v ∧ assign tg w ρ = some ρ' ∧
  ∀ σ', StOk K M g ρ' σ' H → (∀ vs, (∀ i ∈ tg.slots, i ∈ vs) → L2.wipe σ' vs = L2.wipe σ vs) → Q σ' H
theorem _root_.L2.PG.imp {X : Cx} {tg : Expr} {t t' : TG} (h : PG X tg t) (q : ∀ v σ H Q, t' v σ H Q → t v σ H Q) : PG X tg t' := ⟨fun pins s σ H v u Q I r w => h.run pins s σ H v u Q I r (q _ _ _ _ w)⟩
theorem set_twice {α : Type} (l : List α) (i j : Nat) (x y : α) (h : i ≠ j) : (l.set i x).set j y = (l.set j y).set i x := List.set_comm _ _ h
theorem wipe_set (σ : L2.St) (i : Nat) (x : Option V) : ∀ vs : List Nat, i ∈ vs → L2.wipe (σ.set i x) vs = L2.wipe σ vs
  | [], h => nomatch h
  | j :: vs, h => by
    show (L2.wipe (σ.set i x) vs).set j none = (L2.wipe σ vs).set j none
    by_cases hm : i ∈ vs
    · rw [wipe_set σ i x vs hm]
    · rcases List.mem_cons.mp h with rfl | hm'
      · have key : ∀ us : List Nat, i ∉ us → L2.wipe (σ.set i x) us = (L2.wipe σ us).set i x := by
          intro us
          induction us with
          | nil => intro _; rfl
          | cons u us ih =>
            intro hu
            show (L2.wipe (σ.set i x) us).set u none = ((L2.wipe σ us).set u none).set i x
            rw [ih fun z => hu (List.mem_cons_of_mem _ z), List.set_comm _ _ fun z => hu (by simp [z])]
        rw [key vs hm, List.set_set]
      · exact absurd hm' hm
theorem wipe_wipe (σ : L2.St) : ∀ vs : List Nat, L2.wipe (L2.wipe σ vs) vs = L2.wipe σ vs := by
  intro vs
  have key : ∀ us : List Nat, (∀ i ∈ us, i ∈ vs) → L2.wipe (L2.wipe σ us) vs = L2.wipe σ vs := by
    intro us
    induction us with
    | nil => intro _; rfl
    | cons u us ih =>
      intro h
      show L2.wipe ((L2.wipe σ us).set u none) vs = _
      rw [wipe_set _ _ _ _ (h u List.mem_cons_self)]
      exact ih fun i hi => h i (List.mem_cons_of_mem _ hi)
  exact key vs fun _ h => h
theorem pg_one {i : Nat} {x : Str} (hN : X.N.Nodup) (t : TgOk X i x) (hM : i ∉ M) : PG X (.Name x pos) (gW X.K M (.one i)) := (pg_name hN t.n t.l t.f).imp fun v σ H Q ⟨g, ρ, w, ρ', st, r, e, q⟩ => by
  cases e
  exact q _ (st.set hM r) fun vs hvs => wipe_set σ i _ vs (hvs i List.mem_cons_self)
/-- several names, the values given -/
def gWs (K : PySem.W.Frag) (M : List Nat) (is : List Nat) : TGs := fun vs σ H Q => ∃ g ρ ws ρ', StOk K M g ρ σ H ∧ Reps K g.cl H ws vs ∧ setMany is ws ρ = some ρ' ∧
  ∀ σ', StOk K M g ρ' σ' H → (∀ vs, (∀ i ∈ is, i ∈ vs) → L2.wipe σ' vs = L2.wipe σ vs) → Q σ' H
theorem _root_.L2.PGs.imp {X : Cx} {tg : List Expr} {t t' : TGs} (h : PGs X tg t) (q : ∀ v σ H Q, t' v σ H Q → t v σ H Q) : PGs X tg t' := ⟨fun pins s σ H v u Q I r w => h.run pins s σ H v u Q I r (q _ _ _ _ w)⟩
theorem pgs_0 : PGs X [] (gWs X.K M []) := pgs_nil.imp fun v σ H Q ⟨g, ρ, ws, ρ', st, r, e, q⟩ => by
  cases ws with
  | nil =>
    cases e
    exact ⟨r.inv_nil, q σ st fun _ _ => rfl⟩
  | cons w ws => cases e
theorem pgs_1 {i : Nat} {x : Str} {is : List Nat} {es : List Expr} (hN : X.N.Nodup) (t : TgOk X i x) (hM : i ∉ M) (hr : PGs X es (gWs X.K M is)) : PGs X (.Name x pos :: es) (gWs X.K M (i :: is)) :=
  (pgs_cons (pg_name hN t.n t.l t.f) hr).imp fun v σ H Q ⟨g, ρ, ws, ρ', st, r, e, q⟩ => by
    cases ws with
    | nil => cases e
    | cons w ws =>
      obtain ⟨v1, vr, rfl, r1, r2⟩ := r.inv_cons
      refine ⟨v1, vr, rfl, g, _, ws, ρ', st.set hM r1, r2, e, fun σ' s' hw => q σ' s' fun vs hvs => ?_⟩
      rw [hw vs fun j hj => hvs j (List.mem_cons_of_mem _ hj)]
      exact wipe_set σ i _ vs (hvs i List.mem_cons_self)
theorem setMany_len : ∀ {is : List Nat} {ws : List W} {ρ ρ' : Env}, setMany is ws ρ = some ρ' → ws.length = is.length
  | [], [], _, _, _ => rfl
  | [], _ :: _, _, _, h => by cases h
  | _ :: _, [], _, _, h => by cases h
  | _ :: is, _ :: ws, _, _, h => by rw [List.length_cons, List.length_cons, setMany_len (is := is) (ws := ws) h]
theorem pg_many {is : List Nat} {es : List Expr} {k : Nat} (hc : X.calm = true) (h : PGs X es (gWs X.K M is)) (hn : (assignEach es X.env).length = is.length) (hst : (assignEach es X.env).findIdx? (·.1) = none) : PG X (.Tuple es k pos) (gW X.K M (.many is)) :=
  (pg_tup hc h hn hst).imp fun v σ H Q ⟨g, ρ, w, ρ', st, r, e, q⟩ => by
    cases w <;> simp only [assign, reduceCtorEq] at e
    rename_i ws
    obtain ⟨d, vs, rfl, hd, r⟩ := r.t
    exact ⟨d, vs, rfl, .of hd, by rw [r.len]; exact setMany_len e, g, ρ, ws, ρ', st, r, e, q⟩
end
end Mini

end

section
set_option maxRecDepth 100000
set_option maxHeartbeats 4000000
/-! SoundI: list comprehensions. -/
namespace Mini
open PySem PySem.Spec PyProof.Rows L2
section
variable {X : Cx} {K : PySem.W.Frag} {M : List Nat} {cf : CF} {g : G} {ρ : Env} {σ : L2.St}

def tUnl (H_0 : Hp) (t : TE) : TE := fun σ H Q => t σ H fun v H' => Q v H' ∨ ∃ d od u, H' d = some (.frz od u) ∧ (∀ o' u', H_0 d ≠ some (.frz o' u')) ∧ Q v (upd H' d u)
theorem pe_unl {e : Expr} {t : TE} (h : PE X e t) : PE X e (tUnl X.H_0 t) := by
  refine ⟨fun pins s σ H Q I w => thn (h.run pins s σ H _ I w) fun v s1 ⟨x, H1, I1, r, q⟩ => ?_⟩
  rcases q with q | ⟨d, od, u, e, n, q⟩
  · exact ⟨x, H1, I1, r, q⟩
  · exact ⟨x, _, I1.unlock e n, r, q⟩
def tC (K : PySem.W.Frag) (M : List Nat) (cf : CF) (c : Oe) : TT := fun σ H Q =>
  ∃ g ρ b, StOk K M g ρ σ H ∧ evalC cf c ρ = some b ∧ ∀ H', Same H H' → Q b H'
theorem pts_no : PTs X [] (tC X.K M cf .no) := ⟨fun pins s σ H Q I ⟨g, ρ, b, st, he, q⟩ => pts_nil.run pins s σ H Q I (by
  simp only [evalC, Option.some.injEq] at he
  subst he
  exact q H (Same.refl H))⟩
theorem pts_so {c : Expr} {a : E} (h : PT X c (tT X.K M cf a)) : PTs X [c] (tC X.K M cf (.so a)) := pts_one ⟨fun pins s σ H Q I w => h.run pins s σ H Q I w⟩

/-- the list under way -/
structure LcSt (K : PySem.W.Frag) (M : List Nat) (g : G) (ρ : Env) (σ : L2.St) (H' : Hp) (D : Addr) (C : Hp → Prop) (acc : List W) (H : Hp) : Prop where
  st : StOk K M (g.push D) ρ σ H
  sm : Same H' H
  c : C H
  l : ∃ vs, H D = some (.lst vs) ∧ Reps K (g.push D).cl H acc vs
theorem kp_upd {H H4 : Hp} {D : Addr} {xs ys : List V} (hD : H D = some (.lst xs)) (s : Same H H4) : Kp (fun b => b = D) H (upd H4 D (.lst ys)) := fun b o e h => by
  rcases h with h | h
  · rw [upd_ne h]; exact s _ _ e
  · by_cases z : b = D
    · subst z
      rw [hD] at e
      cases e
      exact absurd rfl (h.1 xs)
    · rw [upd_ne z]; exact s _ _ e
theorem LcSt.same {H' H H4 : Hp} {D : Addr} {C : Hp → Prop} {acc : List W} (h : LcSt K M g ρ σ H' D C acc H) (s : Same H H4) {N cl : Addr → Prop} {J : L2.It} {ws : List W} (wk : Wk K N cl J ws C) : LcSt K M g ρ σ H' D C acc H4 where
  st := h.st.same s
  sm := h.sm.trans s
  c := wk.stable _ _ h.c (Kp.of_same s)
  l := by
    obtain ⟨vs, e, r⟩ := h.l
    exact ⟨vs, s _ _ e, r.same s fun _ _ z _ => z⟩
theorem LcSt.app {H' H : Hp} {D : Addr} {C : Hp → Prop} {acc : List W} {w : W} {y : V} (h : LcSt K M g ρ σ H' D C acc H) (hD : H' D = none) (hn : ∀ i, g.own i ≠ some D)
    {cl : Addr → Prop} {J : L2.It} {ws : List W} (wk : Wk K (fun b => b = D) cl J ws C) (r : Rep K (g.push D).cl H w y) : ∃ vs, H D = some (.lst vs) ∧ vs.length = acc.length ∧ LcSt K M g ρ σ H' D C (acc ++ [w]) (upd H D (.lst (vs ++ [y]))) := by
  obtain ⟨vs, e, rr⟩ := h.l
  have kr : Kr (g.push D).cl H (upd H D (.lst (vs ++ [y]))) := kr_upd (fun b z => (G.push_cl.mp z).2) (.inr ⟨_, e, .inl ⟨_, rfl⟩⟩)
  refine ⟨vs, e, rr.len, ⟨h.st.grow hn ⟨_, e, .inl ⟨_, rfl⟩⟩ (.inl ⟨_, rfl⟩), fun b o q => ?_, wk.stable _ _ h.c (kp_upd e (Same.refl H)), _, upd_same, ?_⟩⟩
  · rw [upd_ne (fun z => by subst z; rw [hD] at q; cases q)]
    exact h.sm _ _ q
  · exact (rr.append (.cons r .nil)).kr kr fun _ _ z _ => z
theorem LcSt.start {H' : Hp} {D : Addr} {C : Hp → Prop} (st : StOk K M g ρ σ H') (hD : H' D = none) (c : C H') {cl : Addr → Prop} {J : L2.It} {ws : List W} (wk : Wk K (fun b => b = D) cl J ws C) : LcSt K M g ρ σ H' D C [] (upd H' D (.lst [])) where
  st := st.push hD (.inl ⟨_, rfl⟩)
  sm := same_upd' hD
  c := wk.stable _ _ c fun b o e _ => by
    rw [upd_ne (ne_of_none e hD)]
    exact e
  l := ⟨[], upd_same, .nil⟩
theorem own_ne {H' : Hp} {D : Addr} (st : StOk K M g ρ σ H') (hD : H' D = none) (i : Nat) : g.own i ≠ some D := fun e => by
  obtain ⟨u, z⟩ := st.od i D e
  rw [hD] at z
  cases z
/-- the answer -/
theorem lc_end {H_0 H H1 H' H2 : Hp} {g' : G} {D : Addr} {C : Hp → Prop} {acc : List W} {Q : VK} (st : StOk K M g ρ σ H) (s1 : Same H H1) (lk : Lk H_0 g H1 H' g') (hD : H' D = none) (h : LcSt K M g' ρ σ H' D C acc H2)
    (q : ∀ v H', Same H H' → RepL 3 K g H H' (.lst acc) v → Q v H') : Q (.ref D) H2 ∨ ∃ d od u, H2 d = some (.frz od u) ∧ (∀ o' u', H_0 d ≠ some (.frz o' u')) ∧ Q (.ref D) (upd H2 d u) := by
  obtain ⟨vs, e, r⟩ := h.l
  have hcl := lk.cl
  have clD : g'.cl D := (lk.ok (st.same s1)).new hD
  rw [hcl] at clD
  have r1 : Reps K (fun b => g.cl b ∧ b ≠ D) H2 acc vs := r.weak fun b u z _ => by
    have := G.push_cl.mp z
    rw [hcl] at this
    exact this
  rcases lk with ⟨rfl, rfl⟩ | ⟨d, od, kvs, h1, h2, rfl, rfl, nf⟩
  · exact .inl (q _ _ (s1.trans h.sm) ⟨D, vs, rfl, e, r1.weak fun _ _ z _ => z.1, fun _ => clD, fun _ => ⟨s1.free hD, r1⟩⟩)
  · have nD : D ≠ d := fun z => by subst z; rw [upd_same] at hD; cases hD
    have hd : H2 d = some (.frz od (.dT kvs)) := h.sm _ _ upd_same
    have hD1 : H1 D = none := by rw [upd_ne nD] at hD; exact hD
    refine .inr ⟨d, od, .dT kvs, hd, nf, q _ _ (fun b o eb => ?_) ⟨D, vs, rfl, by rw [upd_ne nD]; exact e, ?_, fun _ => clD, fun _ => ⟨s1.free hD1, r1.kr (kr_unlock hd) fun _ _ z _ => z⟩⟩⟩
    · by_cases z : b = d
      · subst z
        rw [s1 _ _ eb] at h2
        cases h2
        rw [upd_same]
      · rw [upd_ne z]
        refine h.sm _ _ ?_
        rw [upd_ne z]
        exact s1 _ _ eb
    · exact (r1.weak fun _ _ z _ => z.1).kr (kr_unlock hd) fun _ _ z _ => z
theorem lcGo_cons {f : W → Option (Option W)} {w : W} {ws r : List W} (h : lcGo f (w :: ws) = some r) : ∃ o rest, f w = some o ∧ lcGo f ws = some rest ∧ r = o.toList ++ rest := by
  simp only [lcGo, Option.bind_eq_some_iff, Option.some.injEq] at h
  obtain ⟨o, h1, rest, h2, rfl⟩ := h
  refine ⟨o, rest, h1, h2, ?_⟩
  cases o <;> rfl
theorem lc2Go_cons {f : W → Option (List W)} {w : W} {ws r : List W} (h : lc2Go f (w :: ws) = some r) : ∃ o rest, f w = some o ∧ lc2Go f ws = some rest ∧ r = o ++ rest := by
  simp only [lc2Go, Option.bind_eq_some_iff, Option.some.injEq] at h
  obtain ⟨o, h1, rest, h2, rfl⟩ := h
  exact ⟨o, rest, h1, h2, rfl⟩
theorem drop_at {α : Type} {l : List α} {i : Nat} {w : α} (h : l[i]? = some w) : l.drop i = w :: l.drop (i + 1) := by
  obtain ⟨hi, rfl⟩ := List.getElem?_eq_some_iff.mp h
  exact List.drop_eq_getElem_cons hi
theorem lc_imp {own : List (Str × Nat)} {tg : Tg} {it : It} {c : Oe} {e : E} {n ni : Nat} (ho : own.map (·.2) = tg.slots) (hn : 2 ≤ n) (σ : L2.St) (H : Hp) (Q : VK) :
    tE X.K M cf (.lc e tg it c) 3 σ H Q → tUnl X.H_0 (tLc (tI X.K M cf X.H_0 it ni) (gW X.K M tg) (tC X.K M cf c) (tE X.K M cf e n) (own.map (·.2))) σ H Q := fun ⟨g, ρ, w, st, hev, q⟩ => by
  simp only [evalE, Option.bind_eq_some_iff, Option.map_eq_some_iff] at hev
  obtain ⟨ws, hws, r', hr, r, hr', rfl⟩ := hev
  obtain ⟨rfl, hlen⟩ := guard_some hr'
  rw [ho]
  refine ⟨g, ρ, ws, st, hws, fun J H1 H' g' s1 lk wk => fun D hD => ?_⟩
  obtain ⟨C, c0, wkk⟩ := wk (fun b => b = D) (fun b u e _ z => by subst z; rw [hD] at e; cases e)
  have st' := lk.ok (st.same s1)
  have hown := own_ne st' hD
  refine ⟨fun i m H2 => ∃ acc rest, m = ws.length - i ∧ i ≤ ws.length ∧ lcGo _ (ws.drop i) = some rest ∧ acc ++ rest = r ∧ LcSt X.K M g' ρ σ H' D C acc H2, ⟨_, [], r, rfl, Nat.zero_le _, hr, rfl, .start st' hD c0 wkk⟩, ?_⟩
  rintro i m H2 ⟨acc, rest, rfl, hle, hgo, hcat, ls⟩
  by_cases hi : i < ws.length
  · refine .inr ⟨wkk.go i H2 ls.c hi, fun H3 => ∃ acc rest, lcGo _ (ws.drop (i + 1)) = some rest ∧ acc ++ rest = r ∧ LcSt X.K M g' ρ σ H' D C acc H3, fun H3 ⟨acc, rest, z⟩ => ⟨_, (by omega : ws.length - (i + 1) < ws.length - i), acc, rest, rfl, hi, z⟩, ?_⟩
    intro x H3 y
    obtain ⟨rfl, w, ew, rw⟩ := wkk.yld i H2 x H3 ls.c hi y
    rw [drop_at ew] at hgo
    obtain ⟨o, rest', hf, hgo', rfl⟩ := lcGo_cons hgo
    simp only [Option.bind_eq_some_iff] at hf
    obtain ⟨ρ1, ha, k, hk, hf⟩ := hf
    refine ⟨g'.push D, Mini.wipe ρ tg.slots, w, ρ1, ls.st.wipe _, rw.weak fun b u z _ => G.push_cl.mpr ⟨by rw [lk.cl]; exact z.1, z.2⟩, ha, fun σ2 st2 hw => ⟨?_, g'.push D, ρ1, k, st2, hk, fun H4 s4 => ?_⟩⟩
    · rw [hw _ fun _ z => z, wipe_wipe]
    · cases k with
      | false =>
        simp only [Bool.false_eq_true, if_false, Option.some.injEq] at hf ⊢
        subst hf
        exact ⟨acc, rest', hgo', hcat, ls.same s4 wkk⟩
      | true =>
        simp only [if_true, Option.map_eq_some_iff] at hf ⊢
        obtain ⟨z, hz, rfl⟩ := hf
        refine ⟨g'.push D, ρ1, z, st2.same s4, hz, fun y5 H5 s5 r5 => ?_⟩
        obtain ⟨vs, e1, e2, l2⟩ := (ls.same (s4.trans s5) wkk).app hD hown wkk (r5.rep hn)
        refine ⟨vs, e1, ?_, acc ++ [z], rest', hgo', by rw [← hcat]; simp, l2⟩
        have : acc.length < r.length := by rw [← hcat]; simp
        omega
  · have : i = ws.length := by omega
    subst this
    rw [List.drop_length] at hgo
    cases hgo
    rw [List.append_nil] at hcat
    subst hcat
    exact .inl ⟨wkk.stop _ H2 ls.c (Nat.le_refl _), lc_end st s1 lk hD ls q⟩
theorem pe_lcW {elt tg' iter : Expr} {ifs : List Expr} {scope : Scope} {own : List (Str × Nat)} {pos : Pos} {tg : Tg} {it : It} {c : Oe} {e : E} {n ni : Nat} (hc : X.calm = true) (hN : X.N.Nodup) (hi : PI X tg' iter (tI X.K M cf X.H_0 it ni)) (ok : BlkOk X.N X.env.scope scope own) (ho : own.map (·.2) = tg.slots)
    (hg : ∀ (s : Shared) (H : Hp) (C : Addr) (cl : List (Str × Addr)) (fp : List Addr), PG (X.blk s H scope (compEnvC scope cl C X.env) fp) tg' (gW X.K M tg)) (ht : ∀ (s : Shared) (H : Hp) (C : Addr) (cl : List (Str × Addr)) (fp : List Addr), PTs (X.blk s H scope (compEnvC scope cl C X.env) fp) ifs (tC X.K M cf c))
    (he : ∀ (s : Shared) (H : Hp) (C : Addr) (cl : List (Str × Addr)) (fp : List Addr), PE (X.blk s H scope (compEnvC scope cl C X.env) fp) elt (tE X.K M cf e n)) (hn : 2 ≤ n) (hs : ∀ x, foldedSetIterable iter X.env x = pure x := by intro _; rfl) :
    PE X (.ListComp elt [⟨tg', iter, ifs, 0⟩] scope pos) (tE X.K M cf (.lc e tg it c) 3) := (pe_unl (pe_lc hc hN hi ok hg ht he hs)).imp (lc_imp ho hn)
/-- no lock -/
def HN : Hp := fun _ => some (.frz default (.lst []))
theorem Lk.none {g g' : G} {H1 H' : Hp} (h : Lk HN g H1 H' g') : H' = H1 ∧ g' = g := by
  rcases h with h | ⟨d, od, kvs, _, _, _, _, nf⟩
  · exact h
  · exact absurd rfl (nf default (.lst []))
theorem lc2_imp {own : List (Str × Nat)} {tg tg2 : Tg} {it it2 : It} {c : Oe} {e : E} {n ni ni2 : Nat} (ho : own.map (·.2) = tg.slots ++ tg2.slots) (hn : 2 ≤ n) (hn2 : 2 ≤ ni2) (σ : L2.St) (H : Hp) (Q : VK) :
    tE X.K M cf (.lc2 e tg it tg2 it2 c) 3 σ H Q → tUnl X.H_0 (tLc2 (tI X.K M cf X.H_0 it ni) (gW X.K M tg) tYes (tI X.K M cf HN it2 ni2) (gW X.K M tg2) (tC X.K M cf c) (tE X.K M cf e n) (own.map (·.2)) tg2.slots) σ H Q := fun ⟨g, ρ, w, st, hev, q⟩ => by
  simp only [evalE, Option.bind_eq_some_iff, Option.map_eq_some_iff] at hev
  obtain ⟨ws, hws, r', hr, r, hr', rfl⟩ := hev
  obtain ⟨rfl, hlen⟩ := guard_some hr'
  rw [ho]
  refine ⟨g, ρ, ws, st, hws, fun J H1 H' g' s1 lk wk => fun D hD => ?_⟩
  have hND : ∀ b u, H' b = some u → b ≠ D := fun b u e z => by subst z; rw [hD] at e; cases e
  obtain ⟨C, c0, wkk⟩ := wk (fun b => b = D) (fun b u e _ => hND b u e)
  have st' := lk.ok (st.same s1)
  have hown := own_ne st' hD
  refine ⟨fun i m H2 => ∃ acc rest, m = ws.length - i ∧ i ≤ ws.length ∧ lc2Go _ (ws.drop i) = some rest ∧ acc ++ rest = r ∧ LcSt X.K M g' ρ σ H' D C acc H2, ⟨_, [], r, rfl, Nat.zero_le _, hr, rfl, .start st' hD c0 wkk⟩, ?_⟩
  rintro i m H2 ⟨acc, rest, rfl, hle, hgo, hcat, ls⟩
  by_cases hi : i < ws.length
  · refine .inr ⟨wkk.go i H2 ls.c hi, fun H3 => ∃ acc rest, lc2Go _ (ws.drop (i + 1)) = some rest ∧ acc ++ rest = r ∧ LcSt X.K M g' ρ σ H' D C acc H3, fun H3 ⟨acc, rest, z⟩ => ⟨_, (by omega : ws.length - (i + 1) < ws.length - i), acc, rest, rfl, hi, z⟩, ?_⟩
    intro x H3 y
    obtain ⟨rfl, w, ew, rw⟩ := wkk.yld i H2 x H3 ls.c hi y
    rw [drop_at ew] at hgo
    obtain ⟨o, rest', hf, hgo', rfl⟩ := lc2Go_cons hgo
    simp only [Option.bind_eq_some_iff] at hf
    obtain ⟨ρ1, ha, ws2, hw2, hin⟩ := hf
    refine ⟨g'.push D, Mini.wipe ρ (tg.slots ++ tg2.slots), w, ρ1, ls.st.wipe _, rw.weak fun b u z _ => G.push_cl.mpr ⟨by rw [lk.cl]; exact z.1, z.2⟩, ha, fun σ2 st2 hw => ⟨?_, ?_⟩⟩
    · rw [hw _ fun _ z => List.mem_append_left _ z, wipe_wipe]
    simp only [tYes, eq_self, if_true]
    refine ⟨g'.push D, ρ1, ws2, st2, hw2, fun J2 H4 H4' g4 s4 lk4 wk4 => ?_⟩
    obtain ⟨rfl, rfl⟩ := lk4.none
    have ls4 := ls.same s4 wkk
    obtain ⟨C2, c2, wk2⟩ := wk4 (fun b => b = D) (fun b u e z => (G.push_cl.mp (z.resolve_right (by omega))).2)
    refine ⟨fun j k H5 => ∃ acc2 rest2, k = ws2.length - j ∧ j ≤ ws2.length ∧ lcGo _ (ws2.drop j) = some rest2 ∧ acc2 ++ rest2 = o ∧ LcSt X.K M g' ρ σ H' D C (acc ++ acc2) H5 ∧ StOk X.K M (g'.push D) ρ1 σ2 H5 ∧ C2 H5, ⟨_, [], o, rfl, Nat.zero_le _, hin, rfl, by rw [List.append_nil]; exact ls4, st2.same s4, c2⟩, ?_⟩
    rintro j k H5 ⟨acc2, rest2, rfl, hle2, hgo2, hcat2, ls5, st5, c5⟩
    by_cases hj : j < ws2.length
    · refine .inr ⟨wk2.go j H5 c5 hj, fun H6 => ∃ acc2 rest2, lcGo _ (ws2.drop (j + 1)) = some rest2 ∧ acc2 ++ rest2 = o ∧ LcSt X.K M g' ρ σ H' D C (acc ++ acc2) H6 ∧ StOk X.K M (g'.push D) ρ1 σ2 H6 ∧ C2 H6, fun H6 ⟨acc2, rest2, z⟩ => ⟨_, (by omega : ws2.length - (j + 1) < ws2.length - j), acc2, rest2, rfl, hj, z⟩, ?_⟩
      intro x6 H6 y6
      obtain ⟨rfl, w6, ew6, rw6⟩ := wk2.yld j H5 x6 H6 c5 hj y6
      rw [drop_at ew6] at hgo2
      obtain ⟨o6, rest6, hf6, hgo6, rfl⟩ := lcGo_cons hgo2
      simp only [Option.bind_eq_some_iff] at hf6
      obtain ⟨ρ6, ha6, k6, hk6, hf6⟩ := hf6
      refine ⟨g'.push D, Mini.wipe ρ1 tg2.slots, w6, ρ6, st5.wipe _, rw6.weak fun b u z _ => z.1, ha6, fun σ7 st7 hw7 => ⟨?_, g'.push D, ρ6, k6, st7, hk6, fun H7 s7 => ?_⟩⟩
      · rw [hw7 _ fun _ z => z, wipe_wipe]
      · cases k6 with
        | false =>
          simp only [Bool.false_eq_true, if_false, Option.some.injEq] at hf6 ⊢
          subst hf6
          exact ⟨acc2, rest6, hgo6, hcat2, ls5.same s7 wkk, st5.same s7, wk2.stable _ _ c5 (Kp.of_same s7)⟩
        | true =>
          simp only [if_true, Option.map_eq_some_iff] at hf6 ⊢
          obtain ⟨z, hz, rfl⟩ := hf6
          refine ⟨g'.push D, ρ6, z, st7.same s7, hz, fun y8 H8 s8 r8 => ?_⟩
          have s58 := s7.trans s8
          obtain ⟨vs, e1, e2, l2⟩ := (ls5.same s58 wkk).app hD hown wkk (r8.rep hn)
          refine ⟨vs, e1, ?_, acc2 ++ [z], rest6, hgo6, by rw [← hcat2]; simp, by rw [← List.append_assoc]; exact l2, (st5.same s58).grow hown ⟨_, e1, .inl ⟨_, rfl⟩⟩ (.inl ⟨_, rfl⟩), wk2.stable _ _ (wk2.stable _ _ c5 (Kp.of_same s58)) (kp_upd e1 (Same.refl _))⟩
          have : (acc ++ acc2).length < r.length := by rw [← hcat, ← hcat2]; simp
          omega
    · have : j = ws2.length := by omega
      subst this
      rw [List.drop_length] at hgo2
      cases hgo2
      rw [List.append_nil] at hcat2
      subst hcat2
      exact .inl ⟨wk2.stop _ H5 c5 (Nat.le_refl _), acc ++ acc2, rest', hgo', by rw [← hcat, List.append_assoc], ls5⟩
  · have : i = ws.length := by omega
    subst this
    rw [List.drop_length] at hgo
    cases hgo
    rw [List.append_nil] at hcat
    subst hcat
    exact .inl ⟨wkk.stop _ H2 ls.c (Nat.le_refl _), lc_end st s1 lk hD ls q⟩
theorem pe_lc2W {elt tg' iter tg2' iter2 : Expr} {ifs : List Expr} {scope : Scope} {own : List (Str × Nat)} {pos : Pos} {tg tg2 : Tg} {it it2 : It} {c : Oe} {e : E} {n ni ni2 : Nat} (hc : X.calm = true) (hN : X.N.Nodup) (hi : PI X tg' iter (tI X.K M cf X.H_0 it ni)) (ok : BlkOk X.N X.env.scope scope own) (ho : own.map (·.2) = tg.slots ++ tg2.slots)
    (hg : ∀ (s : Shared) (H : Hp) (C : Addr) (cl : List (Str × Addr)) (fp : List Addr), PG (X.blk s H scope (compEnvC scope cl C X.env) fp) tg' (gW X.K M tg))
    (hi2 : ∀ (s : Shared) (H : Hp) (C : Addr) (cl : List (Str × Addr)) (fp : List Addr), PI (X.blk s H scope (compEnvC scope cl C X.env) fp) tg2' iter2 (tI X.K M cf HN it2 ni2))
    (hg2 : ∀ (s : Shared) (H : Hp) (C : Addr) (cl : List (Str × Addr)) (fp : List Addr), PG (X.blk s H scope (compEnvC scope cl C X.env) fp) tg2' (gW X.K M tg2))
    (ht : ∀ (s : Shared) (H : Hp) (C : Addr) (cl : List (Str × Addr)) (fp : List Addr), PTs (X.blk s H scope (compEnvC scope cl C X.env) fp) ifs (tC X.K M cf c))
    (he : ∀ (s : Shared) (H : Hp) (C : Addr) (cl : List (Str × Addr)) (fp : List Addr), PE (X.blk s H scope (compEnvC scope cl C X.env) fp) elt (tE X.K M cf e n)) (hn : 2 ≤ n) (hn2 : 2 ≤ ni2) (hs : ∀ x, foldedSetIterable iter X.env x = pure x := by intro _; rfl) (hs1 : ∀ env x, foldedSetIterable iter2 env x = pure x := by intro _ _; rfl) :
    PE X (.ListComp elt [⟨tg', iter, [], 0⟩, ⟨tg2', iter2, ifs, 0⟩] scope pos) (tE X.K M cf (.lc2 e tg it tg2 it2 c) 3) := (pe_unl (pe_lc2 (vs1 := tg2.slots) hc hN hi ok (by rw [ho]; exact fun i z => List.mem_append_right _ z) hg (fun _ _ _ _ _ => pts_nil) hi2 hg2 ht he hs hs1)).imp (lc2_imp ho hn hn2)
end
end Mini

end

section
set_option maxRecDepth 100000
set_option maxHeartbeats 4000000
/-! SoundJ: the other operators, t[::-1], {k: v}. -/
namespace Mini
open PySem PySem.Spec PyProof.Rows L2

/-! ### t * 1, t * 0 -/
theorem tmul_one (l : Addr) (items : Array Value) (n : Nat) (dd : Option Addr) (sl : Array (Option Value)) (u : Tok) :
    Meets (Builtin.«tuple.__mul__» ⟨[.ref l, .int 1 u], []⟩) (fun _ R s => s.heap.get? l = some { cls := .type "tuple", dict := dd, data := .seq items n, slots := sl } ∧ R (.ok (.ret (Value.ref l))) s) :=
  .of_wp fun prog w A R s h => by
    obtain ⟨hp, g, d, tk, os⟩ := s
    obtain ⟨hl, h⟩ := h
    have f1 := AutoSeq1.idx_int
    have c1 : (items.isEmpty || (1 : Int) == 1) = true := by rw [Bool.or_eq_true]; exact .inr rfl
    wp_walk using wpAny_loadPart' hl
    repeat (first
      | (refine wpAny_ite_true (decide_eq_true c1) ?_; wp_walk using wpAny_loadPart' hl)
      | (refine wpAny_ite_false (by decide) ?_; wp_walk using wpAny_loadPart' hl)
      | (refine wpAny_ite_true (by decide) ?_; wp_walk using wpAny_loadPart' hl))
    exact ⟨_, rfl, h⟩
theorem tmul_zero (l : Addr) (items : Array Value) (n : Nat) (dd : Option Addr) (sl : Array (Option Value)) (u : Tok) (hi : items.isEmpty = false) :
    Meets (Builtin.«tuple.__mul__» ⟨[.ref l, .int 0 u], []⟩) (fun _ R s => s.heap.get? l = some { cls := .type "tuple", dict := dd, data := .seq items n, slots := sl } ∧
      R (.ok (.ret (Value.ref s.heap.objs.size))) { s with heap := s.heap.push { cls := Value.type "tuple", data := Data.seq #[] }, toks := s.toks }) :=
  .of_wp fun prog w A R s h => by
    obtain ⟨hp, g, d, tk, os⟩ := s
    obtain ⟨hl, h⟩ := h
    have f1 := AutoSeq1.idx_int
    have c1 : ¬ (items.isEmpty || (0 : Int) == 1) = true := by rw [hi]; decide
    wp_walk using wpAny_loadPart' hl
    repeat (first
      | (refine wpAny_ite_false (decide_eq_false c1) ?_; wp_walk using wpAny_loadPart' hl)
      | (refine wpAny_ite_false (by decide) ?_; wp_walk using wpAny_loadPart' hl)
      | (refine wpAny_ite_true (by decide) ?_; wp_walk using wpAny_loadPart' hl)
      | (refine wpAny_ite_true (by simp) ?_; wp_walk using wpAny_loadPart' hl))
    exact ⟨_, rfl, h⟩
section
variable {X : Cx} {K : PySem.W.Frag}
def rRep01 (K : PySem.W.Frag) : R2 := fun x y H Q => ∃ l xs, x = .ref l ∧ SqT K H l xs ∧ xs ≠ [] ∧ ((y = .int 1 ∧ Q (.ref l) H) ∨ (y = .int 0 ∧ ∀ p, H p = none → Q (.ref p) (upd H p (.tup []))))
theorem op_rep01 : OpR X (binaryOp .Mult) (rRep01 X.K) := by
  intro pins s σ H x y v u Q I rx ry h
  obtain ⟨l, xs, rfl, hT, hne, h⟩ := h
  cases rx
  obtain ⟨its, r, ⟨⟨cls, dd, data, sl⟩, ho, hc, n, hd⟩, hs⟩ := I.tuple hT
  simp only at hc hd
  subst hc hd
  have hi : its.toArray.isEmpty = false := by
    cases its with
    | nil => cases r; exact absurd rfl hne
    | cons a b => rfl
  have tt : s.TypeIs (.ref l) "tuple" := ⟨_, ho, rfl⟩
  have road : ∀ {k : Int} {t : Tok} {P : Value → Shared → Prop}, wpAny (model X.prog X.w) X.A (call (.builtin "tuple.__mul__") [.ref l, .int k t]) P X.xe s → wpAny (model X.prog X.w) X.A (binaryOp .Mult (.ref l) (.int k t)) P X.xe s := fun {k t P} hm =>
    wpAny_binaryOp_repeat_ref (T := "tuple") (U := "int") (by decide) tt (fun s' => typeIs_int s' k t) noFill_tuple_mul F.fills_int_mul F.slot_int_rmul repeat_tuple F.slot_int_index.lookup
      (call_meets F.slot_int_rmul (typeIs_int s k t) F.entry_int_rmul (F.args_int_rmul_2 _ _) (int_rmul_tuple k t l its.toArray n dd sl) ⟨ho, rfl, tt, hm⟩)
  rcases h with ⟨rfl, q⟩ | ⟨rfl, q⟩
  · obtain ⟨t, rfl⟩ := ry
    exact road (call_meets F.slot_tuple_mul tt F.entry_tuple_mul (F.args_tuple_mul_2 _ _) (tmul_one l its.toArray n dd sl t) ⟨ho, .ref l, H, I, rfl, q⟩)
  · obtain ⟨t, rfl⟩ := ry
    refine road (call_meets F.slot_tuple_mul tt F.entry_tuple_mul (F.args_tuple_mul_2 _ _) (tmul_zero l its.toArray n dd sl t hi) ⟨ho, .ref s.heap.objs.size, _, I.laid (t' := s.toks) (o := .tup []) (fun b ob q => Heap.get?_push_of_some _ q) (Nat.le_refl _) ?_, rfl, q _ (I.hok.fresh (Nat.le_refl _))⟩)
    exact ⟨Nat.zero_le _, [], .nil, IsTup.new _ _⟩
def rMulW (K : PySem.W.Frag) : R2 := fun x y H Q => rI CMul (fun i j => .int (i * j)) x y H Q ∨ rRep x y H Q ∨ rRepT K x y H Q ∨ rRep01 K x y H Q
theorem op_mulW : OpR X (binaryOp .Mult) (rMulW X.K) := op_mul.or (op_rep.or (op_repT.or op_rep01))
theorem opW_mul : OpW K (rMulW K) (Mini.bin .mul) := by
  intro H g x y w v u Q hn rx ry hf q
  cases x <;> cases y <;> simp only [Mini.bin, reduceCtorEq] at hf
  · refine .inl (opW_int (f := binI .mul) (fun i j k e => ⟨(binI_mul e).1, ?_⟩) H g _ _ w v u Q hn rx ry hf q)
    rw [(binI_mul e).2]
  · rename_i xs k
    split at hf <;> cases hf
    rename_i hl
    simp only [Bool.and_eq_true, decide_eq_true_eq, Bool.not_eq_true'] at hl
    obtain ⟨⟨⟨h0, h1⟩, h2⟩, h3⟩ := hl
    obtain ⟨a, vs, rfl, ha, r1⟩ := rx.t
    have hk := ry.i
    have hne : vs ≠ [] := fun z => by
      subst z
      have := r1.len
      cases xs with
      | nil => cases h0
      | cons _ _ => simp at this
    by_cases k2 : 2 ≤ k
    · refine .inr (.inr (.inl ⟨a, k, vs, rfl, hk, .of ha, hne, k2, h2, by rw [r1.len]; exact h3, fun p hp => ?_⟩))
      exact q _ _ (same_upd' hp) (new_tup hp (r1.rep _) _ fun _ _ z _ => z)
    · refine .inr (.inr (.inr ⟨a, vs, rfl, .of ha, hne, ?_⟩))
      by_cases k1 : k = 1
      · subst k1
        refine .inl ⟨hk, q _ H (Same.refl H) ?_⟩
        rw [show repW 1 xs = xs by unfold repW; simp]
        exact .mkt ha r1
      · obtain rfl : k = 0 := by omega
        refine .inr ⟨hk, fun p hp => q _ _ (same_upd' hp) ?_⟩
        exact new_tup hp (.nil (S := g.cl)) _ fun _ _ z _ => z
  · exact .inr (.inl (opW_mulL H g _ _ w v u Q hn rx ry hf q))
theorem opW_of {o : BO} {C : Int → Int → Prop} {f : Int → Int → Int} (ho : ∀ x y w, Mini.bin o x y = some w → onInt (binI o) x y = some w) (h : ∀ i j k, binI o i j = some k → C i j ∧ f i j = k) : OpW K (rI C fun i j => .int (f i j)) (Mini.bin o) := by
  intro H g x y w v u Q hn rx ry hf q
  refine opW_int (f := binI o) (fun i j k e => ⟨(h i j k e).1, ?_⟩) H g x y w v u Q hn rx ry (ho _ _ _ hf) q
  rw [(h i j k e).2]
theorem bin_onInt {o : BO} (h1 : o ≠ .add) (h2 : o ≠ .mul) (x y w : W) (h : Mini.bin o x y = some w) : onInt (binI o) x y = some w := by
  cases o <;> first | exact absurd rfl h1 | exact absurd rfl h2 | (cases x <;> cases y <;> first | exact h | cases h)
/-- each operator -/
structure BinK (X : Cx) (o : BO) (op : Operator) : Prop where
  h : ∃ r, OpR X (binaryOp op) r ∧ OpW X.K r (Mini.bin o)
def BO.op : BO → Operator
  | .add => .Add | .sub => .Sub | .mul => .Mult | .fdiv => .FloorDiv | .mod => .Mod | .pow => .Pow | .shl => .LShift | .shr => .RShift | .band => .BitAnd
theorem binK (o : BO) : BinK X o o.op := by
  cases o
  · exact ⟨_, op_addW, opW_add⟩
  · exact ⟨_, op_sub, opW_sub⟩
  · exact ⟨_, op_mulW, opW_mul⟩
  · exact ⟨_, op_fdiv, opW_of (bin_onInt (by decide) (by decide)) fun _ _ _ => binI_fdiv⟩
  · exact ⟨_, op_mod, opW_of (bin_onInt (by decide) (by decide)) fun _ _ _ => binI_mod⟩
  · exact ⟨_, op_pow, opW_of (bin_onInt (by decide) (by decide)) fun _ _ _ => binI_pow⟩
  · exact ⟨_, op_shl, opW_of (bin_onInt (by decide) (by decide)) fun _ _ _ => binI_shl⟩
  · exact ⟨_, op_shr, opW_of (bin_onInt (by decide) (by decide)) fun _ _ _ => binI_shr⟩
  · refine ⟨_, op_and, fun H g x y w v u Q hn rx ry hf q => opW_int0 (f := binI .band) (fun i j k e => ?_) H g x y w v u Q hn rx ry (bin_onInt (by decide) (by decide) _ _ _ hf) q⟩
    rw [binI_band e]
theorem pe_binW {M : List Nat} {cf : CF} {e1 e2 : Expr} {a b : E} {na nb : Nat} {pos : Pos} {o : BO} (ha : PE X e1 (tE X.K M cf a na)) (hb : PE X e2 (tE X.K M cf b nb)) (h1 : 1 ≤ na) (h2 : 1 ≤ nb) :
    PE X (.BinOp e1 o.op e2 pos) (tE X.K M cf (.bin o a b) 3) := by
  obtain ⟨r, h, hw⟩ := (binK (X := X) o).h
  exact pe_bin h hw ha hb h1 h2

/-! ### s[::-1] -/
theorem adj_rev (n : Nat) : Builtin.Slice.sliceAdjust none none (-1) (n : Int) = ((n : Int) - 1, -1) := rfl
theorem places_rev (n : Nat) : Builtin.Slice.slicePlaces ((n : Int) - 1) (-1) (-1) = n := by
  unfold Builtin.Slice.slicePlaces
  rw [if_neg (by omega)]
  split <;> simp <;> omega
theorem fmap_map {α β : Type} {f : α → Option β} {g : α → β} : ∀ {l : List α}, (∀ m ∈ l, f m = some (g m)) → l.filterMap f = l.map g
  | [], _ => rfl
  | x :: l, h => by rw [List.filterMap_cons, h x List.mem_cons_self, List.map_cons, fmap_map fun m hm => h m (List.mem_cons_of_mem _ hm)]
theorem pick_rev (xs : List Value) : ((List.range xs.toArray.size).filterMap fun (m : Nat) => xs.toArray[((xs.toArray.size : Int) - 1 + (m : Int) * (-1)).toNat]?).toArray = xs.reverse.toArray := by
  congr 1
  rw [List.size_toArray]
  apply List.ext_getElem?
  intro i
  have h : ∀ m ∈ List.range xs.length, (xs.toArray[((xs.length : Int) - 1 + (m : Int) * (-1)).toNat]?) = some (xs.reverse.getD m default) := by
    intro m hm
    have hm := List.mem_range.mp hm
    have e : ((xs.length : Int) - 1 + (m : Int) * (-1)).toNat = xs.length - 1 - m := by omega
    rw [e, List.getElem?_toArray, List.getD_eq_getElem?_getD, List.getElem?_reverse hm, List.getElem?_eq_getElem (by omega)]
    rfl
  rw [fmap_map h]
  by_cases hi : i < xs.length
  · rw [List.getElem?_map, List.getElem?_range hi, List.getElem?_eq_getElem (by rw [List.length_reverse]; exact hi)]
    simp [List.getD_eq_getElem?_getD, hi]
  · rw [List.getElem?_eq_none (by simp; omega), List.getElem?_eq_none (by simp; omega)]
theorem sliceApp_rev {prog : Program} {w : World} {A : Around} {E : Value → Shared → Prop} {s : Shared} {sl : Addr} {vs : Value} {n : Nat} {Q : Int × Int × Nat → Shared → Prop} (hs : s.heap.IsSliceOf sl .none .none vs) (ps : IsPart vs (some (-1)))
    (h : Q ((n : Int) - 1, -1, n) s) : wpAny (model prog w) A (Builtin.Slice.sliceApplied (.ref sl) (pure (n : Int))) Q E s := by
  obtain ⟨os, hos, hcs, hds⟩ := id hs
  unfold Builtin.Slice.sliceApplied Builtin.Slice.sliceFields
  refine wpAny_bind (wpAny_bind (wpAny_field hos hds (x := .none) rfl (wpAny_bind (wpAny_field hos hds (x := .none) rfl (wpAny_bind (wpAny_field hos hds (x := vs) rfl (wpAny_pure ?_)))))))
  refine wpAny_bind (HT.slicePart_ ps ?_)
  show wpAny _ _ (if ((-1 : Int) == 0) = true then _ else _) _ _ s
  rw [if_neg (by decide)]
  refine wpAny_bind (slicePart_none (wpAny_bind (slicePart_none (wpAny_bind (wpAny_pure ?_)))))
  show wpAny _ _ (pure (((n : Int) - 1), (-1 : Int), Builtin.Slice.slicePlaces ((n : Int) - 1) (-1) (-1))) _ _ s
  rw [places_rev]
  exact wpAny_pure h
theorem getItem_tuple_rev {prog : Program} {w : World} {A : Around} {E : Value → Shared → Prop} {s : Shared} {t sl : Addr} {its : List Value} {vs : Value} {Q : Value → Shared → Prop} (ht : IsTup s.heap t its.toArray) (hs : s.heap.IsSliceOf sl .none .none vs) (ps : IsPart vs (some (-1)))
    (h : Q (.ref s.heap.objs.size) { s with heap := s.heap.push { cls := .type "tuple", data := .seq its.reverse.toArray } }) (hsz : its.length ≤ sizeLine) : wpAny (model prog w) A (getItem (.ref t) (.ref sl)) Q E s := by
  have htake : sizeOk (.seq its.reverse.toArray) := by
    show its.reverse.toArray.size ≤ sizeLine
    rw [List.size_toArray, List.length_reverse]; exact hsz
  obtain ⟨os, hos, hcs, hds⟩ := id hs
  have hTs : s.TypeIs (.ref sl) "slice" := ⟨os, hos, hcs⟩
  unfold getItem
  try with_reducible refine wpAny_holding ?_
  first | refine wpAny_bind (wpAny_pure ?_) | skip
  refine wpAny_bind (wpAny_sequenceKey ht.typeIs (by decide) (wpAny_bind (wpAny_callSpecial?_slot (name := Str.ofString "__getitem__") ht.typeIs PyProof.Rows.slot_tuple_getitem (wpAny_call_entry PyProof.Rows.slot_tuple_getitem ht.typeIs entry_tuple_getitem ?_ (args_tuple_getitem _ _)))))
  show wpAny _ _ (Builtin.Tuple.tupleItemsOf (.ref t) >>= _) _ _ s
  refine wpAny_bind (tupleItemsOf_ ht (wpAny_bind (wpAny_typeOf hTs ?_)))
  rw [if_pos (by decide)]
  refine wpAny_bind (sliceApp_rev hs ps ?_)
  have hno : ¬ ((((its.toArray.size : Int) - 1) == 0 && (-1 : Int) == 1 && its.toArray.size == its.toArray.size) = true) := by simp
  show wpAny _ _ (if (((its.toArray.size : Int) - 1) == 0 && (-1 : Int) == 1 && its.toArray.size == its.toArray.size) = true then _ else _) _ _ s
  rw [if_neg hno, pick_rev]
  first
    | exact wpAny_bind (m := Builtin.Tuple.tupleExact _) (wpAny_newObj_type (wpAny_pure ⟨_, rfl, wpAny_pure h⟩) htake)
    | exact wpAny_bind (m := Builtin.Tuple.tupleExact _) (wpAny_newObj_type (wpAny_bind (wpAny_pure (wpAny_pure ⟨_, rfl, wpAny_pure h⟩))) htake)
    | exact wpAny_bind (wpAny_bind (m := Builtin.Tuple.tupleExact _) (wpAny_newObj_type (wpAny_pure (wpAny_pure ⟨_, rfl, wpAny_pure h⟩)) htake))
    | exact wpAny_bind (wpAny_bind (m := Builtin.Tuple.tupleExact _) (wpAny_newObj_type (wpAny_pure ⟨_, rfl, wpAny_pure h⟩) htake))
end
section
variable {X : Cx} {M : List Nat} {cf : CF} {e1 e2 : Expr} {a b : E} {na nb : Nat} {pos p1 p2 p3 : Pos}
def tRevA (K : PySem.W.Frag) (te : TE) : TE := fun σ H Q => te σ H fun x H1 => ∃ a xs, x = .ref a ∧ ((SqL K H1 a xs ∧ ∀ p, H1 p = none → Q (.ref p) (upd H1 p (.lst xs.reverse))) ∨ (SqT K H1 a xs ∧ ∀ p, H1 p = none → Q (.ref p) (upd H1 p (.tup xs.reverse))))
theorem pe_revA {e : Expr} {te : TE} {k : Nat} (he : PE X e te) : PE X (.Subscript e (.Slice none none (some (.UnaryOp .USub (.Constant (.int 1) k p1) p2)) p3) pos) (tRevA X.K te) := by
  refine ⟨fun pins s σ H Q I h => Subscript_ (thn (he.run pins s σ H _ I h) fun v s1 ⟨x, H1, I1, r1, q1⟩ => ?_)⟩
  obtain ⟨a, xs, ex, q⟩ := q1
  subst ex
  cases r1
  have hst : PO X (some (.UnaryOp .USub (.Constant (.int 1) k p1) p2)) (tPart (tUn (rU fun i => .int (-i)) (L2.tC (.int 1)))) := po_some (pe_un un_neg pe_int)
  refine wpAny_Slice (thn (po_none.run pins s1 σ H1 (fun o H2 => o = none ∧ H2 = H1) I1 ⟨rfl, rfl⟩) fun vl s2 ⟨l, H2, I2, pl, el, e2⟩ => ?_)
  subst el e2
  refine thn (po_none.run pins s2 σ H2 (fun o H3 => o = none ∧ H3 = H2) I2 ⟨rfl, rfl⟩) fun vu s3 ⟨u, H3, I3, pu, eu, e3⟩ => ?_
  subst eu e3
  refine thn (hst.run pins s3 σ H3 (fun o H4 => o = some (-1) ∧ H4 = H3) I3 ⟨1, rfl, -1, rfl, rfl, rfl⟩) fun vs s4 ⟨o, H4, I4, ps, eo, e4⟩ => ?_
  subst eo e4
  have I5 : Inv X pins σ H4 { s4 with heap := s4.heap.push { cls := .type "slice", data := .fields #[vl, vu, vs] } } := I4.kept (t' := s4.toks) fun b ob q => Heap.get?_push_of_some _ q
  cases pl
  cases pu
  show wpAny (model X.prog X.w) X.A (subscriptTail e (.Slice none none (some (.UnaryOp .USub (.Constant (.int 1) k p1) p2)) p3) (.ref a) (.ref s4.heap.objs.size)) (EP X pins σ Q) X.xe { s4 with heap := s4.heap.push { cls := .type "slice", data := .fields #[.none, .none, vs] } }
  rcases q with ⟨hx, q⟩ | ⟨hx, q⟩
  · obtain ⟨its, r, ht, hz⟩ := I5.list hx
    have hlen := r.length
    refine tail_any (ops := [.ref a, .ref s4.heap.objs.size]) ht.isList.typeIs (PySem.slot_list_getitem.lookup) ?_ (by with_unfolding_all rfl)
    refine wpAny_getItem_list_slice ht.isList (Heap.IsSliceOf.new _ .none .none vs) .none .none ps (by decide) ?_ (by rw [List.size_toArray]; omega)
    rw [PySem.W.krv_pick]
    exact ⟨.ref _, _, I5.laid (t' := s4.toks) (o := .lst xs.reverse) (fun b ob q => Heap.get?_push_of_some _ q) (Nat.le_refl _) ⟨by rw [List.length_reverse]; exact hz, _, 0, r.reverse, Heap.get?_push_size _ rfl⟩, rfl, q _ (I5.hok.fresh (Nat.le_refl _))⟩
  · obtain ⟨its, r, ht, hz⟩ := I5.tuple hx
    have hlen := r.length
    refine tail_any (ops := [.ref a, .ref s4.heap.objs.size]) (IsTup.typeIs ht) (PyProof.Rows.slot_tuple_getitem.lookup) ?_ (by with_unfolding_all rfl)
    refine getItem_tuple_rev ht (Heap.IsSliceOf.new _ .none .none vs) ps ?_ (by omega)
    exact ⟨.ref _, _, I5.laid (t' := s4.toks) (o := .tup xs.reverse) (fun b ob q => Heap.get?_push_of_some _ q) (Nat.le_refl _) ⟨by rw [List.length_reverse]; exact hz, _, r.reverse, IsTup.new _ _⟩, rfl, q _ (I5.hok.fresh (Nat.le_refl _))⟩
theorem pe_revW {k : Nat} (ha : PE X e1 (tE X.K M cf a na)) (h1 : 1 ≤ na) : PE X (.Subscript e1 (.Slice none none (some (.UnaryOp .USub (.Constant (.int 1) k p1) p2)) p3) pos) (tE X.K M cf (.rev a) 3) := (pe_revA ha).imp fun σ H Q ⟨g, ρ, w, st, he, q⟩ => by
  simp only [evalE, Option.bind_eq_some_iff] at he
  obtain ⟨x, hx, hr⟩ := he
  refine ⟨g, ρ, x, st, hx, fun v H1 s1 r1 => ?_⟩
  cases x <;> simp only [revW, Option.some.injEq, reduceCtorEq] at hr
  · subst hr
    obtain ⟨d, vs, rfl, hd, r⟩ := r1.t
    exact ⟨d, vs, rfl, .inr ⟨.of hd, fun p hp => q _ _ (s1.trans (same_upd' hp)) ((new_tup hp r.reverse 3 fun _ _ z _ => z).back s1)⟩⟩
  · subst hr
    obtain ⟨d, vs, rfl, hd, r, _⟩ := r1.l
    exact ⟨d, vs, rfl, .inl ⟨.of hd, fun p hp => q _ _ (s1.trans (same_upd' hp)) ((new_lst ((st.same s1).new hp) hp r.reverse 3 fun _ _ z _ => z).back s1)⟩⟩

/-! ### {k: v}, keys tuples -/
theorem d_dictSet {X : Cx} {pins : List (Addr × Obj)} {σ : L2.St} {H : Hp} {s : Shared} {a b : Addr} {v : V} {r : Value} {kvs : List (List Key × V)} {k : List Key} {E : Value → Shared → Prop} {Q : Unit → Shared → Prop} (hu : X.A.units < cLine) (I : Inv X pins σ H s)
    (e : H a = some (.dT kvs)) (eb : H b = some (.tup (k.map kV))) (l : kvs.length < sizeLine) (rv : RelV v r) (h : ∀ s', Inv X pins σ (upd H a (.dT (putK kvs k v))) s' → Q () s') : wpAny (model X.prog X.w) X.A (dictSet a (.ref b) r) Q E s := by
  obtain ⟨z, hd, xs, rel, dd⟩ := dt_of I.hok e
  have hz : xs.length ≤ sizeLine := by rw [← Paired.length rel]; exact z
  refine wpAny_dictSet_heap (knd := tupleKind (mixKind X.prog X.w)) (hsz := hz) hu (key_of I.hok eb) dd fun h' dd' hs => h _ ?_
  obtain ⟨q, es, ep, hq, h2, h3, h4, _, h5⟩ := dd'
  refine d_write I (by rw [e]; exact True.intro) hs ⟨q, hq⟩ ⟨by have := length_putK kvs k v; omega, hd, _, (rel.put k eb rv).keeps fun c ys ec => ?_, q, es, ep, hq, h2, h3, h4, h5⟩
  rw [upd_ne (ne_of ec e (fun z => nomatch z))]
  exact ec
def tSing (tk tv : TE) : TE := fun σ H Q => ∀ p, H p = none → tk σ (upd H p (.dT [])) fun x H1 => tv σ H1 fun y H2 => ∃ x1 y1 b k, [(x, y)] = [(x1, y1)] ∧ x1 = V.ref b ∧ H2 p = some (.dT []) ∧ H2 b = some (.tup (k.map kV)) ∧ Q (.ref p) (upd H2 p (.dT [(k, y1)]))
theorem pe_sing {k v : Expr} {tk tv : TE} (hu : X.A.units < cLine) (hk : PE X k tk) (hv : PE X v tv) : PE X (.Dict [some k] [v] pos) (tSing tk tv) := by
  refine ⟨fun pins s σ H Q I q => ?_⟩
  have hn := I.hok.fresh (Nat.le_refl s.heap.objs.size)
  have I1 := I.laid (a := s.heap.objs.size) (o := .dT []) (h' := s.heap.push { cls := .type "dict", data := .dict #[] }) (t' := s.toks) (fun _ _ q => Heap.get?_push_of_some _ q) (Nat.le_refl _) (dt_empty s.heap I.big)
  have P : PPs X pos [some k] [v] [(tk, tv)] := pps_cons hk hv pps_nil
  refine wpAny_Dict_any (by rfl) rfl (by simp) (by show 1 ≤ 15; decide) (thn (P.run pins _ σ _ (fun ps H2 => ∃ (x y : V) (b : Addr) (kk : List Key), ps = [(x, y)] ∧ x = .ref b ∧ H2 s.heap.objs.size = some (.dT []) ∧ H2 b = some (.tup (kk.map kV)) ∧ Q (.ref s.heap.objs.size) (upd H2 s.heap.objs.size (.dT [(kk, y)]))) I1 (q _ hn)) fun ws s2 ⟨ps, H2, I2, rel, x, y, b, kk, e1, e2, e3, e4, q2⟩ => ?_)
  subst e1 e2
  cases rel with
  | @cons a c as cs h1 h2 =>
    cases h2
    obtain ⟨c1, c2⟩ := c
    obtain rfl : c1 = Value.ref b := h1.1
    unfold storeAll
    rw [List.forIn_cons]
    refine wpAny_bind (wpAny_bind (d_dictSet hu I2 e3 e4 (by show 0 < sizeLine; decide) h1.2 fun s3 I3 => wpAny_pure ?_))
    show wpAny _ _ (forIn _ _ _) _ _ _
    rw [List.forIn_nil]
    exact wpAny_pure ⟨.ref s.heap.objs.size, _, I3, rfl, q2⟩
theorem pe_dsingW (hu : X.A.units < cLine) (ha : PE X e1 (tE X.K M cf a na)) (hb : PE X e2 (tE X.K M cf b nb)) : PE X (.Dict [some e1] [e2] pos) (tE X.K M cf (.dsing a b) 3) := (pe_sing hu ha hb).imp fun σ H Q ⟨g, ρ, w, st, he, q⟩ => by
  simp only [evalE, Option.bind_eq_some_iff, Option.map_eq_some_iff] at he
  obtain ⟨x, hx, y, hy, ks, hk, i, hi, rfl⟩ := he
  cases W.int?_some hi
  intro p hp
  have clp := st.new hp
  have st1 := st.push (o := .dT []) hp (.inr ⟨_, rfl⟩)
  refine ⟨g.push p, ρ, x, st1, hx, fun v H1 s1 r1 => ⟨g.push p, ρ, _, st1.same s1, hy, fun u H2 s2 r2 => ?_⟩⟩
  obtain ⟨bb, rfl, hb⟩ := key_at r1.any hk
  have hp2 : H2 p = some (.dT []) := s2 _ _ (s1 _ _ upd_same)
  refine ⟨_, u, bb, ks.map Sum.inl, rfl, rfl, hp2, by rw [kV_ints]; exact s2 _ _ hb, q _ _ (fun b o e => ?_) ?_⟩
  · have ne : b ≠ p := ne_of_none e hp
    rw [upd_ne ne]
    exact s2 _ _ (s1 _ _ (by rw [upd_ne ne]; exact e))
  · rw [r2.i]
    exact ⟨p, rfl, .inl upd_same, fun _ => clp, fun _ => ⟨hp, upd_same⟩⟩
end
end Mini

end

section
set_option maxRecDepth 100000
set_option maxHeartbeats 4000000
/-! SoundK: which expression of the text is which E, by a check; every checked expression means what E says. -/
namespace Mini
open PySem PySem.Spec PyProof.Rows L2

/-- what a body's text is held against -/
structure Cc where
  N : List Str
  M : List Nat
  T : List Fn
  nm : List Str
  gi : List (Str × Int)
abbrev FX := Str → Bool

def lv (C : Cc) : E → Nat
  | .var i => if i ∈ C.M then 1 else 2
  | .idx _ _ => 2
  | .ite _ a b => min (lv C a) (lv C b)
  | .call f _ => match C.T[f]? with
    | some d => if d.fresh then 3 else 2
    | none => 2
  | _ => 3
theorem lv_pos (C : Cc) (e : E) : 1 ≤ lv C e := by
  cases e <;> simp only [lv] <;> try omega
  · split <;> omega
  · rename_i c a b
    have h1 := lv_pos C a
    have h2 := lv_pos C b
    omega
  · split
    · split <;> omega
    · omega
def visB (sc : Scope) (x : Str) : Bool := match sc.names.lookup x with
  | some .local => true
  | some .cell => true
  | some .free => true
  | _ => false
theorem visB_ok {sc : Scope} {x : Str} (h : visB sc x = true) : Vis sc x := by
  unfold visB at h
  unfold Vis
  split at h
  · exact .inl (by assumption)
  · exact .inr (.inl (by assumption))
  · exact .inr (.inr (by assumption))
  · cases h
def locB (sc : Scope) (x : Str) : Bool := match sc.names.lookup x with
  | some .local => true
  | some .cell => true
  | _ => false
theorem locB_ok {sc : Scope} {x : Str} (h : locB sc x = true) : L2.Loc sc x := by
  unfold locB at h
  unfold L2.Loc
  split at h
  · exact .inl (by assumption)
  · exact .inr (by assumption)
  · cases h
def glB (sc : Scope) (x : Str) : Bool := decide (sc.names.lookup x = some .globalImplicit)
def BF.nm : BF → Str
  | .len => "len" | .sum => "sum" | .all => "all" | .max => "max" | .min => "min" | .sorted => "sorted" | .sortedT => "sorted" | .tuple => "tuple" | .list => "list" | .int => "int" | .abs => "abs" | .str => "str"
def BF.ok : BF → Bool
  | .sortedT => false
  | .str => false
  | _ => true
def CO.op : CO → CmpOp
  | .eq => .Eq | .ne => .NotEq | .lt => .Lt | .le => .LtE | .gt => .Gt | .ge => .GtE | .is => .Is | .isnot => .IsNot | .inn => .In | .notin => .NotIn
def CO.three : CO → Bool
  | .lt => true
  | .le => true
  | .gt => true
  | _ => false
def notSet : Expr → Bool
  | .Set _ _ _ => false
  | _ => true
theorem notSet_ok {e : Expr} (h : notSet e = true) (env : PySem.Env) (x : Value) : foldedSetIterable e env x = pure x := by
  cases e <;> first | rfl | cases h
def isNm : Expr → Bool
  | .Name _ _ => true
  | _ => false
/-- a comprehension's own names -/
def ownOf (C : Cc) (is : List Nat) : List (Str × Nat) := is.map fun i => ((C.N[i]?).getD "", i)
theorem ownOf_snd (C : Cc) (is : List Nat) : (ownOf C is).map (·.2) = is := by
  unfold ownOf
  rw [List.map_map]
  exact (List.map_congr_left fun _ _ => rfl).trans (List.map_id _)
def fxOf (scope : Scope) : FX := fun x => scope.names.lookup x == some .cell
def ckN (C : Cc) (sc : Scope) (fx : FX) (i : Nat) (x : Expr) : Bool := match x with
  | .Name y _ => decide (C.N[i]? = some y) && locB sc y && (fx y || decide (sc.names.lookup y = some .local)) && decide (i ∉ C.M)
  | _ => false
def ckNs (C : Cc) (sc : Scope) (fx : FX) : List Nat → List Expr → Bool
  | [], [] => true
  | i :: is, x :: xs => ckN C sc fx i x && ckNs C sc fx is xs
  | _, _ => false
def ckG (C : Cc) (sc : Scope) (fx : FX) : Tg → Expr → Bool
  | .one i, x => ckN C sc fx i x
  | .many is, x => match x with
    | .Tuple xs _ _ => ckNs C sc fx is xs
    | _ => false
/-- as a test -/
def okT : E → Expr → Bool
  | .nt a, x => match x with
    | .UnaryOp _ y _ => okT a y
    | _ => false
  | .and a b, x => match x with
    | .BoolOp _ [y, z] _ => okT a y && okT b z
    | .BoolOp o (y :: z :: zs) p => okT a y && okT b (.BoolOp o (z :: zs) p)
    | _ => false
  | .or a b, x => match x with
    | .BoolOp _ [y, z] _ => okT a y && okT b z
    | .BoolOp o (y :: z :: zs) p => okT a y && okT b (.BoolOp o (z :: zs) p)
    | _ => false
  | .cmp _ _ _, _ => true
  | .cmp2 _ _ _ _ _, _ => true
  | _, x => plainTest x
mutual
def ckE (C : Cc) : E → Scope → FX → Expr → Bool
  | .var i, sc, fx, x => match x with
    | .Name y _ => decide (C.N[i]? = some y) && visB sc y && !(y == ("__debug__" : Str)) && !(y == ("__classdict__" : Str))
    | _ => false
  | .varT i, sc, fx, x => match x with
    | .Name y _ => decide (C.N[i]? = some y) && visB sc y && !(y == ("__debug__" : Str)) && !(y == ("__classdict__" : Str))
    | _ => false
  | .int i, sc, fx, x => match x with
    | .Constant (.int j) _ _ => decide (i = j)
    | _ => false
  | .bl b, sc, fx, x => match x with
    | .Constant (.bool c) _ _ => b == c
    | _ => false
  | .str s, sc, fx, x => match x with
    | .Constant (.str y) _ _ => decide (Str.ofString s = y)
    | _ => false
  | .non, sc, fx, x => match x with
    | .Constant .none _ _ => true
    | _ => false
  | .glb _ i, sc, fx, x => match x with
    | .Name y _ => glB sc y && !(y == ("__debug__" : Str)) && decide ((y, i) ∈ C.gi)
    | _ => false
  | .bin o a b, sc, fx, x => match x with
    | .BinOp l op r _ => decide (op = o.op) && ckE C a sc fx l && ckE C b sc fx r
    | _ => false
  | .neg a, sc, fx, x => match x with
    | .UnaryOp op y _ => decide (op = .USub) && ckE C a sc fx y
    | _ => false
  | .cmp o a b, sc, fx, x => match x with
    | .Compare l [op] [r] _ => decide (op = o.op) && !behindInMarks op r && ckE C a sc fx l && ckE C b sc fx r
    | _ => false
  | .cmp2 o p a b c, sc, fx, x => match x with
    | .Compare l [op, op'] [m, r] _ => decide (op = o.op) && decide (op' = p.op) && o.three && p.three && !behindInMarks op' r && ckE C a sc fx l && ckE C b sc fx m && ckE C c sc fx r
    | _ => false
  | .nt a, sc, fx, x => match x with
    | .UnaryOp op y _ => decide (op = .Not) && ckE C a sc fx y
    | _ => false
  | .and a b, sc, fx, x => match x with
    | .BoolOp o [y, z] _ => decide (o = .And) && ckE C a sc fx y && ckE C b sc fx z
    | .BoolOp o (y :: z :: zs) p => decide (o = .And) && ckE C a sc fx y && ckE C b sc fx (.BoolOp .And (z :: zs) p)
    | _ => false
  | .or a b, sc, fx, x => match x with
    | .BoolOp o [y, z] _ => decide (o = .Or) && ckE C a sc fx y && ckE C b sc fx z
    | .BoolOp o (y :: z :: zs) p => decide (o = .Or) && ckE C a sc fx y && ckE C b sc fx (.BoolOp .Or (z :: zs) p)
    | _ => false
  | .ite c a b, sc, fx, x => match x with
    | .IfExp t u v _ => ckE C c sc fx t && okT c t && ckE C a sc fx u && ckE C b sc fx v
    | _ => false
  | .idx a b, sc, fx, x => match x with
    | .Subscript l r _ => !isSlice r && ckE C a sc fx l && ckE C b sc fx r
    | _ => false
  | .slc a lo hi, sc, fx, x => match x with
    | .Subscript l (.Slice p q none _) _ => ckE C a sc fx l && ckO C lo sc fx p && ckO C hi sc fx q
    | _ => false
  | .rev a, sc, fx, x => match x with
    | .Subscript l (.Slice none none (some (.UnaryOp op (.Constant (.int j) _ _) _)) _) _ => decide (op = .USub) && decide (j = 1) && ckE C a sc fx l
    | _ => false
  | .tup es, sc, fx, x => match x with
    | .Tuple xs _ _ => ckEs C 2 es sc fx xs
    | _ => false
  | .lst es, sc, fx, x => match x with
    | .List xs _ => ckEs C 2 es sc fx xs
    | _ => false
  | .dnil, sc, fx, x => match x with
    | .Dict [] [] _ => true
    | _ => false
  | .dsing k v, sc, fx, x => match x with
    | .Dict [some y] [z] _ => ckE C k sc fx y && ckE C v sc fx z
    | _ => false
  | .call f es, sc, fx, x => match x with
    | .Call (.Name y _) (z :: zs) [] _ => decide (C.nm[f]? = some y) && glB sc y && !(y == ("__debug__" : Str)) && (C.T[f]?).isSome && ckEs C 2 es sc fx (z :: zs)
    | _ => false
  | .callb f es, sc, fx, x => match x with
    | .Call (.Name y _) (z :: zs) [] _ => decide (C.nm[f]? = some y) && glB sc y && !(y == ("__debug__" : Str)) && (C.T[f]?).isSome && ckEs C 1 es sc fx (z :: zs)
    | _ => false
  | .blt f a, sc, fx, x => match x with
    | .Call (.Name y _) [z] [] _ => f.ok && decide (y = f.nm) && glB sc y && notStar z && ckE C a sc fx z
    | _ => false
  | .mm mx es, sc, fx, x => match x with
    | .Call (.Name y _) [z1, z2] [] _ => decide (y = if mx then ("max" : Str) else ("min" : Str)) && glB sc y && ckEs C 1 es sc fx [z1, z2]
    | _ => false
  | .isi t a, sc, fx, x => match x with
    | .Call (.Name y _) [z, .Name u _] [] _ => decide (y = ("isinstance" : Str)) && glB sc y && notStar z && ckE C a sc fx z && decide (u = Str.ofString t.name) && glB sc u
    | _ => false
  | .count o a, sc, fx, x => false
  | .index o a, sc, fx, x => false
  | .dget o k d, sc, fx, x => match x with
    | .Call (.Attribute y m ap) [z1, z2] [] p => decide (m = ("get" : Str)) && isNm y && (ap.endLine == p.line) && notStar z1 && notStar z2 && ckE C o sc fx y && ckE C k sc fx z1 && ckE C d sc fx z2
    | _ => false
  | .lrange a, sc, fx, x => match x with
    | .Call (.Name y _) [.Call (.Name z _) [u] [] _] [] _ => decide (y = ("list" : Str)) && decide (z = ("range" : Str)) && glB sc y && glB sc z && notStar u && ckE C a sc fx u
    | _ => false
  | .trange a, sc, fx, x => match x with
    | .Call (.Name y _) [.Call (.Name z _) [u] [] _] [] _ => decide (y = ("tuple" : Str)) && decide (z = ("range" : Str)) && glB sc y && glB sc z && notStar u && ckE C a sc fx u
    | _ => false
  | .lc e tg it c, sc, fx, x => match x with
    | .ListComp y [⟨t, i, fs, as⟩] scope _ => decide (as = 0) && notSet i && blkC C.N sc scope (ownOf C tg.slots) && ckI C it sc fx i && ckG C (relS scope sc) (fxOf scope) tg t && ckC C c (relS scope sc) (fxOf scope) fs &&
        decide (2 ≤ lv C e) && ckE C e (relS scope sc) (fxOf scope) y
    | _ => false
  | .lc2 e tg it tg2 it2 c, sc, fx, x => match x with
    | .ListComp y [⟨t, i, [], as⟩, ⟨t2, i2, fs, as2⟩] scope _ => decide (as = 0) && decide (as2 = 0) && notSet i && notSet i2 && blkC C.N sc scope (ownOf C (tg.slots ++ tg2.slots)) && ckI C it sc fx i && ckG C (relS scope sc) (fxOf scope) tg t &&
        ckI2 C it2 (relS scope sc) (fxOf scope) i2 && ckG C (relS scope sc) (fxOf scope) tg2 t2 && ckC C c (relS scope sc) (fxOf scope) fs && decide (2 ≤ lv C e) && ckE C e (relS scope sc) (fxOf scope) y
    | _ => false
  | .dc _ _ _ _ _, sc, fx, x => false
  | .dc2 _ _ _ _ _ _, sc, fx, x => false
/-- each at least of a level -/
def ckEs (C : Cc) (n : Nat) : Es → Scope → FX → List Expr → Bool
  | .nil, sc, fx, xs => xs.isEmpty
  | .cons e es, sc, fx, xs => match xs with
    | x :: xs => notStar x && decide (n ≤ lv C e) && ckE C e sc fx x && ckEs C n es sc fx xs
    | [] => false
def ckO (C : Cc) : Oe → Scope → FX → Option Expr → Bool
  | .no, sc, fx, x => x.isNone
  | .so e, sc, fx, x => match x with
    | some y => ckE C e sc fx y
    | none => false
def ckC (C : Cc) : Oe → Scope → FX → List Expr → Bool
  | .no, sc, fx, xs => xs.isEmpty
  | .so e, sc, fx, xs => match xs with
    | [y] => ckE C e sc fx y && okT e y
    | _ => false
def ckI (C : Cc) : It → Scope → FX → Expr → Bool
  | .seq e, sc, fx, x => ckE C e sc fx x
  | .rng a, sc, fx, x => match x with
    | .Call (.Name y _) [z] [] _ => decide (y = ("range" : Str)) && glB sc y && notStar z && ckE C a sc fx z
    | _ => false
  | .rng2 a b, sc, fx, x => match x with
    | .Call (.Name y _) [z, u] [] _ => decide (y = ("range" : Str)) && glB sc y && notStar z && notStar u && ckE C a sc fx z && ckE C b sc fx u
    | _ => false
  | .keys e, sc, fx, x => ckE C e sc fx x && decide (2 ≤ lv C e)
/-- within a comprehension: nothing is locked -/
def ckI2 (C : Cc) : It → Scope → FX → Expr → Bool
  | .seq e, sc, fx, x => ckE C e sc fx x && decide (2 ≤ lv C e)
  | .rng a, sc, fx, x => match x with
    | .Call (.Name y _) [z] [] _ => decide (y = ("range" : Str)) && glB sc y && notStar z && ckE C a sc fx z
    | _ => false
  | .rng2 a b, sc, fx, x => match x with
    | .Call (.Name y _) [z, u] [] _ => decide (y = ("range" : Str)) && glB sc y && notStar z && notStar u && ckE C a sc fx z && ckE C b sc fx u
    | _ => false
  | .keys e, sc, fx, x => false
end
end Mini

end

section
set_option maxRecDepth 100000
set_option maxHeartbeats 4000000
/-! SoundL: every checked expression means what E says. -/
namespace Mini
open PySem PySem.Spec PyProof.Rows L2

def bnames : List Str := ["len", "sum", "all", "max", "min", "sorted", "tuple", "list", "int", "abs", "str", "isinstance", "range", "bool", "dict", "ValueError"]
structure XOk (C : Cc) (cf : CFI) (X : Cx) (sc : Scope) (fx : FX) : Prop where
  hN : X.N = C.N
  nd : C.N.Nodup
  sc : X.env.scope = sc
  fn : ∀ x, fx x = true → X.fn x = true
  calm : X.calm = true
  u : X.A.units + 65 < cLine
  F : ∃ k, Fns X C.T C.nm k cf
  bn : ∀ x ∈ bnames, X.mg x = none
  gi : ∀ p ∈ C.gi, ∃ t, X.mg p.1 = some (.int p.2 t)
section
variable {C : Cc} {cf : CFI} {X : Cx} {sc : Scope} {fx : FX}
theorem XOk.blk (h : XOk C cf X sc fx) (scope : Scope) (s : Shared) (H : Hp) (Ca : Addr) (cl : List (Str × Addr)) (fp : List Addr) : XOk C cf (X.blk s H scope (compEnvC scope cl Ca X.env) fp) (relS scope sc) (fxOf scope) where
  hN := h.hN
  nd := h.nd
  sc := by rw [← h.sc]; rfl
  fn := fun x e => e
  calm := h.calm
  u := h.u
  F := let ⟨k, F⟩ := h.F; ⟨k, F.fn, F.room, F.len⟩
  bn := h.bn
  gi := h.gi
theorem XOk.gl (h : XOk C cf X sc fx) {x : Str} (g : glB sc x = true) : Gl X x := by
  unfold glB at g
  show X.env.scope.names.lookup x = _
  rw [h.sc]
  exact of_decide_eq_true g
theorem XOk.bnm (h : XOk C cf X sc fx) {x : Str} (hx : x ∈ bnames) : X.mg x = none := h.bn x hx
theorem XOk.nd' (h : XOk C cf X sc fx) : X.N.Nodup := by rw [h.hN]; exact h.nd
theorem XOk.tg (h : XOk C cf X sc fx) {i : Nat} {x : Expr} (g : ckN C sc fx i x = true) : ∃ y p, x = .Name y p ∧ TgOk X i y ∧ i ∉ C.M := by
  cases x <;> simp only [ckN, Bool.false_eq_true, Bool.and_eq_true, decide_eq_true_eq, Bool.or_eq_true] at g
  obtain ⟨⟨⟨g1, g2⟩, g3⟩, g4⟩ := g
  refine ⟨_, _, rfl, ⟨by rw [h.hN]; exact g1, by rw [h.sc]; exact locB_ok g2, ?_⟩, g4⟩
  rcases g3 with g3 | g3
  · exact .inl (h.fn _ g3)
  · exact .inr (by rw [h.sc]; exact g3)
theorem XOk.pgs (h : XOk C cf X sc fx) : ∀ {is : List Nat} {xs : List Expr}, ckNs C sc fx is xs = true → PGs X xs (gWs X.K C.M is) ∧ (assignEach xs X.env).length = is.length ∧ (assignEach xs X.env).findIdx? (·.1) = none
  | [], [], _ => ⟨pgs_0, rfl, rfl⟩
  | [], _ :: _, g => by cases g
  | _ :: _, [], g => by cases g
  | i :: is, x :: xs, g => by
    rw [ckNs, Bool.and_eq_true] at g
    obtain ⟨y, p, rfl, t, hM⟩ := h.tg g.1
    obtain ⟨h1, h2, h3⟩ := h.pgs g.2
    refine ⟨pgs_1 h.nd' t hM h1, ?_, ?_⟩
    · show (assignEach xs X.env).length + 1 = _
      rw [h2]
      rfl
    · show ((false, _) :: assignEach xs X.env).findIdx? _ = none
      rw [List.findIdx?_cons, h3]
      rfl
theorem XOk.pg (h : XOk C cf X sc fx) {tg : Tg} {x : Expr} (g : ckG C sc fx tg x = true) : PG X x (gW X.K C.M tg) := by
  cases tg with
  | one i =>
    obtain ⟨y, p, rfl, t, hM⟩ := h.tg g
    exact pg_one h.nd' t hM
  | many is =>
    cases x <;> simp only [ckG, Bool.false_eq_true] at g
    obtain ⟨h1, h2, h3⟩ := h.pgs g
    exact pg_many h.calm h1 h2 h3
theorem CO.rI {o : CO} (h : o.three = true) (X : Cx) : OpR X (compareOp o.op) (rI0 fun i j => .bl (cI o i j)) ∧ ∀ x y w, cmpW o x y = some w → cmpO o x y = some w := by
  cases o <;> first | cases h | skip
  · exact ⟨op_lt, fun x y w e => by cases x <;> cases y <;> first | exact e | cases e⟩
  · exact ⟨op_le, fun x y w e => by cases x <;> cases y <;> first | exact e | cases e⟩
  · exact ⟨op_gt, fun x y w e => by cases x <;> cases y <;> first | exact e | cases e⟩
theorem cmpW_gei {x y w : W} (e : cmpW .ge x y = some w) : cmpO .ge x y = some w := by cases x <;> cases y <;> first | exact e | cases e
theorem cmpK (hu : X.A.units + 65 < cLine) (o : CO) : ∃ r, OpR X (compareOp o.op) r ∧ OpW X.K r (cmpW o) := by
  cases o
  · exact ⟨_, op_eqD (by omega), opW_eq⟩
  · exact ⟨_, op_neD (by omega), opW_ne⟩
  · exact ⟨_, op_lt, opW_lt⟩
  · exact ⟨_, op_le, opW_le⟩
  · exact ⟨_, op_gt, opW_gt⟩
  · exact ⟨_, op_ge, opW_geI.of fun _ _ _ => cmpW_gei⟩
  · exact ⟨_, op_isW, opW_is⟩
  · exact ⟨_, op_notW, opW_isnot⟩
  · exact ⟨_, op_inW hu, opW_in⟩
  · exact ⟨_, op_notInW hu, opW_notin⟩
theorem bltK (h : XOk C cf X sc fx) {cfe : CF} {f : BF} {z : Expr} {a : E} {na : Nat} {p pos : Pos} (hf : f.ok = true) (hg : glB sc f.nm = true) (hs : notStar z = true) (ha : PE X z (tE X.K C.M cfe a na)) (h1 : 1 ≤ na) : PE X (.Call (.Name f.nm p) [z] [] pos) (tE X.K C.M cfe (.blt f a) 3) := by
  have g := h.gl hg
  cases f <;> first | cases hf | skip
  · exact pe_bltB (f := .len) call_lenW callW_len g (h.bnm (by decide)) (by decide +kernel) (by decide) (by decide) hs ha h1
  · exact pe_bltB (f := .sum) (call_sumW h.calm) callW_sum g (h.bnm (by decide)) (by decide +kernel) (by decide) (by decide) hs ha h1
  · exact pe_bltB (f := .all) (cr_all h.calm) callW_all g (h.bnm (by decide)) (by decide +kernel) (by decide) (by decide) hs ha h1
  · exact pe_bltB (f := .max) (call_maxW h.calm) callW_max g (h.bnm (by decide)) (by decide +kernel) (by decide) (by decide) hs ha h1
  · exact pe_bltB (f := .min) (call_minW h.calm) callW_min g (h.bnm (by decide)) (by decide +kernel) (by decide) (by decide) hs ha h1
  · exact pe_bltB (f := .sorted) cr_sortedI callW_sorted g (h.bnm (by decide)) (by decide +kernel) (by decide) (by decide) hs ha h1
  · exact pe_bltT (f := .tuple) call_tuple_of callW_tuple g (h.bnm (by decide)) (by decide +kernel) (by decide) (by decide) hs ha h1
  · exact pe_bltT (f := .list) call_list_of callW_list g (h.bnm (by decide)) (by decide +kernel) (by decide) (by decide) hs ha h1
  · exact pe_bltT (f := .int) call_int1 callW_int g (h.bnm (by decide)) (by decide +kernel) (by decide) (by decide) hs ha h1
  · exact pe_bltB (f := .abs) call_abs callW_abs g (h.bnm (by decide)) (by decide +kernel) (by decide) (by decide) hs ha h1
theorem tyK (h : XOk C cf X sc fx) {cfe : CF} {t : Ty} {z : Expr} {a : E} {na : Nat} {p p2 pos : Pos} (hg : glB sc "isinstance" = true) (hgT : glB sc (Str.ofString t.name) = true) (hs : notStar z = true) (ha : PE X z (tE X.K C.M cfe a na)) (h1 : 1 ≤ na) :
    PE X (.Call (.Name "isinstance" p) [z, .Name (Str.ofString t.name) p2] [] pos) (tE X.K C.M cfe (.isi t a) 3) :=
  pe_isi (h.gl hg) (h.bnm (by decide)) hs (h.gl hgT) (h.bnm (by cases t <;> decide)) (by cases t <;> decide +kernel) (by cases t <;> decide) (by cases t <;> decide) ha h1
theorem star_any {es : List Expr} {env : PySem.Env} {pos : Pos} : (es.all notStar = true) → (backTo pos (starEach es env)).any (·.1) = false := by
  induction es with
  | nil => intro _; rfl
  | cons e es ih =>
    intro h
    rw [List.all_cons, Bool.and_eq_true] at h
    rw [star_of h.1]
    show (false || (backTo pos (starEach es env)).any (·.1)) = false
    rw [ih h.2]
    rfl
def isBO : Expr → Bool
  | .BoolOp _ _ _ => true
  | _ => false
/-- what is proved of an expression -/
structure Pf (C : Cc) (cf : CFI) (X : Cx) (e : E) (x : Expr) : Prop where
  pe : PE X x (tE X.K C.M (purely C.T cf) e (lv C e))
  pt : okT e x = true → PT X x (tT X.K C.M (purely C.T cf) e)
  pw : okT e x = true → isBO x = true → PW X x (tT X.K C.M (purely C.T cf) e)
theorem Pf.of {e : E} {x : Expr} (h : PE X x (tE X.K C.M (purely C.T cf) e (lv C e))) (ho : okT e x = true → plainTest x = true) : Pf C cf X e x where
  pe := h
  pt := fun q => pt_plain h (ho q)
  pw := fun q b => by
    have := ho q
    cases x <;> first | exact absurd this Bool.false_ne_true | cases b
def itL (C : Cc) : It → Nat
  | .seq e => lv C e
  | _ => 3
structure Pes (C : Cc) (cf : CFI) (X : Cx) (n : Nat) (es : Es) (xs : List Expr) : Prop where
  ns : xs.all notStar = true
  c : 2 ≤ n → PA X xs (tEs X.K C.M (purely C.T cf) es)
  a : PA X xs (tEa X.K C.M (purely C.T cf) es)
theorem boTail {o : BoolOp} {z : Expr} {zs : List Expr} {p : Pos} : isBO (.BoolOp o (z :: zs) p) = true := rfl
section
variable {C : Cc} {cf : CFI}
theorem and_ok {X : Cx} {a b : E} {y z : Expr} {zs : List Expr} {p : Pos} (A : Pf C cf X a y) (B : Pf C cf X b (.BoolOp .And (z :: zs) p)) (hz : zs ≠ []) : Pf C cf X (.and a b) (.BoolOp .And (y :: z :: zs) p) := by
  obtain ⟨w, ws, rfl⟩ := List.exists_cons_of_ne_nil hz
  refine ⟨pe_andW A.pe B.pe, fun h => ?_, fun h _ => ?_⟩
  · simp only [okT, Bool.and_eq_true] at h
    exact (pw_andW (A.pt h.1) (B.pw h.2 rfl)).pt
  · simp only [okT, Bool.and_eq_true] at h
    exact pw_andW (A.pt h.1) (B.pw h.2 rfl)
theorem or_ok {X : Cx} {a b : E} {y z : Expr} {zs : List Expr} {p : Pos} (A : Pf C cf X a y) (B : Pf C cf X b (.BoolOp .Or (z :: zs) p)) (hz : zs ≠ []) : Pf C cf X (.or a b) (.BoolOp .Or (y :: z :: zs) p) := by
  obtain ⟨w, ws, rfl⟩ := List.exists_cons_of_ne_nil hz
  refine ⟨pe_orW A.pe B.pe, fun h => ?_, fun h _ => ?_⟩
  · simp only [okT, Bool.and_eq_true] at h
    exact (pw_orW (A.pt h.1) (B.pw h.2 rfl)).pt
  · simp only [okT, Bool.and_eq_true] at h
    exact pw_orW (A.pt h.1) (B.pw h.2 rfl)
theorem and_ok1 {X : Cx} {a b : E} {y z : Expr} {p : Pos} (A : Pf C cf X a y) (B : Pf C cf X b z) : Pf C cf X (.and a b) (.BoolOp .And [y, z] p) := by
  refine ⟨pe_andW A.pe (pe_one B.pe), fun h => ?_, fun h _ => ?_⟩
  · simp only [okT, Bool.and_eq_true] at h
    exact (pw_andW (A.pt h.1) (pw_and1 (B.pt h.2))).pt
  · simp only [okT, Bool.and_eq_true] at h
    exact pw_andW (A.pt h.1) (pw_and1 (B.pt h.2))
theorem or_ok1 {X : Cx} {a b : E} {y z : Expr} {p : Pos} (A : Pf C cf X a y) (B : Pf C cf X b z) : Pf C cf X (.or a b) (.BoolOp .Or [y, z] p) := by
  refine ⟨pe_orW A.pe (pe_one B.pe), fun h => ?_, fun h _ => ?_⟩
  · simp only [okT, Bool.and_eq_true] at h
    exact (pw_orW (A.pt h.1) (pw_or1 (B.pt h.2))).pt
  · simp only [okT, Bool.and_eq_true] at h
    exact pw_orW (A.pt h.1) (pw_or1 (B.pt h.2))
theorem ckI2_lv {sc : Scope} {fx : FX} {x : Expr} (it : It) (g : ckI2 C it sc fx x = true) : 2 ≤ itL C it := by
  cases it with
  | seq e =>
    unfold ckI2 at g
    rw [Bool.and_eq_true] at g
    exact of_decide_eq_true g.2
  | keys e =>
    unfold ckI2 at g
    cases g
  | _ => show 2 ≤ 3; omega
theorem nm_base {y : Expr} (h : isNm y = true) (m : Str) (env : PySem.Env) (w : Sem Value) : attributeBase y m env w = w := by
  cases y <;> first | rfl | cases h
theorem ba {a b : Bool} (h : (a && b) = true) : a = true ∧ b = true := by rwa [Bool.and_eq_true] at h
mutual
theorem ckE_ok : ∀ (e : E) {X : Cx} {sc : Scope} {fx : FX} {x : Expr}, XOk C cf X sc fx → ckE C e sc fx x = true → Pf C cf X e x
  | .var i, X, sc, fx, x, h, g => by
    unfold ckE at g
    split at g
    · simp only [Bool.and_eq_true, decide_eq_true_eq, Bool.not_eq_true'] at g
      exact .of (pe_slot (by rw [h.hN]; exact g.1.1.1) (by rw [h.sc]; exact visB_ok g.1.1.2) g.1.2 g.2) fun q => q
    · cases g
  | .varT i, X, sc, fx, x, h, g => by
    unfold ckE at g
    split at g
    · simp only [Bool.and_eq_true, decide_eq_true_eq, Bool.not_eq_true'] at g
      exact .of (pe_slotT (by rw [h.hN]; exact g.1.1.1) (by rw [h.sc]; exact visB_ok g.1.1.2) g.1.2 g.2) fun q => q
    · cases g
  | .int i, X, sc, fx, x, h, g => by
    unfold ckE at g
    split at g
    · cases of_decide_eq_true g
      exact .of pe_i fun q => q
    · cases g
  | .bl i, X, sc, fx, x, h, g => by
    unfold ckE at g
    split at g
    · cases eq_of_beq g
      exact .of pe_b fun q => q
    · cases g
  | .str i, X, sc, fx, x, h, g => by
    unfold ckE at g
    split at g
    · exact .of (pe_s (of_decide_eq_true g)) fun q => q
    · cases g
  | .non, X, sc, fx, x, h, g => by
    unfold ckE at g
    split at g
    · exact .of pe_n fun q => q
    · cases g
  | .glb s i, X, sc, fx, x, h, g => by
    unfold ckE at g
    split at g
    · simp only [Bool.and_eq_true, decide_eq_true_eq, Bool.not_eq_true'] at g
      obtain ⟨t, ht⟩ := h.gi _ g.2
      exact .of (pe_g (h.gl g.1.1) ht g.1.2) fun q => q
    · cases g
  | .bin o a b, X, sc, fx, x, h, g => by
    unfold ckE at g
    split at g
    · obtain ⟨g, g3⟩ := ba g
      obtain ⟨g1, g2⟩ := ba g
      cases of_decide_eq_true g1
      exact .of (pe_binW (ckE_ok a h g2).pe (ckE_ok b h g3).pe (lv_pos C a) (lv_pos C b)) fun q => q
    · cases g
  | .neg a, X, sc, fx, x, h, g => by
    unfold ckE at g
    split at g
    · obtain ⟨g1, g2⟩ := ba g
      cases of_decide_eq_true g1
      exact .of (pe_neg (ckE_ok a h g2).pe (lv_pos C a)) fun q => q
    · cases g
  | .cmp o a b, X, sc, fx, x, h, g => by
    unfold ckE at g
    split at g
    · obtain ⟨g, g4⟩ := ba g
      obtain ⟨g, g3⟩ := ba g
      obtain ⟨g1, g2⟩ := ba g
      cases of_decide_eq_true g1
      obtain ⟨r, h1, h2⟩ := cmpK h.u o
      refine ⟨pe_cmpW h1 h2 (ckE_ok a h g3).pe (ckE_ok b h g4).pe (by simpa using g2) (lv_pos C a) (lv_pos C b), fun _ => pt_cmpW h1 h2 (ckE_ok a h g3).pe (ckE_ok b h g4).pe (by simpa using g2) (lv_pos C a) (lv_pos C b), fun _ q => by cases q⟩
    · cases g
  | .cmp2 o p a b c, X, sc, fx, x, h, g => by
    unfold ckE at g
    split at g
    · obtain ⟨g, g8⟩ := ba g
      obtain ⟨g, g7⟩ := ba g
      obtain ⟨g, g6⟩ := ba g
      obtain ⟨g, g5⟩ := ba g
      obtain ⟨g, g4⟩ := ba g
      obtain ⟨g, g3⟩ := ba g
      obtain ⟨g1, g2⟩ := ba g
      cases of_decide_eq_true g1
      cases of_decide_eq_true g2
      refine ⟨pe_cmp2 (CO.rI g3 X).1 (CO.rI g4 X).1 (ckE_ok a h g6).pe (ckE_ok b h g7).pe (ckE_ok c h g8).pe (by simpa using g5) (CO.rI g3 X).2 (CO.rI g4 X).2, fun _ => pt_cmp2 (CO.rI g3 X).1 (CO.rI g4 X).1 (ckE_ok a h g6).pe (ckE_ok b h g7).pe (ckE_ok c h g8).pe (by simpa using g5) (CO.rI g3 X).2 (CO.rI g4 X).2, fun _ q => by cases q⟩
    · cases g
  | .nt a, X, sc, fx, x, h, g => by
    unfold ckE at g
    split at g
    · obtain ⟨g1, g2⟩ := ba g
      cases of_decide_eq_true g1
      have A := ckE_ok a h g2
      exact ⟨pe_nt A.pe (lv_pos C a), fun q => pt_nt (A.pt (by simpa only [okT] using q)), fun _ q => by cases q⟩
    · cases g
  | .and a b, X, sc, fx, x, h, g => by
    unfold ckE at g
    split at g
    · obtain ⟨g, g3⟩ := ba g
      obtain ⟨g1, g2⟩ := ba g
      cases of_decide_eq_true g1
      exact and_ok1 (ckE_ok a h g2) (ckE_ok b h g3)
    · rename_i hne
      obtain ⟨g, g3⟩ := ba g
      obtain ⟨g1, g2⟩ := ba g
      cases of_decide_eq_true g1
      exact and_ok (ckE_ok a h g2) (ckE_ok b h g3) hne
    · cases g
  | .or a b, X, sc, fx, x, h, g => by
    unfold ckE at g
    split at g
    · obtain ⟨g, g3⟩ := ba g
      obtain ⟨g1, g2⟩ := ba g
      cases of_decide_eq_true g1
      exact or_ok1 (ckE_ok a h g2) (ckE_ok b h g3)
    · rename_i hne
      obtain ⟨g, g3⟩ := ba g
      obtain ⟨g1, g2⟩ := ba g
      cases of_decide_eq_true g1
      exact or_ok (ckE_ok a h g2) (ckE_ok b h g3) hne
    · cases g
  | .ite c a b, X, sc, fx, x, h, g => by
    unfold ckE at g
    split at g
    · obtain ⟨g, g4⟩ := ba g
      obtain ⟨g, g3⟩ := ba g
      obtain ⟨g1, g2⟩ := ba g
      exact .of (pe_iteW ((ckE_ok c h g1).pt g2) (ckE_ok a h g3).pe (ckE_ok b h g4).pe) fun q => q
    · cases g
  | .idx a b, X, sc, fx, x, h, g => by
    unfold ckE at g
    split at g
    · obtain ⟨g, g3⟩ := ba g
      obtain ⟨g1, g2⟩ := ba g
      exact .of (pe_idx (by have := h.u; omega) (by simpa using g1) (ckE_ok a h g2).pe (ckE_ok b h g3).pe (lv_pos C a) (lv_pos C b)) fun q => q
    · cases g
  | .slc a lo hi, X, sc, fx, x, h, g => by
    unfold ckE at g
    split at g
    · obtain ⟨g, g3⟩ := ba g
      obtain ⟨g1, g2⟩ := ba g
      exact .of (pe_slc (ckE_ok a h g1).pe (ckO_ok lo h g2) (ckO_ok hi h g3) (lv_pos C a)) fun q => q
    · cases g
  | .rev a, X, sc, fx, x, h, g => by
    unfold ckE at g
    split at g
    · obtain ⟨g, g3⟩ := ba g
      obtain ⟨g1, g2⟩ := ba g
      cases of_decide_eq_true g1
      cases of_decide_eq_true g2
      exact .of (pe_revW (ckE_ok a h g3).pe (lv_pos C a)) fun q => q
    · cases g
  | .tup es, X, sc, fx, x, h, g => by
    unfold ckE at g
    split at g
    · exact .of (pe_tupW ((ckEs_ok es h g).c (Nat.le_refl _))) fun q => q
    · cases g
  | .lst es, X, sc, fx, x, h, g => by
    unfold ckE at g
    split at g
    · exact .of (pe_lstW ((ckEs_ok es h g).c (Nat.le_refl _))) fun q => q
    · cases g
  | .dnil, X, sc, fx, x, h, g => by
    unfold ckE at g
    split at g
    · exact .of pe_dnilW fun q => q
    · cases g
  | .dsing k v, X, sc, fx, x, h, g => by
    unfold ckE at g
    split at g
    · obtain ⟨g1, g2⟩ := ba g
      exact .of (pe_dsingW (by have := h.u; omega) (ckE_ok k h g1).pe (ckE_ok v h g2).pe) fun q => q
    · cases g
  | .call f es, X, sc, fx, x, h, g => by
    unfold ckE at g
    split at g
    · rename_i y p z zs pos
      obtain ⟨g, g5⟩ := ba g
      obtain ⟨g, g4⟩ := ba g
      obtain ⟨g, g3⟩ := ba g
      obtain ⟨g1, g2⟩ := ba g
      obtain ⟨k, F⟩ := h.F
      obtain ⟨d, hd⟩ := Option.isSome_iff_exists.mp g4
      have P := ckEs_ok es h g5
      have ns := P.ns
      rw [List.all_cons] at ns
      obtain ⟨n1, n2⟩ := ba ns
      cases es with
      | nil => unfold ckEs at g5; cases g5
      | cons e es =>
        refine .of ?_ fun q => q
        have := pe_callW (p := p) (pos := pos) F hd (of_decide_eq_true g1) (h.gl g2) n1 (by simpa using g3) (P.c (Nat.le_refl _)) (star_any n2)
        simpa only [lv, hd] using this
    · cases g
  | .callb f es, X, sc, fx, x, h, g => by
    unfold ckE at g
    split at g
    · rename_i y p z zs pos
      obtain ⟨g, g5⟩ := ba g
      obtain ⟨g, g4⟩ := ba g
      obtain ⟨g, g3⟩ := ba g
      obtain ⟨g1, g2⟩ := ba g
      obtain ⟨k, F⟩ := h.F
      obtain ⟨d, hd⟩ := Option.isSome_iff_exists.mp g4
      have P := ckEs_ok es h g5
      have ns := P.ns
      rw [List.all_cons] at ns
      obtain ⟨n1, n2⟩ := ba ns
      cases es with
      | nil => unfold ckEs at g5; cases g5
      | cons e es => exact .of (pe_callbW (p := p) (pos := pos) F hd (of_decide_eq_true g1) (h.gl g2) n1 (by simpa using g3) P.a (star_any n2)) fun q => q
    · cases g
  | .blt f a, X, sc, fx, x, h, g => by
    unfold ckE at g
    split at g
    · obtain ⟨g, g5⟩ := ba g
      obtain ⟨g, g4⟩ := ba g
      obtain ⟨g, g3⟩ := ba g
      obtain ⟨g1, g2⟩ := ba g
      cases of_decide_eq_true g2
      exact .of (bltK h g1 g3 g4 (ckE_ok a h g5).pe (lv_pos C a)) fun q => q
    · cases g
  | .mm mx (.cons a (.cons b .nil)), X, sc, fx, x, h, g => by
    unfold ckE at g
    split at g
    · obtain ⟨g, g3⟩ := ba g
      obtain ⟨g1, g2⟩ := ba g
      unfold ckEs at g3
      obtain ⟨k, g4⟩ := ba g3
      obtain ⟨k, k3⟩ := ba k
      obtain ⟨k1, k2⟩ := ba k
      unfold ckEs at g4
      obtain ⟨j, _⟩ := ba g4
      obtain ⟨j, j3⟩ := ba j
      obtain ⟨j1, j2⟩ := ba j
      have A := (ckE_ok a h k3).pe
      have B := (ckE_ok b h j3).pe
      cases of_decide_eq_true g1
      cases mx with
      | true => exact .of (pe_max2 h.calm (h.gl g2) (h.bnm (by decide)) k1 j1 A B (lv_pos C a) (lv_pos C b)) fun q => q
      | false => exact .of (pe_min2 h.calm (h.gl g2) (h.bnm (by decide)) k1 j1 A B (lv_pos C a) (lv_pos C b)) fun q => q
    · cases g
  | .mm mx .nil, X, sc, fx, x, h, g => by
    unfold ckE at g
    split at g
    · obtain ⟨g, g3⟩ := ba g
      unfold ckEs at g3
      cases g3
    · cases g
  | .mm mx (.cons a .nil), X, sc, fx, x, h, g => by
    unfold ckE at g
    split at g
    · obtain ⟨g, g3⟩ := ba g
      unfold ckEs at g3
      obtain ⟨k, g4⟩ := ba g3
      unfold ckEs at g4
      cases g4
    · cases g
  | .mm mx (.cons a (.cons b (.cons c es))), X, sc, fx, x, h, g => by
    unfold ckE at g
    split at g
    · obtain ⟨g, g3⟩ := ba g
      unfold ckEs at g3
      obtain ⟨k, g4⟩ := ba g3
      unfold ckEs at g4
      obtain ⟨k, g5⟩ := ba g4
      unfold ckEs at g5
      cases g5
    · cases g
  | .isi t a, X, sc, fx, x, h, g => by
    unfold ckE at g
    split at g
    · obtain ⟨g, g6⟩ := ba g
      obtain ⟨g, g5⟩ := ba g
      obtain ⟨g, g4⟩ := ba g
      obtain ⟨g, g3⟩ := ba g
      obtain ⟨g1, g2⟩ := ba g
      cases of_decide_eq_true g1
      cases of_decide_eq_true g5
      exact .of (tyK h g2 g6 g3 (ckE_ok a h g4).pe (lv_pos C a)) fun q => q
    · cases g
  | .count o a, X, sc, fx, x, h, g => by
    unfold ckE at g
    cases g
  | .index o a, X, sc, fx, x, h, g => by
    unfold ckE at g
    cases g
  | .dget o k d, X, sc, fx, x, h, g => by
    unfold ckE at g
    split at g
    · obtain ⟨g, g8⟩ := ba g
      obtain ⟨g, g7⟩ := ba g
      obtain ⟨g, g6⟩ := ba g
      obtain ⟨g, g5⟩ := ba g
      obtain ⟨g, g4⟩ := ba g
      obtain ⟨g, g3⟩ := ba g
      obtain ⟨g1, g2⟩ := ba g
      cases of_decide_eq_true g1
      refine .of (pe_dgetW (by have := h.u; omega) (nm_base g2 _ _ _) g3 g4 g5 (ckE_ok o h g6).pe (ckE_ok k h g7).pe (ckE_ok d h g8).pe) fun q => q
    · cases g
  | .lrange a, X, sc, fx, x, h, g => by
    unfold ckE at g
    split at g
    · obtain ⟨g, g6⟩ := ba g
      obtain ⟨g, g5⟩ := ba g
      obtain ⟨g, g4⟩ := ba g
      obtain ⟨g, g3⟩ := ba g
      obtain ⟨g1, g2⟩ := ba g
      cases of_decide_eq_true g1
      cases of_decide_eq_true g2
      exact .of (pe_lrangeW h.calm (h.gl g3) (h.bnm (by decide)) (h.gl g4) (h.bnm (by decide)) g5 (ckE_ok a h g6).pe) fun q => q
    · cases g
  | .trange a, X, sc, fx, x, h, g => by
    unfold ckE at g
    split at g
    · obtain ⟨g, g6⟩ := ba g
      obtain ⟨g, g5⟩ := ba g
      obtain ⟨g, g4⟩ := ba g
      obtain ⟨g, g3⟩ := ba g
      obtain ⟨g1, g2⟩ := ba g
      cases of_decide_eq_true g1
      cases of_decide_eq_true g2
      exact .of (pe_trangeW h.calm (h.gl g3) (h.bnm (by decide)) (h.gl g4) (h.bnm (by decide)) g5 (ckE_ok a h g6).pe) fun q => q
    · cases g
  | .lc e tg it c, X, sc, fx, x, h, g => by
    unfold ckE at g
    split at g
    · obtain ⟨g, g8⟩ := ba g
      obtain ⟨g, g7⟩ := ba g
      obtain ⟨g, g6⟩ := ba g
      obtain ⟨g, g5⟩ := ba g
      obtain ⟨g, g4⟩ := ba g
      obtain ⟨g, g3⟩ := ba g
      obtain ⟨g1, g2⟩ := ba g
      cases of_decide_eq_true g1
      refine .of (pe_lcW h.calm h.nd' (ckI_ok it h g4) (blkOk_by (by rw [h.hN, h.sc]; exact g3)) (ownOf_snd C tg.slots) (fun s H Ca cl fp => (h.blk _ s H Ca cl fp).pg g5) (fun s H Ca cl fp => ckC_ok c (h.blk _ s H Ca cl fp) g6) (fun s H Ca cl fp => (ckE_ok e (h.blk _ s H Ca cl fp) g8).pe) (of_decide_eq_true g7) (notSet_ok g2 _)) fun q => q
    · cases g
  | .lc2 e tg it tg2 it2 c, X, sc, fx, x, h, g => by
    unfold ckE at g
    split at g
    · obtain ⟨g, g12⟩ := ba g
      obtain ⟨g, g11⟩ := ba g
      obtain ⟨g, g10⟩ := ba g
      obtain ⟨g, g9⟩ := ba g
      obtain ⟨g, g8⟩ := ba g
      obtain ⟨g, g7⟩ := ba g
      obtain ⟨g, g6⟩ := ba g
      obtain ⟨g, g5⟩ := ba g
      obtain ⟨g, g4⟩ := ba g
      obtain ⟨g, g3⟩ := ba g
      obtain ⟨g1, g2⟩ := ba g
      cases of_decide_eq_true g1
      cases of_decide_eq_true g2
      have n2 : 2 ≤ itL C it2 := ckI2_lv it2 g8
      refine .of (pe_lc2W h.calm h.nd' (ckI_ok it h g6) (blkOk_by (by rw [h.hN, h.sc]; exact g5)) (ownOf_snd C _) (fun s H Ca cl fp => (h.blk _ s H Ca cl fp).pg g7) (fun s H Ca cl fp => (ckI2_ok it2 (h.blk _ s H Ca cl fp) g8).1) (fun s H Ca cl fp => (h.blk _ s H Ca cl fp).pg g9)
        (fun s H Ca cl fp => ckC_ok c (h.blk _ s H Ca cl fp) g10) (fun s H Ca cl fp => (ckE_ok e (h.blk _ s H Ca cl fp) g12).pe) (of_decide_eq_true g11) n2 (notSet_ok g3 _) (notSet_ok g4)) fun q => q
    · cases g
  | .dc _ _ _ _ _, X, sc, fx, x, h, g => by
    unfold ckE at g
    cases g
  | .dc2 _ _ _ _ _ _, X, sc, fx, x, h, g => by
    unfold ckE at g
    cases g
theorem ckEs_ok {n : Nat} : ∀ (es : Es) {X : Cx} {sc : Scope} {fx : FX} {xs : List Expr}, XOk C cf X sc fx → ckEs C n es sc fx xs = true → Pes C cf X n es xs
  | .nil, X, sc, fx, xs, h, g => by
    unfold ckEs at g
    cases List.isEmpty_iff.mp g
    exact ⟨rfl, fun _ => pa_es0, pa_ea0⟩
  | .cons e es, X, sc, fx, xs, h, g => by
    unfold ckEs at g
    split at g
    · obtain ⟨g, g4⟩ := ba g
      obtain ⟨g, g3⟩ := ba g
      obtain ⟨g1, g2⟩ := ba g
      have P := ckEs_ok es h g4
      have A := (ckE_ok e h g3).pe
      refine ⟨by rw [List.all_cons, g1, P.ns]; rfl, fun hn => pa_es1 g1 A (Nat.le_trans hn (of_decide_eq_true g2)) (P.c hn), pa_ea1 g1 A P.a⟩
    · cases g
theorem ckO_ok : ∀ (o : Oe) {X : Cx} {sc : Scope} {fx : FX} {x : Option Expr}, XOk C cf X sc fx → ckO C o sc fx x = true → PO X x (tO X.K C.M (purely C.T cf) o)
  | .no, X, sc, fx, x, h, g => by
    unfold ckO at g
    cases Option.isNone_iff_eq_none.mp g
    exact po_no
  | .so e, X, sc, fx, x, h, g => by
    unfold ckO at g
    split at g
    · exact po_so (ckE_ok e h g).pe
    · cases g
theorem ckC_ok : ∀ (o : Oe) {X : Cx} {sc : Scope} {fx : FX} {xs : List Expr}, XOk C cf X sc fx → ckC C o sc fx xs = true → PTs X xs (tC X.K C.M (purely C.T cf) o)
  | .no, X, sc, fx, x, h, g => by
    unfold ckC at g
    cases List.isEmpty_iff.mp g
    exact pts_no
  | .so e, X, sc, fx, x, h, g => by
    unfold ckC at g
    split at g
    · obtain ⟨g1, g2⟩ := ba g
      exact pts_so ((ckE_ok e h g1).pt g2)
    · cases g
theorem ckI_ok : ∀ (it : It) {X : Cx} {sc : Scope} {fx : FX} {x tg : Expr}, XOk C cf X sc fx → ckI C it sc fx x = true → PI X tg x (tI X.K C.M (purely C.T cf) X.H_0 it (itL C it))
  | .seq e, X, sc, fx, x, tg, h, g => by
    unfold ckI at g
    exact pi_seqW (ckE_ok e h g).pe (lv_pos C e)
  | .rng a, X, sc, fx, x, tg, h, g => by
    unfold ckI at g
    split at g
    · obtain ⟨g, g4⟩ := ba g
      obtain ⟨g, g3⟩ := ba g
      obtain ⟨g1, g2⟩ := ba g
      cases of_decide_eq_true g1
      exact pi_rngW (h.gl g2) (h.bnm (by decide)) g3 (ckE_ok a h g4).pe
    · cases g
  | .rng2 a b, X, sc, fx, x, tg, h, g => by
    unfold ckI at g
    split at g
    · obtain ⟨g, g6⟩ := ba g
      obtain ⟨g, g5⟩ := ba g
      obtain ⟨g, g4⟩ := ba g
      obtain ⟨g, g3⟩ := ba g
      obtain ⟨g1, g2⟩ := ba g
      cases of_decide_eq_true g1
      exact pi_rng2W (h.gl g2) (h.bnm (by decide)) g3 g4 (ckE_ok a h g5).pe (ckE_ok b h g6).pe
    · cases g
  | .keys e, X, sc, fx, x, tg, h, g => by
    unfold ckI at g
    obtain ⟨g1, g2⟩ := ba g
    exact pi_keysW (ckE_ok e h g1).pe (of_decide_eq_true g2)
theorem ckI2_ok : ∀ (it : It) {X : Cx} {sc : Scope} {fx : FX} {x tg : Expr}, XOk C cf X sc fx → ckI2 C it sc fx x = true → PI X tg x (tI X.K C.M (purely C.T cf) HN it (itL C it)) ∧ 2 ≤ itL C it
  | .seq e, X, sc, fx, x, tg, h, g => by
    unfold ckI2 at g
    obtain ⟨g1, g2⟩ := ba g
    exact ⟨pi_seqW (ckE_ok e h g1).pe (lv_pos C e), of_decide_eq_true g2⟩
  | .rng a, X, sc, fx, x, tg, h, g => by
    unfold ckI2 at g
    split at g
    · obtain ⟨g, g4⟩ := ba g
      obtain ⟨g, g3⟩ := ba g
      obtain ⟨g1, g2⟩ := ba g
      cases of_decide_eq_true g1
      exact ⟨pi_rngW (h.gl g2) (h.bnm (by decide)) g3 (ckE_ok a h g4).pe, by show 2 ≤ 3; omega⟩
    · cases g
  | .rng2 a b, X, sc, fx, x, tg, h, g => by
    unfold ckI2 at g
    split at g
    · obtain ⟨g, g6⟩ := ba g
      obtain ⟨g, g5⟩ := ba g
      obtain ⟨g, g4⟩ := ba g
      obtain ⟨g, g3⟩ := ba g
      obtain ⟨g1, g2⟩ := ba g
      cases of_decide_eq_true g1
      exact ⟨pi_rng2W (h.gl g2) (h.bnm (by decide)) g3 g4 (ckE_ok a h g5).pe (ckE_ok b h g6).pe, by show 2 ≤ 3; omega⟩
    · cases g
  | .keys e, X, sc, fx, x, tg, h, g => by
    unfold ckI2 at g
    cases g
end
end
end
end Mini

end

section
set_option maxRecDepth 100000
set_option maxHeartbeats 4000000
/-! SoundM: the state of a body as statements change it. -/
namespace Mini
open PySem PySem.Spec PyProof.Rows L2

structure Ext (IO : List Nat) (g : G) (H : Hp) (g' : G) (H' : Hp) : Prop where
  S : g'.S = g.S
  H0 : g'.H0 = g.H0
  io : g'.io = g.io
  L : g'.L = g.L
  kp : Kp (fun b => b ∈ g.O) H H'
  O : ∀ b, b ∈ g'.O → b ∈ g.O ∨ H b = none
  own : ∀ i ∈ IO, g'.own i = g.own i
def IoOk (IO : List Nat) (g : G) : Prop := ∀ b ∈ g.io, ∃ i ∈ IO, g.own i = some b
theorem Ext.refl (IO : List Nat) (g : G) (H : Hp) : Ext IO g H g H := ⟨rfl, rfl, rfl, rfl, fun _ _ e _ => e, fun _ h => .inl h, fun _ _ => rfl⟩
theorem Ext.same {IO : List Nat} {g : G} {H H' : Hp} (s : Same H H') : Ext IO g H g H' := ⟨rfl, rfl, rfl, rfl, .of_same s, fun _ h => .inl h, fun _ _ => rfl⟩
theorem Ext.trans {IO : List Nat} {g g1 g2 : G} {H H1 H2 : Hp} (a : Ext IO g H g1 H1) (b : Ext IO g1 H1 g2 H2) : Ext IO g H g2 H2 where
  S := b.S.trans a.S
  H0 := b.H0.trans a.H0
  io := b.io.trans a.io
  L := b.L.trans a.L
  kp := fun c o e h => by
    refine b.kp c o (a.kp c o e h) ?_
    rcases h with h | h
    · refine .inl fun z => ?_
      rcases a.O c z with q | q
      · exact h q
      · rw [e] at q; cases q
    · exact .inr h
  O := fun c h => by
    rcases b.O c h with q | q
    · exact a.O c q
    · cases e : H c with
      | none => exact .inr rfl
      | some o =>
        by_cases hc : c ∈ g.O
        · exact .inl hc
        · rw [a.kp c o e (.inl hc)] at q
          cases q
  own := fun i hi => (b.own i hi).trans (a.own i hi)
theorem Ext.io_ok {IO : List Nat} {g g' : G} {H H' : Hp} (a : Ext IO g H g' H') (h : IoOk IO g) : IoOk IO g' := fun b hb => by
  rw [a.io] at hb
  obtain ⟨i, hi, e⟩ := h b hb
  exact ⟨i, hi, by rw [a.own i hi]; exact e⟩
section
variable {K : PySem.W.Frag} {M IO : List Nat} {g : G} {ρ : Env} {σ : L2.St} {H H' : Hp} {i : Nat} {w : W} {v : V} {a : Addr}
theorem StOk.new0 (s : StOk K M g ρ σ H) {b : Addr} (h : H b = none) : g.H0 b = none := by
  cases e : g.H0 b with
  | none => rfl
  | some o =>
    have nio : b ∉ g.io := fun q => by
      obtain ⟨u, z⟩ := s.dom (s.ioO b q)
      rw [h] at z
      cases z
    rcases s.keep b o e nio with q | ⟨_, _, q⟩ <;> rw [h] at q <;> cases q
/-- a thing that holds no list, whatever the slot -/
theorem StOk.setN (s : StOk K M g ρ σ H) (r : Rep K g.cl H w v) (ho : w.obj = false) : StOk K M g (ρ.set i (some w)) (σ.set i (some v)) H where
  keep := s.keep
  O := s.O
  ioO := s.ioO
  len := by rw [List.length_set, List.length_set, s.len]
  sl := fun j w' e => by
    rw [getv_set] at e
    by_cases h : i = j
    · subst h
      rw [if_pos rfl] at e
      split at e
      · rename_i hl
        cases e
        rw [List.getElem?_set_self (by rw [← s.len]; exact hl)]
        exact ⟨v, rfl, .of r ho _⟩
      · cases e
    · rw [if_neg h] at e
      rw [List.getElem?_set_ne h]
      exact s.sl j w' e
  ow := fun j w' hj e ho' => by
    rw [getv_set] at e
    by_cases h : i = j
    · subst h
      rw [if_pos rfl] at e
      split at e
      · cases e
        rw [ho] at ho'
        cases ho'
      · cases e
    · rw [if_neg h] at e
      rw [List.getElem?_set_ne h]
      exact s.ow j w' hj e ho'
  inj := s.inj
  od := s.od
/-- a new list becomes one of the body's own -/
def G.take (g : G) (i : Nat) (a : Addr) : G := { g with O := a :: g.O, own := fun j => if j = i then some a else g.own j }
theorem G.take_cl {b : Addr} : (g.take i a).cl b ↔ g.cl b ∧ b ≠ a := G.push_cl (g := g)
theorem StOk.take (s : StOk K M g ρ σ H) (sm : Same H H') (hi : i ∈ M) (hio : i ∉ IO) (r : RepL 3 K g H H' w v) :
    ∃ g', Ext IO g H g' H' ∧ StOk K M g' (ρ.set i (some w)) (σ.set i (some v)) H' := by
  by_cases ho : w.obj = false
  · exact ⟨g, .same sm, (s.same sm).setN (r.rep (by omega)) ho⟩
  · have key : ∃ a, v = .ref a ∧ H a = none ∧ (∃ o, H' a = some o ∧ Mo o) ∧ g.cl a ∧ RepL 1 K (g.take i a) H' H' w v := by
      cases w with
      | lst ws =>
        obtain ⟨a, vs, rfl, h1, _, h3, h4⟩ := r
        exact ⟨a, rfl, (h4 (Nat.le_refl _)).1, ⟨_, h1, .inl ⟨_, rfl⟩⟩, h3 (by omega), a, vs, rfl, h1, (h4 (Nat.le_refl _)).2.weak fun b u z _ => G.take_cl.mpr z, fun q => by omega, fun q => by omega⟩
      | dct kvs =>
        obtain ⟨a, rfl, h1, h3, h4⟩ := r
        exact ⟨a, rfl, (h4 (Nat.le_refl _)).1, ⟨_, (h4 (Nat.le_refl _)).2, .inr ⟨_, rfl⟩⟩, h3 (by omega), a, rfl, h1, fun q => by omega, fun q => by omega⟩
      | _ => exact absurd rfl ho
    obtain ⟨a, rfl, ha, ⟨o, ea, mo⟩, hcl, r1⟩ := key
    have ne : ∀ {b u}, H b = some u → b ≠ a := fun e z => by subst z; rw [ha] at e; cases e
    have nO : ∀ b ∈ g.O, b ≠ a := fun b hb z => by subst z; exact hcl.2 hb
    refine ⟨g.take i a, ⟨rfl, rfl, rfl, rfl, .of_same sm, fun b hb => ?_, fun j hj => ?_⟩, ?_⟩
    · rcases List.mem_cons.mp hb with rfl | hb
      · exact .inr ha
      · exact .inl hb
    · exact if_neg fun z : j = i => hio (z ▸ hj)
    · have s' := s.same sm
      exact {
        keep := s'.keep
        O := fun b hb => by
          rcases List.mem_cons.mp hb with rfl | hb
          · refine ⟨.inr (s.new0 ha), ?_⟩
            rw [ea]
            rcases mo with ⟨xs, rfl⟩ | ⟨kvs, rfl⟩
            · exact .inl ⟨xs, rfl⟩
            · exact .inr ⟨kvs, rfl⟩
          · exact s'.O b hb
        ioO := fun b hb => List.mem_cons_of_mem _ (s.ioO b hb)
        len := by rw [List.length_set, List.length_set, s.len]
        sl := fun j w' e => by
          rw [getv_set] at e
          by_cases h : i = j
          · subst h
            rw [if_pos rfl] at e
            split at e
            · rename_i hl
              cases e
              rw [List.getElem?_set_self (by rw [← s.len]; exact hl), if_pos hi]
              exact ⟨_, rfl, r1⟩
            · cases e
          · rw [if_neg h] at e
            rw [List.getElem?_set_ne h]
            obtain ⟨v', e1, r'⟩ := s.sl j w' e
            refine ⟨v', e1, ?_⟩
            have hm := mode_le j M
            have r2 := r'.same sm
            cases w' with
            | lst ws =>
              obtain ⟨a', vs, e, h1, h2, h3, _⟩ := r'
              obtain ⟨_, _, e', k1, k2, _, _⟩ := r2
              cases e
              cases e'
              rw [sm _ _ h1] at k1
              cases k1
              refine ⟨a', vs, rfl, sm _ _ h1, h2.same sm fun b u z q => G.take_cl.mpr ⟨z, ne q⟩, fun q => G.take_cl.mpr ⟨h3 q, ne h1⟩, fun q => by omega⟩
            | dct kvs =>
              obtain ⟨a', e, h1, h3, _⟩ := r'
              exact ⟨a', e, (Kp.of_same (M := fun _ => False) sm).rd (fun z => z) h1, fun q => G.take_cl.mpr ⟨h3 q, h1.elim (fun z => ne z) fun ⟨_, z⟩ => ne z⟩, fun q => by omega⟩
            | _ => exact Rep.same (K := K) (S := g.cl) sm (fun b u z q => G.take_cl.mpr ⟨z, ne q⟩) r'
        ow := fun j w' hj e ho' => by
          rw [getv_set] at e
          by_cases h : i = j
          · subst h
            rw [if_pos rfl] at e
            split at e
            · rename_i hl
              cases e
              exact ⟨a, by rw [List.getElem?_set_self (by rw [← s.len]; exact hl)], if_pos rfl, List.mem_cons_self⟩
            · cases e
          · rw [if_neg h] at e
            obtain ⟨a', h1, h2, h3⟩ := s.ow j w' hj e ho'
            exact ⟨a', by rw [List.getElem?_set_ne h]; exact h1, by show (if j = i then _ else _) = _; rw [if_neg (Ne.symm h)]; exact h2, List.mem_cons_of_mem _ h3⟩
        inj := fun j k b h1 h2 => by
          have h1 : (if j = i then some a else g.own j) = some b := h1
          have h2 : (if k = i then some a else g.own k) = some b := h2
          split at h1 <;> split at h2
          · rename_i e1 e2; rw [e1, e2]
          · cases h1
            exact absurd h2 (own_ne s ha k)
          · cases h2
            exact absurd h1 (own_ne s ha j)
          · exact s.inj j k b h1 h2
        od := fun j b h1 => by
          have h1 : (if j = i then some a else g.own j) = some b := h1
          split at h1
          · cases h1; exact ⟨o, ea⟩
          · obtain ⟨u, z⟩ := s.od j b h1
            exact ⟨u, sm _ _ z⟩ }
end
end Mini

end

section
set_option maxRecDepth 100000
set_option maxHeartbeats 4000000
/-! SoundN: what is one's own is changed, is given away. -/
namespace Mini
open PySem PySem.Spec PyProof.Rows L2
section
variable {K : PySem.W.Frag} {M IO : List Nat} {g : G} {ρ : Env} {σ : L2.St} {H H' : Hp} {i j : Nat} {w : W} {v : V} {a : Addr}
/-- what stands there -/
def Cnt (K : PySem.W.Frag) (S : Addr → Prop) (H : Hp) (w : W) (o : HO) : Prop :=
  match w with
  | .lst ws => ∃ vs, o = .lst vs ∧ Reps K S H ws vs
  | .dct kvs => o = .dT (dKV kvs)
  | _ => False
theorem StOk.mine (s : StOk K M g ρ σ H) (hi : i ∈ M) (e : getv ρ i = some w) (ho : w.obj = true) : ∃ a o, σ[i]? = some (some (.ref a)) ∧ a ∈ g.O ∧ g.own i = some a ∧ H a = some o ∧ Cnt K g.cl H w o := by
  obtain ⟨a, h1, h2, h3⟩ := s.ow i w hi e ho
  obtain ⟨v, e1, r⟩ := s.sl i w e
  rw [h1] at e1
  cases e1
  cases w with
  | lst ws =>
    obtain ⟨a', vs, e, k1, k2, _⟩ := r
    cases e
    exact ⟨a, _, h1, h3, h2, k1, vs, rfl, k2⟩
  | dct kvs =>
    obtain ⟨a', e, k1, _⟩ := r
    cases e
    refine ⟨a, _, h1, h3, h2, ?_, rfl⟩
    rcases k1 with k1 | ⟨od, k1⟩
    · exact k1
    · rcases (s.O a h3).2 with ⟨_, z⟩ | ⟨_, z⟩ <;> rw [k1] at z <;> cases z
  | _ => cases ho
theorem Cnt.mo {S : Addr → Prop} {w : W} {o : HO} (c : Cnt K S H w o) : Mo o := by
  cases w with
  | lst ws => obtain ⟨vs, rfl, _⟩ := c; exact .inl ⟨_, rfl⟩
  | dct kvs => cases c; exact .inr ⟨_, rfl⟩
  | _ => cases c
theorem StOk.mut {o o' : HO} (s : StOk K M g ρ σ H) (hi : i ∈ M) (hown : g.own i = some a) (haO : a ∈ g.O) (hσ : σ[i]? = some (some (.ref a))) (ha : H a = some o') (mo' : Mo o') (c : Cnt K g.cl H w o) :
    StOk K M g (ρ.set i (some w)) σ (upd H a o) ∧ Ext IO g H g (upd H a o) := by
  have mo := c.mo
  have clne : ∀ b, g.cl b → b ≠ a := fun b z q => by subst q; exact z.2 haO
  have dOr : H a = none ∨ ∃ u, H a = some u ∧ Mo u := .inr ⟨_, ha, mo'⟩
  have kr := kr_upd (H := H) (D := a) (S := g.cl) (o := o) clne dOr
  refine ⟨{
    keep := fun b u e n => ?_
    O := fun b hb => ⟨(s.O b hb).1, ?_⟩
    ioO := s.ioO
    len := by rw [List.length_set, s.len]
    sl := fun j w' e => ?_
    ow := fun j w' hj e ho => ?_
    inj := s.inj
    od := fun j b e => ?_ }, ⟨rfl, rfl, rfl, rfl, fun b u e h => ?_, fun _ z => .inl z, fun _ _ => rfl⟩⟩
  · have hb : b ≠ a := fun z => by
      subst z
      rcases (s.O b haO).1 with z | z
      · exact n z
      · rw [z] at e; cases e
    rw [upd_ne hb]
    exact s.keep b u e n
  · by_cases h : b = a
    · subst h
      rw [upd_same]
      rcases mo with ⟨xs, rfl⟩ | ⟨kvs, rfl⟩
      · exact .inl ⟨xs, rfl⟩
      · exact .inr ⟨kvs, rfl⟩
    · rw [upd_ne h]
      exact (s.O b hb).2
  · rw [getv_set] at e
    by_cases h : i = j
    · subst h
      rw [if_pos rfl] at e
      split at e
      · cases e
        refine ⟨_, hσ, ?_⟩
        rw [if_pos hi]
        cases w with
        | lst ws =>
          obtain ⟨vs, rfl, r⟩ := c
          exact ⟨a, vs, rfl, upd_same, r.kr kr fun _ _ z _ => z, fun q => by omega, fun q => by omega⟩
        | dct kvs =>
          cases c
          exact ⟨a, rfl, .inl upd_same, fun q => by omega, fun q => by omega⟩
        | _ => cases c
      · cases e
    · rw [if_neg h] at e
      obtain ⟨v', e1, r⟩ := s.sl j w' e
      refine ⟨v', e1, r.upd (mode_le j M) clne (fun b eb ho => ?_) dOr⟩
      by_cases hj : j ∈ M
      · obtain ⟨a', h1, h2, _⟩ := s.ow j w' hj e ho
        rw [e1, eb] at h1
        cases h1
        intro z
        subst z
        exact h (s.inj i j _ hown h2)
      · rw [if_neg hj] at r
        cases w' with
        | lst ws => obtain ⟨a', vs, e', _, _, h3, _⟩ := r; rw [eb] at e'; cases e'; exact clne _ (h3 (Nat.le_refl _))
        | dct kvs => obtain ⟨a', e', _, h3, _⟩ := r; rw [eb] at e'; cases e'; exact clne _ (h3 (Nat.le_refl _))
        | _ => cases ho
  · rw [getv_set] at e
    by_cases h : i = j
    · subst h
      exact ⟨a, hσ, hown, haO⟩
    · rw [if_neg h] at e
      exact s.ow j w' hj e ho
  · obtain ⟨u, z⟩ := s.od j b e
    by_cases h : b = a
    · subst h
      exact ⟨_, upd_same⟩
    · exact ⟨u, by rw [upd_ne h]; exact z⟩
  · by_cases hb : b = a
    · subst hb
      rcases h with h | h
      · exact absurd haO h
      · rw [ha] at e
        cases e
        rcases mo' with ⟨xs, rfl⟩ | ⟨kvs, rfl⟩
        · exact absurd rfl (h.1 xs)
        · exact absurd rfl (h.2 kvs)
    · rw [upd_ne hb]
      exact e
theorem getv_lt {ρ : Env} {i : Nat} {w : W} (h : getv ρ i = some w) : i < ρ.length := by
  unfold getv at h
  cases e : ρ[i]? with
  | none => rw [e] at h; cases h
  | some x => exact (List.getElem?_eq_some_iff.mp e).1
/-- a slot is forgotten -/
theorem StOk.drop (s : StOk K M g ρ σ H) (j : Nat) : StOk K M g (ρ.set j none) σ H where
  keep := s.keep
  O := s.O
  ioO := s.ioO
  len := by rw [List.length_set, s.len]
  sl := fun k w e => by
    rw [getv_setN] at e
    split at e
    · cases e
    · exact s.sl k w e
  ow := fun k w hk e ho => by
    rw [getv_setN] at e
    split at e
    · cases e
    · exact s.ow k w hk e ho
  inj := s.inj
  od := s.od
def G.give (g : G) (j : Nat) (a : Addr) : G := { g with O := g.O.filter (fun b => decide (b ≠ a)), own := fun k => if k = j then none else g.own k }
/-- x = y, y's list is given away -/
theorem StOk.mov (s : StOk K M g ρ σ H) (io : IoOk IO g) (hj : j ∈ M) (hjio : j ∉ IO) (hi : i ∉ M) (e : getv ρ j = some w) (hv : σ[j]? = some (some v)) :
    ∃ g', Ext IO g H g' H ∧ StOk K M g' ((ρ.set j none).set i (some w)) (σ.set i (some v)) H := by
  by_cases ho : w.obj = true
  · obtain ⟨a, o, h1, haO, hown, ha, c⟩ := s.mine hj e ho
    rw [hv] at h1
    cases h1
    have nio : a ∉ g.io := fun z => by
      obtain ⟨k, hk, e⟩ := io a z
      exact hjio (s.inj j k a hown e ▸ hk)
    have h0 : g.H0 a = none := (s.O a haO).1.resolve_left nio
    have cl' : ∀ b, g.cl b → (g.give j a).cl b := fun b z => ⟨z.1, fun q => z.2 (List.mem_filter.mp q).1⟩
    have cla : (g.give j a).cl a := ⟨.inr h0, fun q => by have := (List.mem_filter.mp q).2; simp at this⟩
    have sub : ∀ b ∈ (g.give j a).O, b ∈ g.O := fun b z => (List.mem_filter.mp z).1
    refine ⟨g.give j a, ⟨rfl, rfl, rfl, rfl, fun _ _ e _ => e, fun b z => .inl (sub b z), fun k hk => if_neg fun z : k = j => hjio (z ▸ hk)⟩, ?_⟩
    exact {
      keep := s.keep
      O := fun b hb => s.O b (sub b hb)
      ioO := fun b hb => List.mem_filter.mpr ⟨s.ioO b hb, decide_eq_true fun z => nio (z ▸ hb)⟩
      len := by rw [List.length_set, List.length_set, List.length_set, s.len]
      sl := fun k w' ek => by
        rw [getv_set] at ek
        by_cases h : i = k
        · subst h
          rw [if_pos rfl] at ek
          split at ek
          · rename_i hl
            cases ek
            rw [List.length_set] at hl
            rw [List.getElem?_set_self (by rw [← s.len]; exact hl), if_neg hi]
            refine ⟨_, rfl, ?_⟩
            cases w with
            | lst ws => obtain ⟨vs, rfl, r⟩ := c; exact ⟨a, vs, rfl, ha, r.weak fun b _ z _ => cl' b z, fun _ => cla, fun q => by omega⟩
            | dct kvs => cases c; exact ⟨a, rfl, .inl ha, fun _ => cla, fun q => by omega⟩
            | _ => cases ho
          · cases ek
        · rw [if_neg h, getv_setN] at ek
          split at ek
          · cases ek
          · rw [List.getElem?_set_ne h]
            obtain ⟨v', e1, r⟩ := s.sl k w' ek
            refine ⟨v', e1, ?_⟩
            have hm := mode_le k M
            cases w' with
            | lst ws => obtain ⟨b, vs, rfl, k1, k2, k3, k4⟩ := r; exact ⟨b, vs, rfl, k1, k2.weak fun b _ z _ => cl' b z, fun q => cl' _ (k3 q), fun q => by omega⟩
            | dct kvs => obtain ⟨b, rfl, k1, k3, k4⟩ := r; exact ⟨b, rfl, k1, fun q => cl' _ (k3 q), fun q => by omega⟩
            | _ => exact Rep.weak (K := K) (S := g.cl) (fun b _ z _ => cl' b z) r
      ow := fun k w' hk ek ho' => by
        rw [getv_set] at ek
        have h : i ≠ k := fun z => hi (z ▸ hk)
        rw [if_neg h, getv_setN] at ek
        split at ek
        · cases ek
        · rename_i hjk
          obtain ⟨b, k1, k2, k3⟩ := s.ow k w' hk ek ho'
          refine ⟨b, by rw [List.getElem?_set_ne h]; exact k1, by show (if k = j then _ else _) = _; rw [if_neg (Ne.symm hjk)]; exact k2, List.mem_filter.mpr ⟨k3, decide_eq_true fun z => ?_⟩⟩
          subst z
          exact hjk (s.inj j k _ hown k2)
      inj := fun k l b h1 h2 => by
        have h1 : (if k = j then none else g.own k) = some b := h1
        have h2 : (if l = j then none else g.own l) = some b := h2
        split at h1
        · cases h1
        · split at h2
          · cases h2
          · exact s.inj k l b h1 h2
      od := fun k b h1 => by
        have h1 : (if k = j then none else g.own k) = some b := h1
        split at h1
        · cases h1
        · exact s.od k b h1 }
  · have ho : w.obj = false := by simpa using ho
    obtain ⟨v', e1, r⟩ := s.sl j w e
    rw [hv] at e1
    cases e1
    exact ⟨g, .refl _ _ _, (s.drop j).setN ((r.low (m := 2) ho).rep (Nat.le_refl _)) ho⟩
end
end Mini

end

section
set_option maxRecDepth 100000
set_option maxHeartbeats 4000000
/-! SoundO: statements. -/
namespace Mini
open PySem PySem.Spec PyProof.Rows L2
section
variable {K : PySem.W.Frag} {M IO : List Nat} {fr : Bool} {g : G} {ρ : Env} {σ : L2.St} {H H' : Hp} {i j : Nat} {w : W} {v : V} {a : Addr}
/-- a statement's reading: ex is what it does in Mini -/
def tS (K : PySem.W.Frag) (M IO : List Nat) (fr : Bool) (ex : Env → Option (Env × Out)) : TS := fun D σ H => ∃ g ρ r, StOk K M g ρ σ H ∧ IoOk IO g ∧ ex ρ = some r ∧
  match r.2 with
  | .nx => ∀ g' σ' H', Ext IO g H g' H' → StOk K M g' r.1 σ' H' → D.nx σ' H'
  | .ret w => ∀ g' σ' v H', Ext IO g H g' H' → StOk K M g' r.1 σ' H' → Res K g.S g.H0 fr w v H' → D.rt v H'
theorem _root_.L2.PS.imp {X : Cx} {st : Stmt} {t t' : TS} (h : PS X st t) (q : ∀ D σ H, t' D σ H → t D σ H) : PS X st t' := ⟨fun pins s σ H D I w => h.run pins s σ H D I (q _ _ _ w)⟩
theorem _root_.L2.PSs.imp {X : Cx} {st : List Stmt} {t t' : TS} (h : PSs X st t) (q : ∀ D σ H, t' D σ H → t D σ H) : PSs X st t' := ⟨fun pins s σ H D I w => h.run pins s σ H D I (q _ _ _ w)⟩
/-- a value is handed back -/
theorem StOk.res {n : Nat} (s : StOk K M g ρ σ H) (r : RepL n K g H H' w v) (h2 : 2 ≤ n) (h3 : fr = true → 3 ≤ n) : Res K g.S g.H0 fr w v H' := by
  have hS : ∀ b u, g.cl b → H' b = some u → SN g.S g.H0 b := fun b u z _ => z.1
  refine ⟨(r.rep h2).weak hS, fun hf => ?_⟩
  have h3 := h3 hf
  cases w with
  | lst ws =>
    obtain ⟨a, vs, rfl, k1, k2, k3, k4⟩ := r
    exact ⟨a, vs, rfl, s.new0 (k4 h3).1, k1, (k4 h3).2.weak fun b u z e => ⟨hS b u z.1 e, z.2⟩⟩
  | dct kvs =>
    obtain ⟨a, rfl, k1, k3, k4⟩ := r
    exact ⟨a, rfl, s.new0 (k4 h3).1, (k4 h3).2⟩
  | _ => trivial
theorem StOk.resM (s : StOk K M g ρ σ H) (io : IoOk IO g) (hi : i ∈ M) (hio : i ∉ IO) (e : getv ρ i = some w) (hv : σ[i]? = some (some v)) : Res K g.S g.H0 fr w v H := by
  by_cases ho : w.obj = true
  · obtain ⟨a, o, h1, haO, hown, ha, c⟩ := s.mine hi e ho
    rw [hv] at h1
    cases h1
    have h0 : g.H0 a = none := (s.O a haO).1.resolve_left fun z => by
      obtain ⟨k, hk, e⟩ := io a z
      exact hio (s.inj i k a hown e ▸ hk)
    cases w with
    | lst ws =>
      obtain ⟨vs, rfl, r⟩ := c
      have r' : Reps K (fun b => SN g.S g.H0 b ∧ b ≠ a) H ws vs := r.weak fun b u z _ => ⟨z.1, fun q => z.2 (q ▸ haO)⟩
      exact ⟨.mkl (.inr h0) ha (r'.weak fun _ _ z _ => z.1), fun _ => ⟨a, vs, rfl, h0, ha, r'⟩⟩
    | dct kvs =>
      cases c
      exact ⟨.mkd (.inr h0) (.inl ha), fun _ => ⟨a, rfl, h0, ha⟩⟩
    | _ => cases ho
  · have ho : w.obj = false := by simpa using ho
    obtain ⟨v', e1, r⟩ := s.sl i w e
    rw [hv] at e1
    cases e1
    exact s.res (n := 3) (r.low ho) (by omega) fun _ => Nat.le_refl _

/-! ### one after another -/
theorem seqW {T : List Fn} {cf : CFI} {X : Cx} {st : Stmt} {rest : List Stmt} {s : S} {ss : Ss} (h1 : PS X st (tS X.K M IO fr (Mini.exec T cf s))) (h2 : PSs X rest (tS X.K M IO fr (Mini.execs T cf ss))) : PSs X (st :: rest) (tS X.K M IO fr (Mini.execs T cf (.cons s ss))) :=
  (pss_cons h1 h2).imp fun D σ H ⟨g, ρ, r, so, io, he, q⟩ => by
    simp only [Mini.execs, Option.bind_eq_some_iff] at he
    obtain ⟨⟨ρ1, o⟩, h1, he⟩ := he
    refine ⟨g, ρ, _, so, io, h1, ?_⟩
    cases o with
    | nx =>
      intro g1 σ1 H1 x1 s1
      refine ⟨g1, ρ1, r, s1, x1.io_ok io, he, ?_⟩
      rcases r with ⟨ρ2, o2⟩
      cases o2 with
      | nx => exact fun g2 σ2 H2 x2 s2 => q g2 σ2 H2 (x1.trans x2) s2
      | ret w => exact fun g2 σ2 v H2 x2 s2 r2 => q g2 σ2 v H2 (x1.trans x2) s2 (by rw [x1.S, x1.H0] at r2; exact r2)
    | ret w =>
      cases he
      exact fun g1 σ1 v H1 x1 s1 r1 => q g1 σ1 v H1 x1 s1 r1
theorem nilW {T : List Fn} {cf : CFI} {X : Cx} : PSs X [] (tS X.K M IO fr (Mini.execs T cf .nil)) := pss_nil.imp fun D σ H ⟨g, ρ, r, so, io, he, q⟩ => by
  simp only [Mini.execs, Option.some.injEq] at he
  subst he
  exact q g σ H (.refl _ _ _) so
theorem ifW {T : List Fn} {cf : CFI} {X : Cx} {c : Expr} {as bs : List Stmt} {pos : Pos} {e : E} {a b : Ss} (hc : PT X c (tT X.K M (purely T cf) e)) (ha : PSs X as (tS X.K M IO fr (Mini.execs T cf a))) (hb : PSs X bs (tS X.K M IO fr (Mini.execs T cf b))) :
    PS X (.If c as bs pos) (tS X.K M IO fr (Mini.exec T cf (.ife e a b))) := (ps_if hc ha hb).imp fun D σ H ⟨g, ρ, r, so, io, he, q⟩ => by
  simp only [Mini.exec, Option.bind_eq_some_iff] at he
  obtain ⟨x, hx, k, hk, he⟩ := he
  refine ⟨g, ρ, k, so, by rw [hx]; exact hk, fun H1 s1 => ?_⟩
  have fin : ∀ ex : Env → Option (Env × Out), ex ρ = some r → tS X.K M IO fr ex D σ H1 := fun ex hex => by
    refine ⟨g, ρ, r, so.same s1, io, hex, ?_⟩
    rcases r with ⟨ρ2, o2⟩
    cases o2 with
    | nx => exact fun g2 σ2 H2 x2 s2 => q g2 σ2 H2 ((Ext.same s1).trans x2) s2
    | ret w => exact fun g2 σ2 v H2 x2 s2 r2 => q g2 σ2 v H2 ((Ext.same s1).trans x2) s2 r2
  cases k with
  | true => exact fin _ he
  | false => exact fin _ he
theorem stuckW {X : Cx} {st : Stmt} {ex : Env → Option (Env × Out)} (h : ∀ ρ, ex ρ = none) : PS X st (tS X.K M IO fr ex) := ps_never.imp fun D σ H ⟨g, ρ, r, so, io, he, q⟩ => by
  rw [h] at he
  cases he
theorem retW {T : List Fn} {cf : CFI} {X : Cx} {x : Expr} {pos : Pos} {e : E} {n : Nat} (he : PE X x (tE X.K M (purely T cf) e n)) (h2 : 2 ≤ n) (h3 : fr = true → 3 ≤ n) : PS X (.Return (some x) pos) (tS X.K M IO fr (Mini.exec T cf (.ret e))) :=
  (ps_ret he).imp fun D σ H ⟨g, ρ, r, so, io, he, q⟩ => by
    simp only [Mini.exec, Option.map_eq_some_iff] at he
    obtain ⟨w, hw, rfl⟩ := he
    exact ⟨g, ρ, w, so, hw, fun v H1 s1 r1 => q g σ v H1 (.same s1) (so.same s1) (so.res r1 h2 h3)⟩
theorem retNW {T : List Fn} {cf : CFI} {X : Cx} {pos : Pos} : PS X (.Return none pos) (tS X.K M IO fr (Mini.exec T cf .retN)) :=
  ps_retN.imp fun D σ H ⟨g, ρ, r, so, io, he, q⟩ => by
    simp only [Mini.exec, Option.some.injEq] at he
    subst he
    exact q g σ .non H (.refl _ _ _) so ⟨.mkn, fun _ => trivial⟩
def tSlot (i : Nat) : TE := fun σ H Q => ∃ v, σ[i]? = some (some v) ∧ Q v H
theorem pe_tslot {X : Cx} {i : Nat} {x : Str} {pos : Pos} (hN : X.N[i]? = some x) (hv : Vis X.env.scope x) (hd : (x == ("__debug__" : Str)) = false) (hcd : (x == ("__classdict__" : Str)) = false) : PE X (.Name x pos) (tSlot i) := (pe_var (i := i) hN hv hd hcd).imp fun σ H Q h => h
theorem retMW {T : List Fn} {cf : CFI} {X : Cx} {x : Expr} {pos : Pos} (he : PE X x (tSlot i)) (hi : i ∈ M) (hio : i ∉ IO) : PS X (.Return (some x) pos) (tS X.K M IO fr (Mini.exec T cf (.retM i))) :=
  (ps_ret he).imp fun D σ H ⟨g, ρ, r, so, io, he, q⟩ => by
    simp only [Mini.exec, Option.map_eq_some_iff] at he
    obtain ⟨w, hw, rfl⟩ := he
    obtain ⟨v, hv, _⟩ := so.sl i w hw
    exact ⟨v, hv, q g σ v H (.refl _ _ _) so (so.resM io hi hio hw hv)⟩
/-- x = e -/
theorem asgW {T : List Fn} {cf : CFI} {X : Cx} {st : Stmt} {e : E} {n : Nat} (h : PS X st (tAsg (tE X.K M (purely T cf) e n) (gName i))) (hl : (i ∉ M ∧ 2 ≤ n) ∨ (i ∈ M ∧ i ∉ IO ∧ n = 3)) : PS X st (tS X.K M IO fr (Mini.exec T cf (.asg i e))) :=
  h.imp fun D σ H ⟨g, ρ, r, so, io, he, q⟩ => by
    simp only [Mini.exec, Option.map_eq_some_iff] at he
    obtain ⟨w, hw, rfl⟩ := he
    refine ⟨g, ρ, w, so, hw, fun v H1 s1 r1 => ?_⟩
    rcases hl with ⟨h1, h2⟩ | ⟨h1, h2, rfl⟩
    · exact q g _ H1 (.same s1) ((so.same s1).set h1 (r1.rep h2))
    · obtain ⟨g', x', s'⟩ := so.take (IO := IO) s1 h1 h2 r1
      exact q g' _ H1 x' s'
theorem movW {T : List Fn} {cf : CFI} {X : Cx} {st : Stmt} (h : PS X st (tAsg (tSlot j) (gName i))) (hj : j ∈ M) (hjio : j ∉ IO) (hi : i ∉ M) : PS X st (tS X.K M IO fr (Mini.exec T cf (.mov i j))) :=
  h.imp fun D σ H ⟨g, ρ, r, so, io, he, q⟩ => by
    simp only [Mini.exec, Option.map_eq_some_iff] at he
    obtain ⟨w, hw, rfl⟩ := he
    obtain ⟨v, hv, _⟩ := so.sl j w hw
    obtain ⟨g', x', s'⟩ := so.mov io hj hjio hi hw hv
    exact ⟨v, hv, q g' _ H x' s'⟩
theorem unpW {T : List Fn} {cf : CFI} {X : Cx} {st : Stmt} {e : E} {n : Nat} {is : List Nat} (h : PS X st (tAsg (tE X.K M (purely T cf) e n) (gW X.K M (.many is)))) (h2 : 2 ≤ n) : PS X st (tS X.K M IO fr (Mini.exec T cf (.unp is e))) :=
  h.imp fun D σ H ⟨g, ρ, r, so, io, he, q⟩ => by
    simp only [Mini.exec, Option.bind_eq_some_iff, Option.map_eq_some_iff] at he
    obtain ⟨w, hw, ρ', ha, rfl⟩ := he
    refine ⟨g, ρ, w, so, hw, fun v H1 s1 r1 => ⟨g, ρ, w, ρ', so.same s1, r1.rep h2, ha, fun σ' s' _ => q g _ H1 (.same s1) s'⟩⟩
/-- xs.append(e) -/
theorem st_app {T : List Fn} {cf : CFI} {X : Cx} {o x : Expr} {apos cpos pos : Pos} {e : E} {n : Nat} (ho : PE X o (tSlot i)) (he : PE X x (tE X.K M (purely T cf) e n)) (hs : notStar x = true) (hb : attributeBase o "append" X.env (eval o X.env) = eval o X.env) (hl : (apos.endLine == cpos.line) = true) (hi : i ∈ M) (h2 : 2 ≤ n) :
    PS X (.Expr (.Call (.Attribute o "append" apos) [x] [] cpos) pos) (tS X.K M IO fr (Mini.exec T cf (.app i e))) := by
  have tr : starEach [x] X.env = (false, eval x X.env) :: starEach [] X.env := star_of hs
  refine (ps_expr (pe_bm PySem.F.plainAttrs_list PySem.F.slot_list_append PySem.F.type_list_append mt_append ho (pa_cons he pa_nil tr) hb (by rw [tr]; rfl) hl tr rfl)).imp fun D σ H ⟨g, ρ, r, so, io, he, q⟩ => ?_
  simp only [Mini.exec, Option.bind_eq_some_iff, Option.map_eq_some_iff] at he
  obtain ⟨xw, hx, y, hy, z, hz, rfl⟩ := he
  cases xw <;> simp only [appW, reduceCtorEq] at hz
  rename_i ws
  split at hz <;> cases hz
  rename_i hlen
  obtain ⟨a, o, h1, haO, hown, ha, vs, rfl, rr⟩ := so.mine hi hx rfl
  refine ⟨_, h1, .inl ⟨rfl, vs, .of ha⟩, g, ρ, y, so, hy, fun u H1 s1 r1 => ?_⟩
  have rr1 := rr.same s1 fun _ _ z _ => z
  refine ⟨a, vs, u, rfl, rfl, s1 _ _ ha, by rw [rr.len, ← big_line]; exact hlen, ?_⟩
  obtain ⟨s', x'⟩ := (so.same s1).mut (IO := IO) (w := .lst (ws ++ [y])) hi hown haO h1 (s1 _ _ ha) (.inl ⟨_, rfl⟩) ⟨_, rfl, rr1.append (.cons (r1.rep h2) .nil)⟩
  exact q g σ _ ((Ext.same s1).trans x') s'
end
end Mini

end

section
set_option maxRecDepth 100000
set_option maxHeartbeats 4000000
/-! SoundP: loops, stores in lists and dicts. -/
namespace Mini
open PySem PySem.Spec PyProof.Rows L2
section
variable {K : PySem.W.Frag} {M IO : List Nat} {fr : Bool} {g g' gi : G} {ρ ρi : Env} {σ σ2 : L2.St} {H H1 H2 H' : Hp} {i j : Nat} {w : W} {v : V} {a : Addr}
def Un (H_0 : Hp) (P : Hp → Prop) (H' : Hp) : Prop := P H' ∨ ∃ d od u, H' d = some (.frz od u) ∧ (∀ o' u', H_0 d ≠ some (.frz o' u')) ∧ P (upd H' d u)
def tUnS (H_0 : Hp) (t : TS) : TS := fun D σ H => t { D with nx := fun σ' H' => Un H_0 (D.nx σ') H', rt := fun v H' => Un H_0 (D.rt v) H' } σ H
theorem ps_unl {X : Cx} {st : Stmt} {t : TS} (h : PS X st t) : PS X st (tUnS X.H_0 t) := by
  refine ⟨fun pins s σ H D I w => thn (h.run pins s σ H _ I w) fun f s1 q => ?_⟩
  cases f with
  | next =>
    obtain ⟨σ', H', I1, q⟩ := q
    rcases q with q | ⟨d, od, u, e, n, q⟩
    · exact ⟨σ', H', I1, q⟩
    · exact ⟨σ', _, I1.unlock e n, q⟩
  | brk => exact q
  | cont => exact q
  | ret u =>
    obtain ⟨x, σ', H', I1, r, q⟩ := q
    rcases q with q | ⟨d, od, u, e, n, q⟩
    · exact ⟨x, σ', H', I1, r, q⟩
    · exact ⟨x, σ', _, I1.unlock e n, r, q⟩
theorem unl_at {H_0 : Hp} (s : StOk K M g ρ σ H1) (lk : Lk H_0 g H1 H' g') (x : Ext IO g' H' gi H2) (s2 : StOk K M gi ρi σ2 H2) (P : Hp → Prop)
    (q : ∀ g2 H3, Ext IO g H1 g2 H3 → StOk K M g2 ρi σ2 H3 → (∀ w v, Res K g'.S g'.H0 fr w v H2 → Res K g.S g.H0 fr w v H3) → P H3) : Un H_0 P H2 := by
  rcases lk with ⟨rfl, rfl⟩ | ⟨d, od, kvs, h1, h2, rfl, rfl, nf⟩
  · exact .inl (q gi H2 x s2 fun _ _ r => r)
  · have hd : H2 d = some (.frz od (.dT kvs)) := x.kp _ _ upd_same (.inr ⟨(fun _ z => nomatch z), (fun _ z => nomatch z)⟩)
    have dO : d ∉ gi.O := fun z => by
      rcases x.O d z with q | q
      · exact h1 q
      · rw [upd_same] at q; cases q
    refine .inr ⟨d, od, .dT kvs, hd, nf, q { gi with L := g.L } _ ⟨x.S, x.H0, x.io, rfl, fun b o e h => ?_, fun b z => ?_, x.own⟩ (s2.kr rfl rfl rfl rfl rfl (kr_unlock hd) (fun b o e n => ?_) (fun b hb => upd_ne fun z => dO (z ▸ hb)) fun b u e => ?_) fun w v r => ?_⟩
    · by_cases z : b = d
      · subst z
        rw [h2] at e
        cases e
        exact upd_same
      · rw [upd_ne z]
        exact x.kp b o (by rw [upd_ne z]; exact e) h
    · rcases x.O b z with q | q
      · exact .inl q
      · refine .inr ?_
        by_cases zd : b = d
        · subst zd; rw [upd_same] at q; cases q
        · rw [upd_ne zd] at q; exact q
    · by_cases z : b = d
      · subst z
        rcases s2.keep b o e n with q | ⟨_, od', q⟩
        · rw [hd] at q
          cases q
          rw [x.H0] at e
          rw [x.io] at n
          rcases s.keep b _ e n with q | ⟨_, _, q⟩ <;> rw [h2] at q <;> cases q
        · rw [hd] at q
          cases q
          exact .inl upd_same
      · rw [upd_ne z]
        rcases s2.keep b o e n with q | ⟨l, q⟩
        · exact .inl q
        · refine .inr ⟨?_, q⟩
          rw [x.L] at l
          rcases List.mem_cons.mp l with l | l
          · exact absurd l z
          · exact l
    · by_cases z : b = d
      · subst z; exact ⟨_, upd_same⟩
      · exact ⟨u, by rw [upd_ne z]; exact e⟩
    · refine ⟨r.1.kr (kr_unlock hd) fun _ _ z _ => z, fun hf => ?_⟩
      have r2 := r.2 hf
      cases w with
      | lst ws =>
        obtain ⟨a, vs, rfl, k1, k2, k3⟩ := r2
        exact ⟨a, vs, rfl, k1, by rw [upd_ne (ne_of k2 hd (by intro z; cases z))]; exact k2, k3.kr (kr_unlock hd) fun _ _ z _ => z⟩
      | dct kvs =>
        obtain ⟨a, rfl, k1, k2⟩ := r2
        exact ⟨a, rfl, k1, by rw [upd_ne (ne_of k2 hd (by intro z; cases z))]; exact k2⟩
      | _ => trivial
theorem forW {T : List Fn} {cf : CFI} {X : Cx} {tg' iter : Expr} {body : List Stmt} {pos : Pos} {tg : Tg} {it : It} {b : Ss} {n : Nat} (hp : PassesOwn (model X.prog X.w) X.A X.env X.xe) (hc : X.calm = true) (hi : PI X tg' iter (tI X.K M (purely T cf) X.H_0 it n)) (h2 : 2 ≤ n)
    (hg : PG X tg' (gW X.K M tg)) (hb : PSs X body (tS X.K M IO fr (Mini.execs T cf b))) (hs : ∀ x, foldedSetIterable iter X.env x = pure x) : PS X (.For tg' iter body [] pos) (tS X.K M IO fr (Mini.exec T cf (.forr tg it b))) :=
  (ps_unl (ps_for hp hc hi hg hb hs)).imp fun D σ H ⟨g, ρ, r, so, io, he, q⟩ => by
    simp only [Mini.exec, Option.bind_eq_some_iff] at he
    obtain ⟨ws, hws, he⟩ := he
    refine ⟨g, ρ, ws, so, hws, fun J H1 H' g' s1 lk wk => ?_⟩
    have so1 := so.same s1
    have so' := lk.ok so1
    have hO : g'.O = g.O := by rcases lk with ⟨_, rfl⟩ | ⟨d, od, kvs, _, _, _, rfl, _⟩ <;> rfl
    have hio : g'.io = g.io := by rcases lk with ⟨_, rfl⟩ | ⟨d, od, kvs, _, _, _, rfl, _⟩ <;> rfl
    have hwn : g'.own = g.own := by rcases lk with ⟨_, rfl⟩ | ⟨d, od, kvs, _, _, _, rfl, _⟩ <;> rfl
    have io' : IoOk IO g' := by unfold IoOk; rw [hio, hwn]; exact io
    obtain ⟨C, c0, wkk⟩ := wk (fun b => b ∈ g'.O ∨ H' b = none) fun b u e z => by
      have z := z.resolve_right (by omega)
      rw [hO]
      rintro (q | q)
      · exact z.2 q
      · rw [e] at q; cases q
    refine ⟨fun i m σ2 H2 => ∃ gi ρi, m = ws.length - i ∧ i ≤ ws.length ∧ StOk X.K M gi ρi σ2 H2 ∧ Ext IO g' H' gi H2 ∧ C H2 ∧ forGo _ (ws.drop i) ρi = some r, ⟨_, g', ρ, rfl, Nat.zero_le _, so', .refl _ _ _, c0, he⟩, ?_⟩
    rintro i m σ2 H2 ⟨gi, ρi, rfl, hle, si, xi, ci, hgo⟩
    by_cases hil : i < ws.length
    · refine .inr ⟨wkk.go i H2 ci hil, fun σ3 H3 => ∃ gi ρi, StOk X.K M gi ρi σ3 H3 ∧ Ext IO g' H' gi H3 ∧ C H3 ∧ forGo _ (ws.drop (i + 1)) ρi = some r, fun σ3 H3 ⟨gi, ρi, z⟩ => ⟨_, (by omega : ws.length - (i + 1) < ws.length - i), gi, ρi, rfl, hil, z⟩, ?_⟩
      intro x H3 y
      obtain ⟨rfl, w, ew, rw⟩ := wkk.yld i H2 x H3 ci hil y
      rw [drop_at ew] at hgo
      simp only [forGo, Option.bind_eq_some_iff] at hgo
      obtain ⟨⟨ρ3, o⟩, ⟨ρ2, ha, hex⟩, hgo⟩ := hgo
      have nO : ∀ b, ¬ (b ∈ g'.O ∨ H' b = none) → b ∉ gi.O := fun b z q => z (xi.O b q)
      refine ⟨gi, ρi, w, ρ2, si, rw.weak fun b u z _ => ⟨by rw [xi.S, xi.H0]; exact (by rw [lk.cl]; exact z.1 : g'.cl b).1, nO b z.2⟩, ha, fun σ3 s3 _ => ⟨gi, ρ2, _, s3, xi.io_ok io', hex, ?_⟩⟩
      cases o with
      | nx =>
        intro g4 σ4 H4 x4 s4
        exact ⟨g4, ρ3, s4, xi.trans x4, wkk.stable _ _ ci fun b o e h => x4.kp b o e (h.imp (nO b) id), hgo⟩
      | ret w =>
        cases hgo
        intro g4 σ4 v H4 x4 s4 r4
        refine unl_at (IO := IO) (fr := fr) so1 lk (xi.trans x4) s4 _ fun g5 H5 x5 s5 res => q g5 σ4 v H5 ((Ext.same s1).trans x5) s5 (res _ _ ?_)
        rw [xi.S, xi.H0] at r4
        exact r4
    · have : i = ws.length := by omega
      subst this
      rw [List.drop_length] at hgo
      cases hgo
      exact .inl ⟨wkk.stop _ H2 ci (Nat.le_refl _), unl_at (IO := IO) (fr := fr) so1 lk xi si _ fun g5 H5 x5 s5 _ => q g5 σ2 H5 ((Ext.same s1).trans x5) s5⟩
theorem whlW {T : List Fn} {cf : CFI} {X : Cx} {c : Expr} {body : List Stmt} {pos : Pos} {e : E} {b : Ss} (hp : PassesOwn (model X.prog X.w) X.A X.env X.xe) (hc : PT X c (tT X.K M (purely T cf) e)) (hb : PSs X body (tS X.K M IO fr (Mini.execs T cf b))) :
    PS X (.While c body [] pos) (tS X.K M IO fr (Mini.exec T cf (.whl e b))) := (ps_while hp hc hb).imp fun D σ H ⟨g, ρ, r, so, io, he, q⟩ => by
  simp only [Mini.exec] at he
  generalize whileFuel = n at he
  refine ⟨fun m σ2 H2 => ∃ gi ρi, StOk X.K M gi ρi σ2 H2 ∧ Ext IO g H gi H2 ∧ whlGo _ _ m ρi = some r, ⟨n, g, ρ, so, .refl _ _ _, he⟩, ?_⟩
  rintro m σ2 H2 ⟨gi, ρi, si, xi, hgo⟩
  cases m with
  | zero => cases hgo
  | succ m =>
    simp only [whlGo, Option.bind_eq_some_iff] at hgo
    obtain ⟨k, hk, hgo⟩ := hgo
    refine ⟨gi, ρi, k, si, Option.bind_eq_some_iff.mpr hk, fun H3 s3 => ?_⟩
    cases k with
    | false =>
      cases hgo
      exact q gi σ2 H3 (xi.trans (.same s3)) (si.same s3)
    | true =>
      simp only [if_true, Option.bind_eq_some_iff] at hgo
      obtain ⟨⟨ρ3, o⟩, hex, hgo⟩ := hgo
      rw [if_pos rfl]
      refine ⟨fun σ4 H4 => ∃ gi ρi, StOk X.K M gi ρi σ4 H4 ∧ Ext IO g H gi H4 ∧ whlGo _ _ m ρi = some r, fun σ4 H4 z => ⟨m, Nat.lt_succ_self m, z⟩, gi, ρi, _, si.same s3, xi.io_ok io, hex, ?_⟩
      cases o with
      | nx => exact fun g4 σ4 H4 x4 s4 => ⟨g4, ρ3, s4, (xi.trans (.same s3)).trans x4, hgo⟩
      | ret w =>
        cases hgo
        exact fun g4 σ4 v H4 x4 s4 r4 => q g4 σ4 v H4 ((xi.trans (.same s3)).trans x4) s4 (by rw [xi.S, xi.H0] at r4; exact r4)
end
end Mini

end

section
set_option maxRecDepth 100000
set_option maxHeartbeats 4000000
/-! SoundQ: stores, x op= e. -/
namespace Mini
open PySem PySem.Spec PyProof.Rows L2
theorem dPut_dKV (kvs : List (List Int × Int)) (k : List Int) (v : Int) : putK (dKV kvs) (k.map Sum.inl) (V.int v) = dKV (dPut kvs k v) := by
  have hany : ((dKV kvs).any fun kv => decide (kv.1 = k.map Sum.inl)) = kvs.any fun kv => decide (kv.1 = k) := by
    unfold dKV
    rw [List.any_map]
    congr 1
    funext kv
    show decide (kv.1.map Sum.inl = k.map Sum.inl) = _
    by_cases h : kv.1 = k
    · exact (decide_eq_true (by rw [h])).trans (decide_eq_true h).symm
    · exact (decide_eq_false fun z => h (inl_inj z)).trans (decide_eq_false h).symm
  unfold putK dPut
  rw [hany]
  split
  · unfold dKV
    rw [List.map_map, List.map_map]
    refine List.map_congr_left fun kv _ => ?_
    show (if kv.1.map Sum.inl = k.map Sum.inl then (kv.1.map Sum.inl, V.int v) else (kv.1.map Sum.inl, V.int kv.2)) = ((if kv.1 = k then (kv.1, v) else kv).1.map Sum.inl, V.int (if kv.1 = k then (kv.1, v) else kv).2)
    by_cases h : kv.1 = k
    · rw [if_pos (by rw [h]), if_pos h]
    · rw [if_neg fun z => h (inl_inj z), if_neg h]
  · unfold dKV
    rw [List.map_append]
    rfl
section
variable {X : Cx} {K : PySem.W.Frag} {M IO : List Nat} {fr : Bool} {i j : Nat}
def rSetW : TSet := fun o i v H Q => rSetL o i v H Q ∨ ∃ a H', o = .ref a ∧ DPut H a i v H' ∧ Q H'
theorem set_W (hu : X.A.units + 1 < cLine) : PSet X rSetW := by
  intro pins s σ H o i v ov iv u Q I ro ri rv h
  rcases h with h | ⟨a, H', rfl, g, q⟩
  · exact set_list pins s σ H o i v ov iv u Q I ro ri rv h
  · obtain rfl : ov = Value.ref a := ro
    exact d_setItem hu I g ri rv fun s' I' => ⟨H', I', q⟩
def notTup : Expr → Bool
  | .Tuple _ _ _ => false
  | _ => true
theorem sole_sub {o k e : Expr} {p : Pos} {l : Nat} {env : PySem.Env} : swapsWithSole [.Subscript o k p] e l env = pure false := by
  cases e <;> rfl
theorem swapped_sub {o k e : Expr} {p : Pos} {env : PySem.Env} : swappedStores [.Subscript o k p] e env = pure none := by
  cases e <;> rfl
theorem ixN_eq (n : Nat) (i : Int) : Mini.ixN n i = L2.ixN n i := rfl
/-- xs[k] = e -/
theorem st_set {T : List Fn} {cf : CFI} {o x y : Expr} {p pos : Pos} {k e : E} {n nk : Nat} (hu : X.A.units + 1 < cLine) (ho : PE X o (tSlot i)) (hk : PE X x (tE X.K M (purely T cf) k nk)) (he : PE X y (tE X.K M (purely T cf) e n)) (hi : i ∈ M) (h2 : 2 ≤ n)
    (ha : ∀ v, PySem.assign (Expr.Subscript o x p) X.env v = (do
      let ov ← holding [v] (eval o X.env)
      let iv ← holding [v, ov] (eval x X.env)
      standAt p
      holding [v, ov, iv] (setItem ov iv v)
      release [v, ov, iv] [])) :
    PS X (.Assign [.Subscript o x p] y pos) (tS X.K M IO fr (Mini.exec T cf (.set i k e))) := by
  refine (ps_asg he (pg_sub ho hk (set_W hu) ha) sole_sub swapped_sub).imp fun D σ H ⟨g, ρ, r, so, io, he, q⟩ => ?_
  simp only [Mini.exec, Option.bind_eq_some_iff, Option.map_eq_some_iff] at he
  obtain ⟨yw, hy, xw, hx, kw, hk, z, hz, rfl⟩ := he
  refine ⟨g, ρ, yw, so, hy, fun v H1 s1 r1 => ?_⟩
  have so1 := so.same s1
  cases xw <;> simp only [setAt, reduceCtorEq, Option.bind_eq_some_iff, Option.map_eq_some_iff] at hz
  · rename_i ws
    obtain ⟨iv, hi1, jj, hj, rfl⟩ := hz
    cases W.int?_some hi1
    obtain ⟨a, ob, h1, haO, hown, ha, vs, rfl, rr⟩ := so1.mine hi hx rfl
    refine ⟨_, h1, g, ρ, _, so1, hk, fun u H2 s2 r2 => .inl ⟨a, vs, iv, jj, rfl, r2.i, s2 _ _ ha, by rw [rr.len]; exact hj, ?_⟩⟩
    have rr2 := rr.same s2 fun _ _ z _ => z
    have r12 := (r1.same s2).rep h2
    obtain ⟨s', x'⟩ := (so1.same s2).mut (IO := IO) (w := .lst (ws.set jj yw)) hi hown haO h1 (s2 _ _ ha) (.inl ⟨_, rfl⟩) ⟨_, rfl, rr2.set jj r12⟩
    exact q g σ _ ((Ext.same (s1.trans s2)).trans x') s'
  · rename_i kvs
    obtain ⟨ks, hks, iv, hiv, hlen⟩ := hz
    cases W.int?_some hiv
    split at hlen <;> cases hlen
    rename_i hlt
    obtain ⟨a, ob, h1, haO, hown, ha, c⟩ := so1.mine hi hx rfl
    cases c
    refine ⟨_, h1, g, ρ, _, so1, hk, fun u H2 s2 r2 => ?_⟩
    obtain ⟨bb, rfl, hb⟩ := key_at r2.any hks
    obtain ⟨s', x'⟩ := (so1.same s2).mut (IO := IO) (w := .dct (dPut kvs ks iv)) hi hown haO h1 (s2 _ _ ha) (.inr ⟨_, rfl⟩) rfl
    have dp : DPut H2 a (.ref bb) v (upd H2 a (.dT (putK (dKV kvs) (ks.map Sum.inl) v))) := .t (s2 _ _ ha) (by rw [kV_ints]; exact hb) (by unfold dKV; rw [List.length_map, ← big_line]; exact hlt)
    rw [r1.i, dPut_dKV] at dp
    rw [r1.i]
    exact .inr ⟨a, _, rfl, dp, q g σ _ ((Ext.same (s1.trans s2)).trans x') s'⟩
/-- x op= e -/
theorem pipK (o : BO) (ho : o ≠ .pow) : ∃ t : TIp, PIp X o.op t ∧ ∀ (a b c : Int) (H : Hp) (Q : VK), binI o a b = some c → Q (.int c) H → t (.int a) (.int b) H Q := by
  cases o
  · exact ⟨_, iop_add, fun a b c H Q e q => ⟨a, b, rfl, rfl, by cases e; exact q⟩⟩
  · exact ⟨_, iop_sub, fun a b c H Q e q => ⟨a, b, rfl, rfl, by cases e; exact q⟩⟩
  · exact ⟨_, iop_mul, fun a b c H Q e q => ⟨a, b, rfl, rfl, (binI_mul e).1, by have z := (binI_mul e).2; subst z; exact q⟩⟩
  · exact ⟨_, iop_fdiv, fun a b c H Q e q => ⟨a, b, rfl, rfl, (binI_fdiv e).1, by have z := (binI_fdiv e).2; subst z; exact q⟩⟩
  · exact ⟨_, iop_mod, fun a b c H Q e q => ⟨a, b, rfl, rfl, (binI_mod e).1, by have z := (binI_mod e).2; subst z; exact q⟩⟩
  · exact absurd rfl ho
  · exact ⟨_, iop_shl, fun a b c H Q e q => ⟨a, b, rfl, rfl, (binI_shl e).1, by have z := (binI_shl e).2; subst z; exact q⟩⟩
  · exact ⟨_, iop_shr, fun a b c H Q e q => ⟨a, b, rfl, rfl, (binI_shr e).1, by have z := (binI_shr e).2; subst z; exact q⟩⟩
  · exact ⟨_, iop_and, fun a b c H Q e q => ⟨a, b, rfl, rfl, by have z := binI_band e; subst z; exact q⟩⟩
theorem st_aug {T : List Fn} {cf : CFI} {x : Expr} {y : Str} {p pos : Pos} {e : E} {n : Nat} {o : BO} (ho : o ≠ .pow) (hN : X.N.Nodup) (t : TgOk X i y) (he : PE X x (tE X.K M (purely T cf) e n)) :
    PS X (.AugAssign (.Name y p) o.op x pos) (tS X.K M IO fr (Mini.exec T cf (.aug i o e))) := by
  obtain ⟨tt, h1, h2⟩ := pipK (X := X) o ho
  refine (ps_aug hN t.n t.l he h1 t.f).imp fun D σ H ⟨g, ρ, r, so, io, he, q⟩ => ?_
  simp only [Mini.exec, Option.bind_eq_some_iff, Option.map_eq_some_iff] at he
  obtain ⟨xw, hx, yw, hy, a, ha, b, hb, z, hz, rfl⟩ := he
  cases W.int?_some ha
  cases W.int?_some hb
  obtain ⟨v, hv, rv⟩ := so.sl i _ hx
  refine ⟨v, hv, g, ρ, _, so, hy, fun u H1 s1 r1 => ?_⟩
  rw [rv.i, r1.i]
  exact h2 a b z H1 _ hz (q g _ H1 (.same s1) ((so.same s1).setN (.mki z) rfl))
end
end Mini

end

section
set_option maxRecDepth 100000
set_option maxHeartbeats 4000000
/-! SoundR: which statement of the text is which S, by a check. -/
namespace Mini
open PySem PySem.Spec PyProof.Rows L2

def fxT : FX := fun _ => true
def lineOf : Expr → Nat := fun e => e.pos.line
/-- y = [..]: the store is swapped in front -/
def swB (sc : Scope) (y : Str) (py : Pos) (x : Expr) : Bool := match x with
  | .ListComp _ _ scope p => decide (sc.names.lookup y = some .local) && (py.line == p.line) && !(scope.names.any fun (n, k) => n == y && (k == .local || k == .cell))
  | _ => false
def isDC : Expr → Bool
  | .SetComp _ _ _ _ => true
  | .DictComp _ _ _ _ _ => true
  | _ => false
def lvOk (C : Cc) (IO : List Nat) (i : Nat) (n : Nat) : Bool := if i ∈ C.M then decide (i ∉ IO) && decide (n = 3) else decide (2 ≤ n)
def ckL (C : Cc) (sc : Scope) (i : Nat) (y : Str) : Bool := decide (C.N[i]? = some y) && locB sc y
def ckV (C : Cc) (sc : Scope) (i : Nat) (x : Expr) : Bool := match x with
  | .Name y _ => decide (C.N[i]? = some y) && visB sc y && !(y == ("__debug__" : Str)) && !(y == ("__classdict__" : Str))
  | _ => false
mutual
def ckS (C : Cc) (IO : List Nat) (fr : Bool) (sc : Scope) : S → Stmt → Bool
  | .asg i e, st => match st with
    | .Assign [.Name y py] x p => ckL C sc i y && lvOk C IO i (lv C e) && !isDC x && ckE C e sc fxT x
    | _ => false
  | .mov i j, st => match st with
    | .Assign [.Name y _] x _ => ckL C sc i y && ckV C sc j x && decide (j ∈ C.M) && decide (j ∉ IO) && decide (i ∉ C.M)
    | _ => false
  | .unp is e, st => match st with
    | .Assign [.Tuple ts _ _] x _ => ckNs C sc fxT is ts && notTup x && decide (2 ≤ lv C e) && ckE C e sc fxT x
    | _ => false
  | .aug i o e, st => match st with
    | .AugAssign (.Name y _) op x _ => ckL C sc i y && decide (op = o.op) && decide (o ≠ .pow) && ckE C e sc fxT x
    | _ => false
  | .app i e, st => match st with
    | .Expr (.Call (.Attribute o m ap) [x] [] cp) _ => decide (m = ("append" : Str)) && ckV C sc i o && (ap.endLine == cp.line) && notStar x && decide (i ∈ C.M) && decide (2 ≤ lv C e) && ckE C e sc fxT x
    | _ => false
  | .set i k e, st => match st with
    | .Assign [.Subscript o kx _] x _ => ckV C sc i o && !isSlice kx && decide (i ∈ C.M) && decide (2 ≤ lv C e) && ckE C k sc fxT kx && ckE C e sc fxT x
    | _ => false
  | .ret e, st => match st with
    | .Return (some x) _ => decide (2 ≤ lv C e) && (!fr || decide (lv C e = 3)) && ckE C e sc fxT x
    | _ => false
  | .retM i, st => match st with
    | .Return (some x) _ => ckV C sc i x && decide (i ∈ C.M) && decide (i ∉ IO)
    | _ => false
  | .retN, st => match st with
    | .Return none _ => true
    | _ => false
  | .raise, _ => true
  | .ife e a b, st => match st with
    | .If c as bs _ => ckE C e sc fxT c && okT e c && ckSs C IO fr sc a as && ckSs C IO fr sc b bs
    | _ => false
  | .forr tg it b, st => match st with
    | .For t i body [] _ => notSet i && ckG C sc fxT tg t && ckI C it sc fxT i && decide (2 ≤ itL C it) && ckSs C IO fr sc b body
    | _ => false
  | .whl e b, st => match st with
    | .While c body [] _ => ckE C e sc fxT c && okT e c && ckSs C IO fr sc b body
    | _ => false
  | _, _ => false
def ckSs (C : Cc) (IO : List Nat) (fr : Bool) (sc : Scope) : Ss → List Stmt → Bool
  | .nil, sts => sts.isEmpty
  | .cons s ss, sts => match sts with
    | st :: rest => ckS C IO fr sc s st && ckSs C IO fr sc ss rest
    | [] => false
end
structure YOk (C : Cc) (cf : CFI) (X : Cx) (sc : Scope) : Prop where
  x : XOk C cf X sc fxT
  never : X.xe = fun _ _ => False
  kind : sc.kind = .function
section
variable {C : Cc} {cf : CFI} {IO : List Nat} {fr : Bool} {X : Cx} {sc : Scope}
theorem YOk.pass (h : YOk C cf X sc) : PassesOwn (model X.prog X.w) X.A X.env X.xe := by rw [h.never]; exact .never
theorem YOk.tgL (h : YOk C cf X sc) {i : Nat} {y : Str} (g : ckL C sc i y = true) : TgOk X i y := by
  obtain ⟨g1, g2⟩ := ba g
  exact ⟨by rw [h.x.hN]; exact of_decide_eq_true g1, by rw [h.x.sc]; exact locB_ok g2, .inl (h.x.fn _ rfl)⟩
theorem YOk.slot (h : YOk C cf X sc) {i : Nat} {x : Expr} (g : ckV C sc i x = true) : PE X x (tSlot i) ∧ isNm x = true := by
  cases x <;> simp only [ckV, Bool.false_eq_true] at g
  simp only [Bool.and_eq_true, decide_eq_true_eq, Bool.not_eq_true'] at g
  exact ⟨pe_tslot (by rw [h.x.hN]; exact g.1.1.1) (by rw [h.x.sc]; exact visB_ok g.1.1.2) g.1.2 g.2, rfl⟩
theorem sw_no {y : Str} {py : Pos} {x : Expr} {l : Nat} {env : PySem.Env} (hk : env.scope.kind = .function) (hd : isDC x = false) (h : swB env.scope y py x = false) : swapsWith x (some (.Name y py)) l env = pure false := by
  cases x <;> first | rfl | cases hd | skip
  rename_i elt gs scope p
  have hb : env.blockKind = .function := by unfold PySem.Env.blockKind; rw [hk]; rfl
  unfold swapsWith
  simp only [hb]
  refine congrArg pure (Eq.trans ?_ h)
  unfold swB
  have e : (env.kindOf y == some NameKind.local) = decide (env.scope.names.lookup y = some .local) := by
    unfold PySem.Env.kindOf
    by_cases q : env.scope.names.lookup y = some NameKind.local
    · rw [q]; rfl
    · rw [decide_eq_false q]; exact beq_eq_false_iff_ne.mpr q
  rw [e]
  rfl
theorem YOk.asg (h : YOk C cf X sc) {i : Nat} {y : Str} {py p : Pos} {x : Expr} {e : E} (t : TgOk X i y) (hd : isDC x = false) (g : ckE C e sc fxT x = true) : PS X (.Assign [.Name y py] x p) (tAsg (tE X.K C.M (purely C.T cf) e (lv C e)) (gName i)) := by
  by_cases hsw : swB sc y py x = true
  · cases x <;> first | cases hsw | skip
    rename_i elt gs scope pos
    unfold swB at hsw
    simp only [Bool.and_eq_true, decide_eq_true_eq, Bool.not_eq_true'] at hsw
    have hy : X.env.scope.names.lookup y = some .local := by rw [h.x.sc]; exact hsw.1.1
    have hw : ∀ l, swapsWith (.ListComp elt gs scope pos) (some (.Name y py)) l X.env = pure true := fun l => sw_true (by rw [h.x.sc]; exact h.kind) hy hsw.1.2 hsw.2
    cases e with
    | lc e tg it c =>
      unfold ckE at g
      split at g
      · rename_i y0 t0 i0 fs as scope0 p0 heq
        cases heq
        obtain ⟨g, g8⟩ := ba g
        obtain ⟨g, g7⟩ := ba g
        obtain ⟨g, g6⟩ := ba g
        obtain ⟨g, g5⟩ := ba g
        obtain ⟨g, g4⟩ := ba g
        obtain ⟨g, g3⟩ := ba g
        obtain ⟨g1, g2⟩ := ba g
        cases of_decide_eq_true g1
        have hX := h.x
        exact (ps_unl (ps_setLc hX.calm hX.nd' t.n hy (hw _) (ckI_ok it hX g4) (blkOk_by (by rw [hX.hN, hX.sc]; exact g3)) (fun s H Ca cl fp => (hX.blk _ s H Ca cl fp).pg g5) (fun s H Ca cl fp => ckC_ok c (hX.blk _ s H Ca cl fp) g6) (fun s H Ca cl fp => (ckE_ok e (hX.blk _ s H Ca cl fp) g8).pe) (notSet_ok g2 _))).imp
          fun D σ H w => lc_imp (ownOf_snd C tg.slots) (of_decide_eq_true g7) σ H _ w
      · cases g
    | lc2 e tg it tg2 it2 c =>
      unfold ckE at g
      split at g
      · rename_i y0 t0 i0 as t20 i20 fs as2 scope0 p0 heq
        cases heq
        obtain ⟨g, g12⟩ := ba g
        obtain ⟨g, g11⟩ := ba g
        obtain ⟨g, g10⟩ := ba g
        obtain ⟨g, g9⟩ := ba g
        obtain ⟨g, g8⟩ := ba g
        obtain ⟨g, g7⟩ := ba g
        obtain ⟨g, g6⟩ := ba g
        obtain ⟨g, g5⟩ := ba g
        obtain ⟨g, g4⟩ := ba g
        obtain ⟨g, g3⟩ := ba g
        obtain ⟨g1, g2⟩ := ba g
        cases of_decide_eq_true g1
        cases of_decide_eq_true g2
        have hX := h.x
        have n2 : 2 ≤ itL C it2 := ckI2_lv it2 g8
        have ho := ownOf_snd C (tg.slots ++ tg2.slots)
        exact (ps_unl (ps_setLc2 (vs1 := tg2.slots) hX.calm hX.nd' t.n hy (hw _) (ckI_ok it hX g6) (blkOk_by (by rw [hX.hN, hX.sc]; exact g5)) (by rw [ho]; exact fun i z => List.mem_append_right _ z) (fun s H Ca cl fp => (hX.blk _ s H Ca cl fp).pg g7) (fun _ _ _ _ _ => pts_nil) (fun s H Ca cl fp => (ckI2_ok it2 (hX.blk _ s H Ca cl fp) g8).1)
          (fun s H Ca cl fp => (hX.blk _ s H Ca cl fp).pg g9) (fun s H Ca cl fp => ckC_ok c (hX.blk _ s H Ca cl fp) g10) (fun s H Ca cl fp => (ckE_ok e (hX.blk _ s H Ca cl fp) g12).pe) (notSet_ok g3 _) (notSet_ok g4))).imp
          fun D σ H w => lc2_imp ho (of_decide_eq_true g11) n2 σ H _ w
      · cases g
    | _ => unfold ckE at g; cases g
  · exact ps_set h.x.nd' t.n t.l (ckE_ok e h.x g).pe (sw_no (by rw [h.x.sc]; exact h.kind) hd (by rw [h.x.sc]; simpa using hsw)) t.f
theorem sub_asg {o x : Expr} {p : Pos} {env : PySem.Env} (h : isSlice x = false) (v : Value) : PySem.assign (Expr.Subscript o x p) env v = (do
      let ov ← holding [v] (eval o env)
      let iv ← holding [v, ov] (eval x env)
      standAt p
      holding [v, ov, iv] (setItem ov iv v)
      release [v, ov, iv] []) := by
  cases x <;> first | rfl | cases h
theorem nm_sw {x : Expr} (h : isNm x = true) (t : Option Expr) (l : Nat) (env : PySem.Env) : swapsWith x t l env = pure false := by
  cases x <;> first | rfl | cases h
theorem tup_sole {ts : List Expr} {k : Nat} {p : Pos} {x : Expr} {l : Nat} {env : PySem.Env} : swapsWithSole [.Tuple ts k p] x l env = pure false := by
  cases x <;> rfl
theorem tup_swap {ts : List Expr} {k : Nat} {p : Pos} {x : Expr} {env : PySem.Env} (h : notTup x = true) : swappedStores [.Tuple ts k p] x env = pure none := by
  cases x <;> first | rfl | cases h
mutual
theorem ckS_ok : ∀ (s : S) {st : Stmt}, YOk C cf X sc → ckS C IO fr sc s st = true → PS X st (tS X.K C.M IO fr (Mini.exec C.T cf s))
  | .asg i e, st, h, g => by
    unfold ckS at g
    split at g
    · obtain ⟨g, g4⟩ := ba g
      obtain ⟨g, g3⟩ := ba g
      obtain ⟨g1, g2⟩ := ba g
      refine asgW (h.asg (h.tgL g1) (by simpa using g3) g4) ?_
      unfold lvOk at g2
      split at g2
      · rename_i hm
        obtain ⟨k1, k2⟩ := ba g2
        exact .inr ⟨hm, of_decide_eq_true k1, of_decide_eq_true k2⟩
      · rename_i hm
        exact .inl ⟨hm, of_decide_eq_true g2⟩
    · cases g
  | .mov i j, st, h, g => by
    unfold ckS at g
    split at g
    · obtain ⟨g, g5⟩ := ba g
      obtain ⟨g, g4⟩ := ba g
      obtain ⟨g, g3⟩ := ba g
      obtain ⟨g1, g2⟩ := ba g
      have t := h.tgL g1
      obtain ⟨ps, nm⟩ := h.slot g2
      refine movW (ps_set h.x.nd' t.n t.l ps ?_ t.f) (of_decide_eq_true g3) (of_decide_eq_true g4) (of_decide_eq_true g5)
      rename_i y py x p
      exact nm_sw nm _ _ _
    · cases g
  | .unp is e, st, h, g => by
    unfold ckS at g
    split at g
    · obtain ⟨g, g4⟩ := ba g
      obtain ⟨g, g3⟩ := ba g
      obtain ⟨g1, g2⟩ := ba g
      obtain ⟨h1, h2, h3⟩ := h.x.pgs g1
      exact unpW (ps_asg (ckE_ok e h.x g4).pe (pg_many h.x.calm h1 h2 h3) tup_sole (tup_swap g2) rfl) (of_decide_eq_true g3)
    · cases g
  | .aug i o e, st, h, g => by
    unfold ckS at g
    split at g
    · obtain ⟨g, g4⟩ := ba g
      obtain ⟨g, g3⟩ := ba g
      obtain ⟨g1, g2⟩ := ba g
      cases of_decide_eq_true g2
      exact st_aug (of_decide_eq_true g3) h.x.nd' (h.tgL g1) (ckE_ok e h.x g4).pe
    · cases g
  | .app i e, st, h, g => by
    unfold ckS at g
    split at g
    · obtain ⟨g, g7⟩ := ba g
      obtain ⟨g, g6⟩ := ba g
      obtain ⟨g, g5⟩ := ba g
      obtain ⟨g, g4⟩ := ba g
      obtain ⟨g, g3⟩ := ba g
      obtain ⟨g1, g2⟩ := ba g
      cases of_decide_eq_true g1
      obtain ⟨ps, nm⟩ := h.slot g2
      exact st_app ps (ckE_ok e h.x g7).pe g4 (nm_base nm _ _ _) g3 (of_decide_eq_true g5) (of_decide_eq_true g6)
    · cases g
  | .set i k e, st, h, g => by
    unfold ckS at g
    split at g
    · obtain ⟨g, g6⟩ := ba g
      obtain ⟨g, g5⟩ := ba g
      obtain ⟨g, g4⟩ := ba g
      obtain ⟨g, g3⟩ := ba g
      obtain ⟨g1, g2⟩ := ba g
      obtain ⟨ps, nm⟩ := h.slot g1
      exact st_set (by have := h.x.u; omega) ps (ckE_ok k h.x g5).pe (ckE_ok e h.x g6).pe (of_decide_eq_true g3) (of_decide_eq_true g4) (sub_asg (by simpa using g2))
    · cases g
  | .ret e, st, h, g => by
    unfold ckS at g
    split at g
    · obtain ⟨g, g3⟩ := ba g
      obtain ⟨g1, g2⟩ := ba g
      refine retW (ckE_ok e h.x g3).pe (of_decide_eq_true g1) fun hf => ?_
      rw [hf] at g2
      have : lv C e = 3 := of_decide_eq_true g2
      omega
    · cases g
  | .retM i, st, h, g => by
    unfold ckS at g
    split at g
    · obtain ⟨g, g3⟩ := ba g
      obtain ⟨g1, g2⟩ := ba g
      exact retMW (h.slot g1).1 (of_decide_eq_true g2) (of_decide_eq_true g3)
    · cases g
  | .retN, st, h, g => by
    unfold ckS at g
    split at g
    · exact retNW
    · cases g
  | .raise, st, h, g => stuckW fun _ => by simp only [Mini.exec]
  | .ife e a b, st, h, g => by
    unfold ckS at g
    split at g
    · obtain ⟨g, g4⟩ := ba g
      obtain ⟨g, g3⟩ := ba g
      obtain ⟨g1, g2⟩ := ba g
      exact ifW ((ckE_ok e h.x g1).pt g2) (ckSs_ok a h g3) (ckSs_ok b h g4)
    · cases g
  | .forr tg it b, st, h, g => by
    unfold ckS at g
    split at g
    · obtain ⟨g, g5⟩ := ba g
      obtain ⟨g, g4⟩ := ba g
      obtain ⟨g, g3⟩ := ba g
      obtain ⟨g1, g2⟩ := ba g
      exact forW h.pass h.x.calm (ckI_ok it h.x g3) (of_decide_eq_true g4) (h.x.pg g2) (ckSs_ok b h g5) (notSet_ok g1 _)
    · cases g
  | .whl e b, st, h, g => by
    unfold ckS at g
    split at g
    · obtain ⟨g, g3⟩ := ba g
      obtain ⟨g1, g2⟩ := ba g
      exact whlW h.pass ((ckE_ok e h.x g1).pt g2) (ckSs_ok b h g3)
    · cases g
  | .par2 _ _ _ _, st, h, g => by unfold ckS at g; cases g
  | .par3 _ _ _ _ _ _, st, h, g => by unfold ckS at g; cases g
  | .ext _ _, st, h, g => by unfold ckS at g; cases g
  | .augx _ _ _ _, st, h, g => by unfold ckS at g; cases g
  | .del _ _, st, h, g => by unfold ckS at g; cases g
  | .app2 _ _ _, st, h, g => by unfold ckS at g; cases g
  | .pop _, st, h, g => by unfold ckS at g; cases g
  | .set2 _ _ _ _ _, st, h, g => by unfold ckS at g; cases g
  | .popCat _ _ _, st, h, g => by unfold ckS at g; cases g
  | .popApp _ _ _ _ _, st, h, g => by unfold ckS at g; cases g
  | .cal _ _ _, st, h, g => by unfold ckS at g; cases g
  | .retIf _ _ _ _, st, h, g => by unfold ckS at g; cases g
theorem ckSs_ok : ∀ (ss : Ss) {sts : List Stmt}, YOk C cf X sc → ckSs C IO fr sc ss sts = true → PSs X sts (tS X.K C.M IO fr (Mini.execs C.T cf ss))
  | .nil, sts, h, g => by
    unfold ckSs at g
    cases List.isEmpty_iff.mp g
    exact nilW
  | .cons s ss, sts, h, g => by
    unfold ckSs at g
    split at g
    · obtain ⟨g1, g2⟩ := ba g
      exact seqW (ckS_ok s h g1) (ckSs_ok ss h g2)
    · cases g
end
end
end Mini

end

section
set_option maxRecDepth 100000
set_option maxHeartbeats 4000000
/-! SoundS: every function keeps what its Mini form says. -/
namespace Mini
open PySem PySem.Spec PyProof.Rows L2

theorem OwnC.of_cnt {K : PySem.W.Frag} {S S' : Addr → Prop} {H : Hp} {w : W} {a : Addr} {o : HO} (e : H a = some o) (c : Cnt K S H w o) (hS : ∀ b u, S b → H b = some u → S' b) : OwnC K S' H w a := by
  cases w with
  | lst ws => obtain ⟨vs, rfl, r⟩ := c; exact ⟨vs, e, r.weak hS⟩
  | dct kvs => cases c; exact e
  | _ => cases c
theorem OwnC.cnt {K : PySem.W.Frag} {S : Addr → Prop} {H : Hp} {w : W} {a : Addr} (h : OwnC K S H w a) : ∃ o, H a = some o ∧ Cnt K S H w o := by
  cases w with
  | lst ws => obtain ⟨vs, e, r⟩ := h; exact ⟨_, e, vs, rfl, r⟩
  | dct kvs => exact ⟨_, h, rfl⟩
  | _ => cases h
theorem OwnC.obj {K : PySem.W.Frag} {S : Addr → Prop} {H : Hp} {w : W} {a : Addr} (h : OwnC K S H w a) : w.obj = true := by cases w <;> first | rfl | cases h
theorem outs_len {ρ : Env} : ∀ {is : List Nat} {os : List W}, outs ρ is = some os → os.length = is.length
  | [], os, h => by cases h; rfl
  | i :: is, os, h => by
    simp only [outs, Option.bind_eq_some_iff] at h
    obtain ⟨w, hw, h⟩ := h
    cases w <;> simp only [Option.map_eq_some_iff, reduceCtorEq] at h
    all_goals
      obtain ⟨os', h', rfl⟩ := h
      rw [List.length_cons, List.length_cons, outs_len h']
theorem outs_at {ρ : Env} : ∀ {is : List Nat} {os : List W} {k : Nat} {w : W}, outs ρ is = some os → os[k]? = some w → ∃ i, is[k]? = some i ∧ getv ρ i = some w ∧ w.obj = true
  | [], os, k, w, h, e => by cases h; simp at e
  | i :: is, os, k, w, h, e => by
    simp only [outs, Option.bind_eq_some_iff] at h
    obtain ⟨x, hx, h⟩ := h
    cases x <;> simp only [Option.map_eq_some_iff, reduceCtorEq] at h
    all_goals
      obtain ⟨os', h', rfl⟩ := h
      cases k with
      | zero =>
        simp only [List.getElem?_cons_zero, Option.some.injEq] at e
        subst e
        exact ⟨i, rfl, hx, rfl⟩
      | succ k =>
        rw [List.getElem?_cons_succ] at e ⊢
        exact outs_at h' e
def scB (N ps : List Str) (sc : Scope) : Bool :=
  decide (sc.kind = .function) && !sc.isCoroutine && !sc.isGenerator && decide (N.Nodup) && decide (N.take ps.length = ps) && (ps.all fun x => locB sc x) && (sc.names.all fun y => decide (y.2 ≠ .free))
theorem scB_ok {N ps : List Str} {sc : Scope} (h : scB N ps sc = true) : FnScope N ps sc := by
  obtain ⟨h, h7⟩ := ba h
  obtain ⟨h, h6⟩ := ba h
  obtain ⟨h, h5⟩ := ba h
  obtain ⟨h, h4⟩ := ba h
  obtain ⟨h, h3⟩ := ba h
  obtain ⟨h1, h2⟩ := ba h
  exact ⟨of_decide_eq_true h1, by simpa using h2, by simpa using h3, of_decide_eq_true h4, of_decide_eq_true h5, fun x hx => locB_ok (List.all_eq_true.mp h6 x hx), fun y hy => of_decide_eq_true (List.all_eq_true.mp h7 y hy)⟩
/-- a function of the program against its Mini form -/
def fnB (T : List Fn) (nm : List Str) (gi : List (Str × Int)) (d : Fn) (N : List Str) (st : Stmt) : Bool :=
  scB N (N.take d.np) (defScope st) && decide (N.length = d.n) && decide (d.np ≤ d.n) && decide (d.io.Nodup) && (d.io.all fun i => decide (i < d.np) && decide (i ∈ d.M)) && (d.M.all fun i => decide (d.np ≤ i) || decide (i ∈ d.io)) &&
    ckSs { N := N, M := d.M, T := T, nm := nm, gi := gi } d.io d.fresh (defScope st) d.body (defBody st)
structure FnP (K : PySem.W.Frag) (mg : Str → Option Value) (T : List Fn) (nm : List Str) (gi : List (Str × Int)) (f : Nat) (d : Fn) : Prop where
  h : ∃ x qual st fa fd N, nm[f]? = some x ∧ mg x = some (.ref fa) ∧ Fun K x qual st fa fd ∧ Binds K fd (N.take d.np) [] ∧ fnB T nm gi d N st = true
structure Prg (K : PySem.W.Frag) (mg : Str → Option Value) (T : List Fn) (nm : List Str) (gi : List (Str × Int)) : Prop where
  fn : ∀ f d, T[f]? = some d → FnP K mg T nm gi f d
  bn : ∀ x ∈ bnames, mg x = none
  gi : ∀ p ∈ gi, ∃ t, mg p.1 = some (.int p.2 t)
section
variable {P : Program} {w : World} {K : PySem.W.Frag} {mg : Str → Option Value} {base : Heap}
/-- the body's state at its start -/
def G.start (S : Addr → Prop) (H : Hp) (io : List Nat) (as : List Addr) : G := ⟨S, H, as, as, [], fun i => if i ∈ io then as[io.idxOf i]? else none⟩
theorem idx_at {io : List Nat} {k i : Nat} (hn : io.Nodup) (h : io[k]? = some i) : io.idxOf i = k := by
  obtain ⟨hk, rfl⟩ := List.getElem?_eq_some_iff.mp h
  exact hn.idxOf_getElem k hk
theorem at_idx {io : List Nat} {i : Nat} (h : i ∈ io) : io[io.idxOf i]? = some i := by
  have hl := List.idxOf_lt_length_iff.mpr h
  rw [List.getElem?_eq_getElem hl, List.getElem_idxOf]
theorem getv_start {ws : List W} {n i : Nat} {w : W} (h : getv (ws.map some ++ List.replicate n none) i = some w) : ws[i]? = some w := by
  unfold getv at h
  by_cases hi : i < ws.length
  · rw [List.getElem?_append_left (by simpa using hi), List.getElem?_map] at h
    cases e : ws[i]? with
    | none => rw [e] at h; cases h
    | some x => rw [e] at h; exact h
  · rw [List.getElem?_append_right (by simpa using Nat.le_of_not_lt hi)] at h
    rw [List.getElem?_replicate] at h
    split at h <;> cases h
theorem start_at {N : List Str} {vs : List V} {i : Nat} {v : V} (h : vs[i]? = some v) : (L2.start N vs)[i]? = some (some v) := by
  unfold L2.start
  obtain ⟨hi, rfl⟩ := List.getElem?_eq_some_iff.mp h
  rw [List.getElem?_append_left (by simpa using hi), List.getElem?_map, h]
  rfl
def OkF (P : Program) (w : World) (K : PySem.W.Frag) (mg : Str → Option Value) (base : Heap) (T : List Fn) (nm : List Str) (k : Nat) : Prop :=
  ∀ f d, T[f]? = some d → ∃ x a fd ps, nm[f]? = some x ∧ mg x = some (.ref a) ∧ PySem.W.keepIn K (.ref a) = true ∧ Binds K fd ps [] ∧ FnOk P w K mg base CX0 k a fd ps (spF K d (callF T k f))
theorem Prg.step {T : List Fn} {nm : List Str} {gi : List (Str × Int)} (bn : ∀ x ∈ bnames, mg x = none) (hgi : ∀ p ∈ gi, ∃ t, mg p.1 = some (.int p.2 t)) {k : Nat} (ih : OkF P w K mg base T nm k) {f : Nat} {d : Fn} (hd : T[f]? = some d)
    {x qual : Str} {st : Stmt} {fa : Addr} {fd : FuncData} {N : List Str} (h3 : Fun K x qual st fa fd) (h5 : fnB T nm gi d N st = true) : FnOk P w K mg base CX0 (k + 1) fa fd (N.take d.np) (spF K d (callF T (k + 1) f)) := by
  obtain ⟨h, b7⟩ := ba h5
  obtain ⟨h, b6⟩ := ba h
  obtain ⟨h, b5⟩ := ba h
  obtain ⟨h, b4⟩ := ba h
  obtain ⟨h, b3⟩ := ba h
  obtain ⟨b1, b2⟩ := ba h
  have hsc := scB_ok b1
  have hNl : N.length = d.n := of_decide_eq_true b2
  have hnp : d.np ≤ d.n := of_decide_eq_true b3
  have hnd : d.io.Nodup := of_decide_eq_true b4
  have hio : ∀ i ∈ d.io, i < d.np ∧ i ∈ d.M := fun i hi => by
    have := List.all_eq_true.mp b5 i hi
    rw [Bool.and_eq_true] at this
    exact ⟨of_decide_eq_true this.1, of_decide_eq_true this.2⟩
  have hM : ∀ i ∈ d.M, i < d.np → i ∈ d.io := fun i hi hl => by
    have := List.all_eq_true.mp b6 i hi
    rw [Bool.or_eq_true] at this
    rcases this with q | q
    · have := of_decide_eq_true q; omega
    · exact of_decide_eq_true q
  have hps : (N.take d.np).length = d.np := by rw [List.length_take]; omega
  refine h3.ok hsc (fun vs H Q E ⟨S, ws, w, os, as, e1, e2, _⟩ => by rw [hps, ← e1, e2]) ?_
  intro cdv A outer s H vs Q E hr ⟨S, ws, w', os, as, e1, e2, hval, hasl, hasn, hasS, hown, hcall, hQ⟩
  have hcf := hcall
  simp only [callF, hd, Option.bind_some] at hcf
  rw [if_pos e2] at hcf
  simp only [Option.bind_eq_some_iff, Option.map_eq_some_iff] at hcf
  obtain ⟨r, hex, os', hos, hr2⟩ := hcf
  cases hr2
  let C : Cc := { N := N, M := d.M, T := T, nm := nm, gi := gi }
  have hX : XOk C (callF T k) (cxOf CX0 P w K mg base N qual (defScope st) fa cdv A outer s H E).nox (defScope st) fxT := {
    hN := rfl
    nd := hsc.nd
    sc := rfl
    fn := fun _ _ => rfl
    calm := rfl
    u := by have := hr.un; show (A.deeper _).units + 65 < cLine; omega
    F := ⟨k, ⟨fun f' d' hd' => ih f' d' hd', hr, fun f' d' ws' r' hd' hc' => by
      cases k with
      | zero => cases hc'
      | succ k =>
        have hd2 : T[f']? = some d' := hd'
        simp only [callF, hd2, Option.bind_some] at hc'
        split at hc'
        · assumption
        · cases hc'⟩⟩
    bn := bn
    gi := hgi }
  have hY : YOk C (callF T k) (cxOf CX0 P w K mg base N qual (defScope st) fa cdv A outer s H E).nox (defScope st) := ⟨hX, rfl, hsc.kind⟩
  refine ⟨_, ckSs_ok d.body hY b7, ?_⟩
  have hinp : ∀ i ∈ d.io, ∃ a w, as[d.io.idxOf i]? = some a ∧ ws[i]? = some w ∧ vs[i]? = some (.ref a) ∧ OwnC K S H w a := fun i hi => by
    have hl : d.io.idxOf i < as.length := by rw [hasl]; exact List.idxOf_lt_length_iff.mpr hi
    have hw : i < ws.length := by rw [e2]; exact (hio i hi).1
    have q := hown (d.io.idxOf i) i as[d.io.idxOf i] ws[i] (at_idx hi) (List.getElem?_eq_getElem hl) (List.getElem?_eq_getElem hw)
    exact ⟨_, _, List.getElem?_eq_getElem hl, List.getElem?_eq_getElem hw, q.1, q.2⟩
  have has : ∀ a ∈ as, ∃ i ∈ d.io, as[d.io.idxOf i]? = some a := fun a ha => by
    obtain ⟨j, hj, rfl⟩ := List.getElem_of_mem ha
    have hj' : j < d.io.length := by rw [← hasl]; exact hj
    refine ⟨d.io[j], List.getElem_mem hj', ?_⟩
    rw [hnd.idxOf_getElem j hj', List.getElem?_eq_getElem hj]
  have hcl : ∀ b u, S b → H b = some u → (G.start S H d.io as).cl b := fun b u z _ => ⟨.inl z, fun q => hasS b q z⟩
  have own_i : ∀ i ∈ d.io, (G.start S H d.io as).own i = as[d.io.idxOf i]? := fun i hi => if_pos hi
  have st0 : StOk K d.M (G.start S H d.io as) (ws.map some ++ List.replicate (d.n - ws.length) none) (L2.start N vs) H := {
    keep := fun b o e _ => .inl e
    O := fun b hb => ⟨.inl hb, by
      obtain ⟨i, hi, e⟩ := has b hb
      obtain ⟨a, w, k1, k2, k3, k4⟩ := hinp i hi
      rw [e] at k1
      cases k1
      obtain ⟨o, z1, z2⟩ := k4.cnt
      rcases z2.mo with ⟨xs, rfl⟩ | ⟨kvs, rfl⟩
      · exact .inl ⟨xs, z1⟩
      · exact .inr ⟨kvs, z1⟩⟩
    ioO := fun b hb => hb
    len := by
      unfold L2.start
      rw [List.length_append, List.length_append, List.length_map, List.length_map, List.length_replicate, List.length_replicate, e1, hNl]
    sl := fun i w e => by
      have ew := getv_start e
      by_cases hi : i ∈ d.io
      · obtain ⟨a, w2, k1, k2, k3, k4⟩ := hinp i hi
        rw [k2] at ew
        cases ew
        refine ⟨_, start_at k3, ?_⟩
        rw [if_pos (hio i hi).2]
        cases w with
        | lst ws' => obtain ⟨vs', z1, z2⟩ := k4; exact ⟨a, vs', rfl, z1, z2.weak hcl, fun q => by omega, fun q => by omega⟩
        | dct kvs => exact ⟨a, rfl, .inl k4, fun q => by omega, fun q => by omega⟩
        | _ => cases k4
      · obtain ⟨v, k1, k2⟩ := hval i w ew hi
        refine ⟨v, start_at k1, ?_⟩
        have hl : i < d.np := by rw [← e2]; exact (List.getElem?_eq_some_iff.mp ew).1
        rw [if_neg fun q => hi (hM i q hl)]
        exact .of2 (k2.weak hcl) (Nat.le_refl _)
    ow := fun i w hi e ho => by
      have ew := getv_start e
      have hl : i < d.np := by rw [← e2]; exact (List.getElem?_eq_some_iff.mp ew).1
      have hi' := hM i hi hl
      obtain ⟨a, w2, k1, k2, k3, k4⟩ := hinp i hi'
      exact ⟨a, start_at k3, by rw [own_i i hi']; exact k1, List.mem_of_getElem? k1⟩
    inj := fun i j a h1 h2 => by
      have h1 : (if i ∈ d.io then as[d.io.idxOf i]? else none) = some a := h1
      have h2 : (if j ∈ d.io then as[d.io.idxOf j]? else none) = some a := h2
      split at h1
      · rename_i hi
        split at h2
        · rename_i hj
          obtain ⟨l1, q1⟩ := List.getElem?_eq_some_iff.mp h1
          obtain ⟨l2, q2⟩ := List.getElem?_eq_some_iff.mp h2
          have e := (List.getElem_inj hasn).mp (q1.trans q2.symm)
          have z1 := at_idx hi
          rw [e, at_idx hj] at z1
          exact (Option.some.inj z1).symm
        · cases h2
      · cases h1
    od := fun i a h1 => by
      have h1 : (if i ∈ d.io then as[d.io.idxOf i]? else none) = some a := h1
      split at h1
      · rename_i hi
        obtain ⟨a', w, k1, k2, k3, k4⟩ := hinp i hi
        rw [h1] at k1
        cases k1
        obtain ⟨o, z1, _⟩ := k4.cnt
        exact ⟨o, z1⟩
      · cases h1 }
  have io0 : IoOk d.io (G.start S H d.io as) := fun b hb => by
    obtain ⟨i, hi, e⟩ := has b hb
    exact ⟨i, hi, by rw [own_i i hi]; exact e⟩
  refine ⟨_, _, r, st0, io0, hex, ?_⟩
  have fin : ∀ g' σ' v H' w2, Ext d.io (G.start S H d.io as) H g' H' → StOk K d.M g' r.1 σ' H' → Res K S H d.fresh w2 v H' → w2 = (match r.2 with | .ret w => w | .nx => .non) → Q v H' := by
    intro g' σ' v H' w2 x' s' res ew
    subst ew
    have hH0 : g'.H0 = H := x'.H0
    have hio' : g'.io = as := x'.io
    have hL : g'.L = [] := x'.L
    have hS : g'.S = S := x'.S
    refine hQ v H' (fun b o e n => ?_) (fun k a w2 ea ew => ?_) (outs_len hos) res
    · rcases s'.keep b o (by rw [hH0]; exact e) (by rw [hio']; exact n) with q | ⟨l, _⟩
      · exact q
      · rw [hL] at l; cases l
    · obtain ⟨i, hi1, hi2, ho⟩ := outs_at hos ew
      have hi : i ∈ d.io := List.mem_of_getElem? hi1
      obtain ⟨a', o, k1, k2, k3, k4, k5⟩ := s'.mine (hio i hi).2 hi2 ho
      have : g'.own i = some a := by
        rw [x'.own i hi, own_i i hi, idx_at hnd hi1]
        exact ea
      rw [this] at k3
      cases k3
      exact .of_cnt k4 k5 fun b u z _ => by
        have z := z.1
        rw [hS, hH0] at z
        exact z
  rcases r with ⟨ρr, o⟩
  cases o with
  | nx => exact fun g' σ' H' x' s' => fin g' σ' .non H' .non x' s' ⟨.mkn, fun _ => trivial⟩ rfl
  | ret w => exact fun g' σ' v H' x' s' res => fin g' σ' v H' w x' s' res rfl
theorem Prg.ok {T : List Fn} {nm : List Str} {gi : List (Str × Int)} (G0 : Prg K mg T nm gi) : ∀ k, OkF P w K mg base T nm k := by
  intro k
  induction k with
  | zero =>
    intro f d hd
    obtain ⟨x, qual, st, fa, fd, N, h1, h2, h3, h4, h5⟩ := (G0.fn f d hd).h
    refine ⟨x, fa, fd, _, h1, h2, h3.kp, h4, ?_, ?_⟩
    · intro vs H Q E ⟨S, ws, w, os, as, _, _, _, _, _, _, _, hc, _⟩
      cases hc
    · intro A outer s H args us vs Q E _ _ _ _ ⟨S, ws, w, os, as, _, _, _, _, _, _, _, hc, _⟩
      cases hc
  | succ k ih =>
    intro f d hd
    obtain ⟨x, qual, st, fa, fd, N, h1, h2, h3, h4, h5⟩ := (G0.fn f d hd).h
    exact ⟨x, fa, fd, _, h1, h2, h3.kp, h4, Prg.step G0.bn G0.gi ih hd h3 h5⟩
/-- the law's own promise -/
theorem Prg.law {T : List Fn} {nm : List Str} {gi : List (Str × Int)} (G0 : Prg K mg T nm gi) (k : Nat) {f : Nat} {d : Fn} (hd : T[f]? = some d) {x qual : Str} {st : Stmt} {fa : Addr} {fd : FuncData} {N : List Str} (h3 : Fun K x qual st fa fd) (h5 : fnB T nm gi d N st = true) :
    FnOk P w K mg base CX0 (k + 1) fa fd (N.take d.np) (spF K d (callF T (k + 1) f)) := Prg.step G0.bn G0.gi (Prg.ok G0 k) hd h3 h5
theorem law_sp {T : List Fn} {k f : Nat} {d : Fn} (h1 : d.np = 1) (hio : d.io = []) {H : Hp} {a : Addr} {ns : List Int} (hr : runLaw T k f ns = some (.bl true)) (hO : Only H) (hS : SqL K H a (ns.map V.int)) :
    spF K d (callF T k f) [.ref a] H (fun v _ => v = .bl true) fun _ _ _ => False := by
  obtain ⟨r, hc, e⟩ := Option.map_eq_some_iff.mp hr
  obtain ⟨w, os⟩ := r
  have e : w = .bl true := e
  subst e
  refine ⟨fun _ => False, [.scr ns], .bl true, os, [], rfl, h1.symm, fun i w hw _ => ?_, by rw [hio], .nil, (fun _ z => nomatch z), fun k i a w hk => by rw [hio] at hk; simp at hk, hc, fun v H' _ _ _ res => res.1.b⟩
  cases i with
  | succ i => simp at hw
  | zero =>
    simp only [List.getElem?_cons_zero, Option.some.injEq] at hw
    subst hw
    refine ⟨_, rfl, ?_⟩
    simp only [Rep]
    refine ⟨a, rfl, ?_⟩
    rcases hS with (hS | hS) | hS
    · rcases hO a with q | ⟨o, xs, q⟩ <;> rw [hS] at q <;> cases q
    · exact .inl hS
    · exact .inr (.inr hS)
end
end Mini

end

section
set_option maxRecDepth 100000
set_option maxHeartbeats 4000000
/-! Ev: how Mini runs, by rules for simp; loops by what stays true. -/
namespace Mini
@[simp] theorem getv_zero (x : Option W) (ρ : Env) : getv (x :: ρ) 0 = x := rfl
@[simp] theorem getv_succ (x : Option W) (ρ : Env) (i : Nat) : getv (x :: ρ) (i + 1) = getv ρ i := rfl
section
variable (cf : CF) (ρ : Env)
@[simp] theorem ev_var (i) : evalE cf (.var i) ρ = getv ρ i := by simp only [evalE]
@[simp] theorem ev_int (i) : evalE cf (.int i) ρ = some (.int i) := by simp only [evalE]
@[simp] theorem ev_bl (i) : evalE cf (.bl i) ρ = some (.bl i) := by simp only [evalE]
@[simp] theorem ev_str (i) : evalE cf (.str i) ρ = some (.str (PySem.Str.ofString i)) := by simp only [evalE]
@[simp] theorem ev_non : evalE cf .non ρ = some .non := by simp only [evalE]
@[simp] theorem ev_glb (x i) : evalE cf (.glb x i) ρ = some (.int i) := by simp only [evalE]
@[simp] theorem ev_bin (o a b) : evalE cf (.bin o a b) ρ = (evalE cf a ρ).bind fun x => (evalE cf b ρ).bind fun y => Mini.bin o x y := by simp only [evalE]
@[simp] theorem ev_neg (a) : evalE cf (.neg a) ρ = (evalE cf a ρ).bind fun x => x.int?.map fun i => .int (-i) := by simp only [evalE]
@[simp] theorem ev_cmp (o a b) : evalE cf (.cmp o a b) ρ = (evalE cf a ρ).bind fun x => (evalE cf b ρ).bind fun y => (Mini.cmp o x y).map .bl := by simp only [evalE]
@[simp] theorem ev_cmp2 (o p a b c) : evalE cf (.cmp2 o p a b c) ρ = (evalE cf a ρ).bind fun x => (evalE cf b ρ).bind fun y => (Mini.cmp o x y).bind fun k =>
      if k then (evalE cf c ρ).bind fun z => (Mini.cmp p y z).map .bl else some (.bl false) := by simp only [evalE]
@[simp] theorem ev_nt (a) : evalE cf (.nt a) ρ = (evalE cf a ρ).bind fun x => x.bl?.map fun b => .bl (!b) := by simp only [evalE]
@[simp] theorem ev_and (a b) : evalE cf (.and a b) ρ = (evalE cf a ρ).bind fun x => x.bl?.bind fun k => if k then (evalE cf b ρ).bind fun y => y.bl?.map .bl else some (.bl false) := by simp only [evalE]
@[simp] theorem ev_or (a b) : evalE cf (.or a b) ρ = (evalE cf a ρ).bind fun x => x.bl?.bind fun k => if k then some (.bl true) else (evalE cf b ρ).bind fun y => y.bl?.map .bl := by simp only [evalE]
@[simp] theorem ev_ite (c a b) : evalE cf (.ite c a b) ρ = (evalE cf c ρ).bind fun x => x.bl?.bind fun k => if k then evalE cf a ρ else evalE cf b ρ := by simp only [evalE]
@[simp] theorem ev_idx (a b) : evalE cf (.idx a b) ρ = (evalE cf a ρ).bind fun x => (evalE cf b ρ).bind fun y => Mini.idx x y := by simp only [evalE]
@[simp] theorem ev_slc (a lo hi) : evalE cf (.slc a lo hi) ρ = (evalE cf a ρ).bind fun x => (evalO cf lo ρ).bind fun l => (evalO cf hi ρ).bind fun h => Mini.slc l h x := by simp only [evalE]
@[simp] theorem ev_rev (a) : evalE cf (.rev a) ρ = (evalE cf a ρ).bind revW := by simp only [evalE]
@[simp] theorem ev_tup (es) : evalE cf (.tup es) ρ = (evalEs cf es ρ).bind fun ws => (guardLen ws).map .tup := by simp only [evalE]
@[simp] theorem ev_lst (es) : evalE cf (.lst es) ρ = (evalEs cf es ρ).bind fun ws => (guardLen ws).map .lst := by simp only [evalE]
@[simp] theorem ev_dnil : evalE cf .dnil ρ = some (.dct []) := by simp only [evalE]
@[simp] theorem ev_dsing (k v) : evalE cf (.dsing k v) ρ = (evalE cf k ρ).bind fun x => (evalE cf v ρ).bind fun y => x.key?.bind fun ks => y.int?.map fun i => .dct [(ks, i)] := by simp only [evalE]
@[simp] theorem ev_call (f es) : evalE cf (.call f es) ρ = (evalEs cf es ρ).bind fun ws => cf f ws := by simp only [evalE]
@[simp] theorem ev_callb (f es) : evalE cf (.callb f es) ρ = (evalEs cf es ρ).bind fun ws => (cf f ws).bind fun w => if w.flat then some w else none := by simp only [evalE]
@[simp] theorem ev_blt (f a) : evalE cf (.blt f a) ρ = (evalE cf a ρ).bind (Mini.blt f) := by simp only [evalE]
@[simp] theorem ev_mm (mx es) : evalE cf (.mm mx es) ρ = (evalEs cf es ρ).bind (max2 mx) := by simp only [evalE]
@[simp] theorem ev_isi (t a) : evalE cf (.isi t a) ρ = (evalE cf a ρ).bind fun x => (Mini.isi t x).map .bl := by simp only [evalE]
@[simp] theorem ev_dget (o k d) : evalE cf (.dget o k d) ρ = (evalE cf o ρ).bind fun x => (evalE cf k ρ).bind fun y => (evalE cf d ρ).bind fun z => z.int?.bind fun i => dgetW y (.int i) x := by simp only [evalE]
@[simp] theorem ev_lrange (a) : evalE cf (.lrange a) ρ = (evalE cf a ρ).bind fun x => x.int?.bind fun n => if n ≤ 1000000 then (rangeW 0 n).map .lst else none := by simp only [evalE]
@[simp] theorem ev_trange (a) : evalE cf (.trange a) ρ = (evalE cf a ρ).bind fun x => x.int?.bind fun n => if n ≤ 1000000 then (rangeW 0 n).map .tup else none := by simp only [evalE]
theorem ev_lc (elt tg it c) : evalE cf (.lc elt tg it c) ρ = (evalIt cf it ρ).bind fun ws =>
      (lcGo (fun w => (assign tg w (wipe ρ tg.slots)).bind fun ρ1 => (evalC cf c ρ1).bind fun k => if k then (evalE cf elt ρ1).map some else some none) ws).bind fun r => (guardLen r).map .lst := by simp only [evalE]
theorem ev_lc2 (elt tg it tg2 it2 c) : evalE cf (.lc2 elt tg it tg2 it2 c) ρ = (evalIt cf it ρ).bind fun ws =>
      (lc2Go (fun w => (assign tg w (wipe ρ (tg.slots ++ tg2.slots))).bind fun ρ1 => (evalIt cf it2 ρ1).bind fun ws2 =>
        lcGo (fun w2 => (assign tg2 w2 (wipe ρ1 tg2.slots)).bind fun ρ2 => (evalC cf c ρ2).bind fun k => if k then (evalE cf elt ρ2).map some else some none) ws2) ws).bind fun r => (guardLen r).map .lst := by simp only [evalE]
@[simp] theorem ev_es0 : evalEs cf .nil ρ = some [] := by simp only [evalEs]
@[simp] theorem ev_es1 (e es) : evalEs cf (.cons e es) ρ = (evalE cf e ρ).bind fun w => (evalEs cf es ρ).bind fun ws => some (w :: ws) := by simp only [evalEs]
@[simp] theorem ev_o0 : evalO cf .no ρ = some none := by simp only [evalO]
@[simp] theorem ev_o1 (e) : evalO cf (.so e) ρ = (evalE cf e ρ).bind fun w => w.int?.map some := by simp only [evalO]
@[simp] theorem ev_c0 : evalC cf .no ρ = some true := by simp only [evalC]
@[simp] theorem ev_c1 (e) : evalC cf (.so e) ρ = (evalE cf e ρ).bind W.bl? := by simp only [evalC]
@[simp] theorem ev_seq (e) : evalIt cf (.seq e) ρ = (evalE cf e ρ).bind W.seq? := by simp only [evalIt]
@[simp] theorem ev_rng (a) : evalIt cf (.rng a) ρ = (evalE cf a ρ).bind fun x => x.int?.bind fun n => rangeW 0 n := by simp only [evalIt]
@[simp] theorem ev_rng2 (a b) : evalIt cf (.rng2 a b) ρ = (evalE cf a ρ).bind fun x => (evalE cf b ρ).bind fun y => x.int?.bind fun m => y.int?.bind fun n => rangeW m n := by simp only [evalIt]
@[simp] theorem ev_keys (e) : evalIt cf (.keys e) ρ = (evalE cf e ρ).bind fun w => w.dct?.map fun kvs => kvs.map fun kv => W.tup (kv.1.map .int) := by simp only [evalIt]
@[simp] theorem ev_varT (i) : evalE cf (.varT i) ρ = (getv ρ i).bind fun w => match w with
    | .lst _ => none
    | .dct _ => none
    | w => some w := by first | (simp only [evalE]; done) | (simp only [evalE]; rfl)
end
@[simp] theorem int?_int (i : Int) : (W.int i).int? = some i := rfl
@[simp] theorem bl?_bl (i : Bool) : (W.bl i).bl? = some i := rfl
@[simp] theorem seq?_tup (ws : List W) : (W.tup ws).seq? = some ws := rfl
@[simp] theorem seq?_lst (ws : List W) : (W.lst ws).seq? = some ws := rfl
@[simp] theorem dct?_dct (kvs) : (W.dct kvs).dct? = some kvs := rfl
@[simp] theorem asn_one (i : Nat) (w : W) (ρ : Env) : assign (.one i) w ρ = some (ρ.set i (some w)) := rfl
@[simp] theorem asn_many (is : List Nat) (ws : List W) (ρ : Env) : assign (.many is) (.tup ws) ρ = setMany is ws ρ := rfl
@[simp] theorem sm_nil (ρ : Env) : setMany [] [] ρ = some ρ := rfl
@[simp] theorem sm_cons (i is w ws) (ρ : Env) : setMany (i :: is) (w :: ws) ρ = setMany is ws (ρ.set i (some w)) := rfl
@[simp] theorem slots_one (i : Nat) : (Tg.one i).slots = [i] := rfl
@[simp] theorem slots_many (i : List Nat) : (Tg.many i).slots = i := rfl
@[simp] theorem wipe_nil (ρ : Env) : wipe ρ [] = ρ := rfl
@[simp] theorem wipe_cons (ρ : Env) (v vs) : wipe ρ (v :: vs) = (wipe ρ vs).set v none := rfl
@[simp] theorem guard_nil : guardLen [] = some [] := rfl
theorem guard_ok {ws : List W} (h : ws.length ≤ big) : guardLen ws = some ws := if_pos h
/-- small displays -/
theorem guard_sm {ws : List W} (h : ws.length ≤ 1000) : guardLen ws = some ws := if_pos (Nat.le_trans h (by unfold big; omega))
section
variable (T : List Fn) (cf : CFI) (ρ : Env)
@[simp] theorem ex_nil : execs T cf .nil ρ = some (ρ, .nx) := by simp only [execs]
@[simp] theorem ex_cons (s ss) : execs T cf (.cons s ss) ρ = (exec T cf s ρ).bind fun r => match r with
    | (ρ', .nx) => execs T cf ss ρ'
    | (ρ', .ret w) => some (ρ', .ret w) := by first | (simp only [execs]; done) | (simp only [execs]; rfl)
@[simp] theorem ex_asg (i e) : exec T cf (.asg i e) ρ = (evalE (purely T cf) e ρ).map fun w => (ρ.set i (some w), .nx) := by simp only [exec]
@[simp] theorem ex_mov (i j) : exec T cf (.mov i j) ρ = (getv ρ j).map fun w => ((ρ.set j none).set i (some w), .nx) := by simp only [exec]
@[simp] theorem ex_unp (is e) : exec T cf (.unp is e) ρ = (evalE (purely T cf) e ρ).bind fun w => (assign (.many is) w ρ).map fun ρ' => (ρ', .nx) := by simp only [exec]
@[simp] theorem ex_aug (i o e) : exec T cf (.aug i o e) ρ = (getv ρ i).bind fun x => (evalE (purely T cf) e ρ).bind fun y => x.int?.bind fun a => y.int?.bind fun b => (binI o a b).map fun z => (ρ.set i (some (.int z)), .nx) := by simp only [exec]
@[simp] theorem ex_app (i e) : exec T cf (.app i e) ρ = (getv ρ i).bind fun x => (evalE (purely T cf) e ρ).bind fun y => (appW x y).map fun z => (ρ.set i (some z), .nx) := by simp only [exec]
@[simp] theorem ex_set (i k e) : exec T cf (.set i k e) ρ = (evalE (purely T cf) e ρ).bind fun y => (getv ρ i).bind fun x => (evalE (purely T cf) k ρ).bind fun kw => (setAt x kw y).map fun z => (ρ.set i (some z), .nx) := by simp only [exec]
@[simp] theorem ex_ret (e) : exec T cf (.ret e) ρ = (evalE (purely T cf) e ρ).map fun w => (ρ, .ret w) := by simp only [exec]
@[simp] theorem ex_retM (i) : exec T cf (.retM i) ρ = (getv ρ i).map fun w => (ρ, .ret w) := by simp only [exec]
@[simp] theorem ex_retN : exec T cf .retN ρ = some (ρ, .ret .non) := by simp only [exec]
@[simp] theorem ex_ife (c a b) : exec T cf (.ife c a b) ρ = (evalE (purely T cf) c ρ).bind fun x => x.bl?.bind fun k => if k then execs T cf a ρ else execs T cf b ρ := by simp only [exec]
theorem ex_forr (tg it b) : exec T cf (.forr tg it b) ρ = (evalIt (purely T cf) it ρ).bind fun ws => forGo (fun w ρ => (assign tg w ρ).bind fun ρ' => execs T cf b ρ') ws ρ := by simp only [exec]
end
def Out.val : Out → W
  | .ret w => w
  | .nx => .non
theorem callF_ok {T : List Fn} {k f : Nat} {d : Fn} {ws : List W} {ρ : Env} {o : Out} {os : List W} (hd : T[f]? = some d) (hl : ws.length = d.np) (h : execs T (callF T k) d.body (ws.map some ++ List.replicate (d.n - ws.length) none) = some (ρ, o)) (ho : outs ρ d.io = some os) :
    callF T (k + 1) f ws = some (o.val, os) := by
  simp only [callF, hd, Option.bind_some, if_pos hl, h, ho, Option.map_some]
  cases o <;> rfl
/-- a function that changes nothing of its callers' -/
theorem callF_io0 {T : List Fn} {k f : Nat} {d : Fn} {ws : List W} {ρ : Env} {w : W} (hd : T[f]? = some d) (hl : ws.length = d.np) (hio : d.io = []) (h : execs T (callF T k) d.body (ws.map some ++ List.replicate (d.n - ws.length) none) = some (ρ, .ret w)) :
    callF T (k + 1) f ws = some (w, []) := callF_ok hd hl h (by rw [hio]; rfl)
theorem purely_ok {T : List Fn} {cf : CFI} {f : Nat} {ws : List W} {w : W} {d : Fn} (hd : T[f]? = some d) (hio : d.io = []) (h : cf f ws = some (w, [])) : purely T cf f ws = some w := by
  unfold purely
  rw [hd, Option.bind_some, hio, h]
  rfl
/-! ### loops -/
theorem forGo_inv {step : W → Env → Option (Env × Out)} (P : Nat → Env → Prop) (R : Env → W → Prop) : ∀ (ws : List W) (n : Nat) (ρ : Env), P n ρ →
    (∀ i w ρ, ws[i]? = some w → P (n + i) ρ → (∃ ρ', step w ρ = some (ρ', .nx) ∧ P (n + i + 1) ρ') ∨ ∃ ρ' v, step w ρ = some (ρ', .ret v) ∧ R ρ' v) →
    (∃ ρ', forGo step ws ρ = some (ρ', .nx) ∧ P (n + ws.length) ρ') ∨ ∃ ρ' v, forGo step ws ρ = some (ρ', .ret v) ∧ R ρ' v
  | [], n, ρ, h0, _ => .inl ⟨ρ, rfl, h0⟩
  | w :: ws, n, ρ, h0, hs => by
    rcases hs 0 w ρ rfl h0 with ⟨ρ', h1, h2⟩ | ⟨ρ', v, h1, h2⟩
    · rcases forGo_inv P R ws (n + 1) ρ' h2 (fun i w' ρ2 hw hp => by
        have := hs (i + 1) w' ρ2 (by simpa using hw) (by rw [show n + (i + 1) = n + 1 + i by omega]; exact hp)
        rw [show n + (i + 1) + 1 = n + 1 + i + 1 by omega] at this
        exact this) with ⟨ρ3, h3, h4⟩ | ⟨ρ3, v, h3, h4⟩
      · refine .inl ⟨ρ3, ?_, by rw [List.length_cons, show n + (ws.length + 1) = n + 1 + ws.length by omega]; exact h4⟩
        simp only [forGo, h1, Option.bind_some]
        exact h3
      · refine .inr ⟨ρ3, v, ?_, h4⟩
        simp only [forGo, h1, Option.bind_some]
        exact h3
    · refine .inr ⟨ρ', v, ?_, h2⟩
      simp only [forGo, h1, Option.bind_some]
/-- a loop that goes through -/
theorem forr_thru {T : List Fn} {cf : CFI} {tg : Tg} {it : It} {b : Ss} {ρ : Env} {ws : List W} (P : Nat → Env → Prop) (hit : evalIt (purely T cf) it ρ = some ws) (h0 : P 0 ρ)
    (hs : ∀ i w ρ, ws[i]? = some w → P i ρ → ∃ ρ1, assign tg w ρ = some ρ1 ∧ ∃ ρ2, execs T cf b ρ1 = some (ρ2, .nx) ∧ P (i + 1) ρ2) : ∃ ρ', exec T cf (.forr tg it b) ρ = some (ρ', .nx) ∧ P ws.length ρ' := by
  rw [ex_forr, hit, Option.bind_some]
  rcases forGo_inv (step := fun w ρ => (assign tg w ρ).bind fun ρ' => execs T cf b ρ') P (fun _ _ => False) ws 0 ρ h0 (fun i w ρ hw hp => by
    rw [Nat.zero_add] at hp ⊢
    obtain ⟨ρ1, h1, ρ2, h2, h3⟩ := hs i w ρ hw hp
    exact .inl ⟨ρ2, by rw [h1, Option.bind_some]; exact h2, h3⟩) with ⟨ρ', h1, h2⟩ | ⟨_, _, _, z⟩
  · exact ⟨ρ', h1, by rw [Nat.zero_add] at h2; exact h2⟩
  · exact z.elim
/-- a comprehension -/
theorem lcGo_ok {f : W → Option (Option W)} {g : W → Option W} : ∀ {ws : List W}, (∀ w ∈ ws, f w = some (g w)) → lcGo f ws = some (ws.filterMap g)
  | [], _ => rfl
  | w :: ws, h => by
    simp only [lcGo, h w List.mem_cons_self, lcGo_ok fun w hw => h w (List.mem_cons_of_mem _ hw), Option.bind_some, List.filterMap_cons]
    cases g w <;> rfl
theorem lc2Go_ok {f : W → Option (List W)} {g : W → List W} : ∀ {ws : List W}, (∀ w ∈ ws, f w = some (g w)) → lc2Go f ws = some (ws.flatMap g)
  | [], _ => rfl
  | w :: ws, h => by
    simp only [lc2Go, h w List.mem_cons_self, lc2Go_ok fun w hw => h w (List.mem_cons_of_mem _ hw), Option.bind_some, List.flatMap_cons]
/-- over range(n), each turn an item -/
theorem lcGo_range {f : W → Option (Option W)} {g : Nat → W} {n : Nat} (h : ∀ i, i < n → f (.int i) = some (some (g i))) : lcGo f ((List.range n).map fun (i : Nat) => W.int (i : Int)) = some ((List.range n).map g) := by
  generalize hl : List.range n = l
  have hl' : ∀ i ∈ l, i < n := fun i hi => by rw [← hl] at hi; exact List.mem_range.mp hi
  clear hl
  induction l with
  | nil => rfl
  | cons a l ih =>
    simp only [List.map_cons, lcGo, h a (hl' a List.mem_cons_self), Option.bind_some, ih fun i hi => hl' i (List.mem_cons_of_mem _ hi)]
theorem rangeW_nat {n : Nat} (h : n < 2 ^ 62) : rangeW 0 (n : Int) = some ((List.range n).map fun (i : Nat) => W.int (i : Int)) := by
  unfold rangeW
  rw [if_pos]
  · congr 2
    funext i
    rw [Int.zero_add]
  · simp only [Bool.and_eq_true, decide_eq_true_eq]
    omega
/-! ### operators -/
@[simp] theorem bin_int (o : BO) (i j : Int) : bin o (.int i) (.int j) = (binI o i j).map .int := by cases o <;> rfl
@[simp] theorem binI_add' (i j : Int) : binI .add i j = some (i + j) := rfl
@[simp] theorem binI_sub' (i j : Int) : binI .sub i j = some (i - j) := rfl
theorem small_of {i : Int} (h1 : -1000000000000 < i) (h2 : i < 1000000000000) : small64 i = true := by
  unfold small64
  simp only [Bool.and_eq_true, decide_eq_true_eq]
  omega
@[simp] theorem binI_mulR (i j : Int) (h : -1000000000000 < j) (h' : j < 1000000000000) : binI .mul i j = some (i * j) := by
  show (if small64 i || small64 j then some (i * j) else none) = _
  rw [small_of h h', Bool.or_true]
  rfl
@[simp] theorem binI_mulL (i j : Int) (h : -1000000000000 < i) (h' : i < 1000000000000) : binI .mul i j = some (i * j) := by
  show (if small64 i || small64 j then some (i * j) else none) = _
  rw [small_of h h', Bool.true_or]
  rfl
@[simp] theorem binI_mod' (i j : Int) (h : 0 < j) : binI .mod i j = some (i % j) := if_pos h
@[simp] theorem binI_fdiv' (i j : Int) (h : 0 < j) (h' : j < 1073741824) : binI .fdiv i j = some (i / j) := by
  show (if 0 < j && j < 1073741824 then some (i / j) else none) = _
  rw [decide_eq_true h, decide_eq_true h']
  rfl
@[simp] theorem binI_shr' (i j : Int) (h : 0 ≤ j) : binI .shr i j = some (i / 2 ^ j.toNat) := if_pos h
@[simp] theorem binI_ten : binI .pow 10 18 = some 1000000000000000000 := by decide
@[simp] theorem cmp_lt' (i j : Int) : cmp .lt (.int i) (.int j) = some (decide (i < j)) := rfl
@[simp] theorem cmp_le' (i j : Int) : cmp .le (.int i) (.int j) = some (decide (i ≤ j)) := rfl
@[simp] theorem cmp_gt' (i j : Int) : cmp .gt (.int i) (.int j) = some (decide (j < i)) := rfl
@[simp] theorem cmp_ge' (i j : Int) : cmp .ge (.int i) (.int j) = some (decide (j ≤ i)) := rfl
@[simp] theorem cmp_eq' (i j : Int) : cmp .eq (.int i) (.int j) = some (decide (i = j)) := by
  show (if true && true then some (i == j) else none) = _
  rfl
@[simp] theorem cmp_ne' (i j : Int) : cmp .ne (.int i) (.int j) = some (!decide (i = j)) := by
  show (if true && true then some (!(i == j)) else none) = _
  rfl
@[simp] theorem app_ok (ws : List W) (v : W) (h : ws.length < big) : appW (.lst ws) v = some (.lst (ws ++ [v])) := if_pos h
@[simp] theorem idx_lst (ws : List W) (i : Int) : idx (.lst ws) (.int i) = atI ws i := rfl
@[simp] theorem idx_tup (ws : List W) (i : Int) : idx (.tup ws) (.int i) = atI ws i := rfl
theorem atI_nat {α : Type} {xs : List α} {i : Nat} {x : α} (h : xs[i]? = some x) : atI xs (i : Int) = some x := by
  have hl := (List.getElem?_eq_some_iff.mp h).1
  unfold atI ixN
  rw [if_pos (Int.natCast_nonneg _), if_pos (by omega)]
  simp [h]
@[simp] theorem blt_int (i : Int) : blt .int (.int i) = some (.int i) := rfl
@[simp] theorem blt_intb (b : Bool) : blt .int (.bl b) = some (.int (if b then 1 else 0)) := rfl
@[simp] theorem blt_lenl (ws : List W) : blt .len (.lst ws) = some (.int ws.length) := rfl
@[simp] theorem blt_lent (ws : List W) : blt .len (.tup ws) = some (.int ws.length) := rfl
@[simp] theorem blt_lend (ws) : blt .len (.dct ws) = some (.int ws.length) := rfl
@[simp] theorem blt_tupl (ws : List W) : blt .tuple (.lst ws) = some (.tup ws) := rfl
@[simp] theorem blt_tupt (ws : List W) : blt .tuple (.tup ws) = some (.tup ws) := rfl
@[simp] theorem ints?_ints (ns : List Int) : ints? (ns.map .int) = some ns := by
  induction ns with
  | nil => rfl
  | cons n ns ih =>
    show (ints? (ns.map .int)).map (n :: ·) = _
    rw [ih]
    rfl
@[simp] theorem blt_suml (ns : List Int) : blt .sum (.lst (ns.map .int)) = some (.int ns.sum) := by
  show (ints? (ns.map .int)).map (fun ns => W.int ns.sum) = _
  rw [ints?_ints]
  rfl
@[simp] theorem blt_sumt (ns : List Int) : blt .sum (.tup (ns.map .int)) = some (.int ns.sum) := by
  show (ints? (ns.map .int)).map (fun ns => W.int ns.sum) = _
  rw [ints?_ints]
  rfl
@[simp] theorem key?_ints (ns : List Int) : (W.tup (ns.map .int)).key? = some ns := ints?_ints ns
theorem lt_big {n : Nat} (h : n ≤ 1000000) : n < big := Nat.lt_of_le_of_lt h (show 1000000 < 16777216 by decide)
theorem le_big {n : Nat} (h : n ≤ 1000000) : n ≤ big := Nat.le_of_lt (lt_big h)
@[simp] theorem guard_1 (a : W) : guardLen [a] = some [a] := rfl
@[simp] theorem guard_2 (a b : W) : guardLen [a, b] = some [a, b] := rfl
@[simp] theorem guard_3 (a b c : W) : guardLen [a, b, c] = some [a, b, c] := rfl
@[simp] theorem guard_4 (a b c d : W) : guardLen [a, b, c, d] = some [a, b, c, d] := rfl
@[simp] theorem guard_6 (a b c d e f : W) : guardLen [a, b, c, d, e, f] = some [a, b, c, d, e, f] := rfl
theorem lcGo_map {α : Type} {f : W → Option (Option W)} {h : α → W} {g : α → Option W} : ∀ {l : List α}, (∀ a ∈ l, f (h a) = some (g a)) → lcGo f (l.map h) = some (l.filterMap g)
  | [], _ => rfl
  | a :: l, q => by
    rw [List.map_cons, List.filterMap_cons]
    simp only [lcGo, q a List.mem_cons_self, lcGo_map fun b hb => q b (List.mem_cons_of_mem _ hb), Option.bind_some]
    cases g a <;> rfl
theorem lc2Go_map {α : Type} {f : W → Option (List W)} {h : α → W} {g : α → List W} : ∀ {l : List α}, (∀ a ∈ l, f (h a) = some (g a)) → lc2Go f (l.map h) = some (l.flatMap g)
  | [], _ => rfl
  | a :: l, q => by
    rw [List.map_cons, List.flatMap_cons]
    simp only [lc2Go, q a List.mem_cons_self, lc2Go_map fun b hb => q b (List.mem_cons_of_mem _ hb), Option.bind_some]
/-- a tuple of ints -/
def tupI (ns : List Int) : W := .tup (ns.map .int)
theorem add_tupI {xs ys : List Int} (h : xs.length + ys.length ≤ 1000000) : bin .add (tupI xs) (tupI ys) = some (tupI (xs ++ ys)) := by
  unfold tupI
  show (if (xs.map W.int).length + (ys.map W.int).length ≤ big then some (W.tup (xs.map W.int ++ ys.map W.int)) else none) = _
  rw [if_pos (by rw [List.length_map, List.length_map]; exact le_big h), List.map_append]
@[simp] theorem key?_tupI (ns : List Int) : (tupI ns).key? = some ns := ints?_ints ns
@[simp] theorem seq?_tupI (ns : List Int) : (tupI ns).seq? = some (ns.map .int) := rfl
@[simp] theorem blt_sumI (ns : List Int) : blt .sum (tupI ns) = some (.int ns.sum) := blt_sumt ns
@[simp] theorem blt_lenI (ns : List Int) : blt .len (tupI ns) = some (.int ns.length) := by
  show some (W.int (ns.map W.int).length) = _
  rw [List.length_map]
@[simp] theorem blt_tupI (ns : List Int) : blt .tuple (tupI ns) = some (tupI ns) := rfl
@[simp] theorem binI_band' (i j : Nat) : binI .band (i : Int) (j : Int) = some ((i &&& j : Nat) : Int) := by
  show (if 0 ≤ (i : Int) && 0 ≤ (j : Int) then some (((i : Int).toNat &&& (j : Int).toNat : Nat) : Int) else none) = _
  rw [decide_eq_true (Int.natCast_nonneg i), decide_eq_true (Int.natCast_nonneg j), Int.toNat_natCast, Int.toNat_natCast]
  rfl
theorem binI_shl' (n : Nat) (h : n ≤ 6) : binI .shl 1 (n : Int) = some ((2 ^ n : Nat) : Int) := by
  rcases n with _ | _ | _ | _ | _ | _ | _ | n
  · decide
  · decide
  · decide
  · decide
  · decide
  · decide
  · decide
  · omega
end Mini

end

namespace Law
open Mini
def C_ways_1 : Mini.E := (.lc (.var 4) (.one 4) (.seq (.var 2)) (.so (.cmp .eq (.bin .sub (.blt .sum (.var 1)) (.blt .sum (.var 4))) (.var 0))))
def C_ways_2 : Mini.E := (.lc2 (.bin .add (.var 4) (.tup (.cons (.bin .sub (.var 3) (.var 5)) .nil))) (.one 4) (.seq (.var 2)) (.one 5) (.seq (.tup (.cons (.int 0) (.cons (.int 1) .nil)))) (.so (.cmp .le (.var 5) (.var 3))))
def B_ways_1 : Mini.Ss := (.cons (.asg 2 C_ways_2) .nil)
def L_ways_1 : Mini.S := .forr (.one 3) (.seq (.var 1)) B_ways_1
/-- ways: slots 0=many 1=left 2=found 3=column 4=row 5=one -/
def f_ways : Fn := { np := 2, n := 6, M := [], io := [], fresh := false, body := (.cons (.asg 2 (.lst (.cons (.tup .nil) .nil))) (.cons (L_ways_1) (.cons (.ret C_ways_1) .nil))) }
def B_count_tables_1 : Mini.Ss := (.cons (.set 4 (.var 6) (.bin .add (.dget (.var 4) (.var 6) (.int 0)) (.idx (.var 2) (.var 5)))) .nil)
def L_count_tables_1 : Mini.S := .forr (.one 6) (.seq (.call 0 (.cons (.var 3) (.cons (.var 5) .nil)))) B_count_tables_1
def B_count_tables_2 : Mini.Ss := (.cons (L_count_tables_1) .nil)
def L_count_tables_2 : Mini.S := .forr (.one 5) (.keys (.var 2)) B_count_tables_2
def B_count_tables_3 : Mini.Ss := (.cons (.asg 4 .dnil) (.cons (L_count_tables_2) (.cons (.mov 2 4) .nil)))
def L_count_tables_3 : Mini.S := .forr (.one 3) (.seq (.var 0)) B_count_tables_3
/-- count_tables: slots 0=rows 1=columns 2=known 3=many 4=after 5=left 6=row -/
def f_count_tables : Fn := { np := 2, n := 7, M := [4], io := [], fresh := false, body := (.cons (.asg 2 (.dsing (.blt .tuple (.var 1)) (.int 1))) (.cons (L_count_tables_3) (.cons (.ret (.dget (.var 2) (.bin .mul (.tup (.cons (.int 0) .nil)) (.blt .len (.var 1))) (.int 0))) .nil))) }
def I_law_cell_1 : Mini.Ss := (.cons (.ret (.idx (.var 0) (.var 1))) .nil)
/-- _law_cell: slots 0=script 1=k -/
def f_law_cell : Fn := { np := 2, n := 2, M := [], io := [], fresh := false, body := (.cons (.ife (.cmp .lt (.var 1) (.blt .len (.var 0))) I_law_cell_1 .nil) (.cons (.ret (.int 0)) .nil)) }
def I_law_draws_1 : Mini.Ss := (.cons (.app 2 (.bin .mod (.blt .int (.var 3)) (.int 4096))) (.cons (.asg 3 (.bin .fdiv (.var 3) (.int 4096))) .nil))
def I_law_draws_2 : Mini.Ss := (.cons (.asg 5 (.bin .mod (.blt .int (.bin .add (.bin .mul (.var 0) (.int 48271)) (.bin .mul (.bin .add (.var 4) (.int 1)) (.int 69621)))) (.int 2147483647))) (.cons (.asg 5 (.bin .mod (.blt .int (.bin .add (.bin .add (.bin .mul (.var 5) (.var 5)) (.bin .mul (.var 5) (.int 16807))) (.bin .mul (.var 4) (.int 7919)))) (.int 2147483629))) (.cons (.asg 5 (.bin .mod (.blt .int (.bin .add (.bin .add (.bin .mul (.var 5) (.var 5)) (.var 0)) (.bin .mul (.int 13) (.var 4)))) (.int 2147483587))) (.cons (.app 2 (.bin .mod (.bin .fdiv (.var 5) (.int 7)) (.int 4096))) .nil))))
def B_law_draws_1 : Mini.Ss := (.cons (.ife (.and (.cmp .ge (.var 0) (.bin .pow (.int 10) (.int 18))) (.cmp .gt (.var 3) (.int 0))) I_law_draws_1 I_law_draws_2) .nil)
def L_law_draws_1 : Mini.S := .forr (.one 4) (.rng (.var 1)) B_law_draws_1
/-- _law_draws: slots 0=cell 1=amount 2=rows 3=left 4=k 5=mixed -/
def f_law_draws : Fn := { np := 2, n := 6, M := [2], io := [], fresh := false, body := (.cons (.asg 2 (.lst .nil)) (.cons (.asg 3 (.var 0)) (.cons (L_law_draws_1) (.cons (.retM 2) .nil)))) }
def I_law_kind_1 : Mini.Ss := (.cons (.ret (.int 6)) .nil)
def I_law_kind_2 : Mini.Ss := (.cons (.ret (.int 5)) .nil)
def I_law_kind_3 : Mini.Ss := (.cons (.ret (.int 4)) .nil)
def I_law_kind_4 : Mini.Ss := (.cons (.ret (.int 3)) .nil)
def I_law_kind_5 : Mini.Ss := (.cons (.ret (.int 2)) .nil)
def I_law_kind_6 : Mini.Ss := (.cons (.ret (.int 1)) .nil)
/-- _law_kind: slots 0=x -/
def f_law_kind : Fn := { np := 1, n := 1, M := [], io := [], fresh := false, body := (.cons (.ife (.isi .bool (.var 0)) I_law_kind_6 .nil) (.cons (.ife (.isi .int (.var 0)) I_law_kind_5 .nil) (.cons (.ife (.isi .str (.var 0)) I_law_kind_4 .nil) (.cons (.ife (.isi .tuple (.var 0)) I_law_kind_3 .nil) (.cons (.ife (.isi .list (.var 0)) I_law_kind_2 .nil) (.cons (.ife (.isi .dict (.var 0)) I_law_kind_1 .nil) (.cons (.ret (.int 0)) .nil))))))) }
def C_law_equal_1 : Mini.E := (.lc (.var 4) (.one 4) (.keys (.var 1)) (.so (.and (.cmp .eq (.var 4) (.var 3)) (.call 5 (.cons (.var 3) (.cons (.var 4) .nil))))))
def I_law_equal_1 : Mini.Ss := (.cons (.ret (.bl false)) .nil)
def I_law_equal_2 : Mini.Ss := (.cons (.ret (.bl false)) .nil)
def B_law_equal_1 : Mini.Ss := (.cons (.ife (.or (.cmp .notin (.var 3) (.var 1)) (.nt (.call 5 (.cons (.idx (.var 0) (.var 3)) (.cons (.idx (.var 1) (.var 3)) .nil))))) I_law_equal_2 .nil) (.cons (.ife (.cmp .eq (.blt .len C_law_equal_1) (.int 0)) I_law_equal_1 .nil) .nil))
def L_law_equal_1 : Mini.S := .forr (.one 3) (.keys (.var 0)) B_law_equal_1
def I_law_equal_3 : Mini.Ss := (.cons (.ret (.bl false)) .nil)
def I_law_equal_4 : Mini.Ss := (.cons (.ife (.cmp .ne (.blt .len (.var 0)) (.blt .len (.var 1))) I_law_equal_3 .nil) (.cons (L_law_equal_1) (.cons (.ret (.bl true)) .nil)))
def C_law_equal_2 : Mini.E := (.lc (.var 2) (.one 2) (.rng (.blt .len (.var 1))) (.so (.nt (.call 5 (.cons (.idx (.var 0) (.var 2)) (.cons (.idx (.var 1) (.var 2)) .nil))))))
def I_law_equal_5 : Mini.Ss := (.cons (.ret (.bl false)) .nil)
def I_law_equal_6 : Mini.Ss := (.cons (.ife (.cmp .ne (.blt .len (.var 0)) (.blt .len (.var 1))) I_law_equal_5 .nil) (.cons (.ret (.cmp .eq (.blt .len C_law_equal_2) (.int 0))) .nil))
def I_law_equal_7 : Mini.Ss := (.cons (.ret (.bl false)) .nil)
/-- _law_equal: slots 0=x 1=due 2=k 3=key 4=other -/
def f_law_equal : Fn := { np := 2, n := 5, M := [], io := [], fresh := false, body := (.cons (.ife (.cmp .ne (.call 4 (.cons (.var 0) .nil)) (.call 4 (.cons (.var 1) .nil))) I_law_equal_7 .nil) (.cons (.ife (.or (.isi .tuple (.var 1)) (.isi .list (.var 1))) I_law_equal_6 .nil) (.cons (.ife (.isi .dict (.var 1)) I_law_equal_4 .nil) (.cons (.ret (.cmp .eq (.var 0) (.var 1))) .nil)))) }
def I_law_sums_1 : Mini.Ss := (.cons (.set 3 (.var 6) (.bin .add (.idx (.var 3) (.var 6)) (.int 1))) (.cons (.set 3 (.var 8) (.bin .sub (.idx (.var 3) (.var 8)) (.int 1))) .nil))
def B_law_sums_1 : Mini.Ss := (.cons (.asg 6 (.bin .mod (.blt .int (.idx (.var 0) (.bin .add (.int 30) (.var 7)))) (.var 1))) (.cons (.asg 8 (.bin .mod (.blt .int (.idx (.var 0) (.bin .add (.int 33) (.var 7)))) (.var 1))) (.cons (.ife (.cmp .gt (.idx (.var 3) (.var 8)) (.int 0)) I_law_sums_1 .nil) .nil)))
def L_law_sums_1 : Mini.S := .forr (.one 7) (.rng (.bin .mod (.blt .int (.idx (.var 0) (.int 3))) (.int 3))) B_law_sums_1
def I_law_sums_2 : Mini.Ss := (.cons (.set 3 (.var 6) (.bin .add (.idx (.var 3) (.var 6)) (.int 1))) (.cons (.set 5 (.var 4) (.bin .add (.idx (.var 5) (.var 4)) (.int 1))) .nil))
def B_law_sums_2 : Mini.Ss := (.cons (.ife (.cmp .eq (.bin .mod (.bin .fdiv (.blt .int (.idx (.var 0) (.bin .add (.int 4) (.bin .mod (.bin .add (.bin .mul (.var 6) (.var 2)) (.var 4)) (.int 25))))) (.bin .add (.int 1) (.var 6))) (.int 2)) (.int 1)) I_law_sums_2 .nil) .nil)
def L_law_sums_2 : Mini.S := .forr (.one 4) (.rng (.var 2)) B_law_sums_2
def B_law_sums_3 : Mini.Ss := (.cons (L_law_sums_2) .nil)
def L_law_sums_3 : Mini.S := .forr (.one 6) (.rng (.var 1)) B_law_sums_3
def C_law_sums_1 : Mini.E := (.lc (.bin .mod (.blt .int (.idx (.var 0) (.bin .add (.int 12) (.var 4)))) (.int 6)) (.one 4) (.rng (.var 2)) .no)
def C_law_sums_2 : Mini.E := (.lc (.bin .mod (.blt .int (.idx (.var 0) (.bin .add (.int 4) (.var 4)))) (.int 6)) (.one 4) (.rng (.var 1)) .no)
def I_law_sums_3 : Mini.Ss := (.cons (.asg 3 (.blt .tuple C_law_sums_2)) (.cons (.ret (.tup (.cons (.varT 3) (.cons (.blt .tuple C_law_sums_1) .nil)))) .nil))
/-- _law_sums: slots 0=draws 1=amount 2=wide 3=rows 4=k 5=columns 6=i 7=turn 8=j -/
def f_law_sums : Fn := { np := 1, n := 9, M := [3, 5], io := [], fresh := false, body := (.cons (.asg 1 (.bin .add (.int 1) (.bin .mod (.blt .int (.idx (.var 0) (.int 0))) (.int 5)))) (.cons (.asg 2 (.bin .add (.int 1) (.bin .mod (.blt .int (.idx (.var 0) (.int 1))) (.int 5)))) (.cons (.ife (.cmp .eq (.bin .mod (.idx (.var 0) (.int 2)) (.int 4)) (.int 1)) I_law_sums_3 .nil) (.cons (.asg 3 (.bin .mul (.lst (.cons (.int 0) .nil)) (.var 1))) (.cons (.asg 5 (.bin .mul (.lst (.cons (.int 0) .nil)) (.var 2))) (.cons (L_law_sums_3) (.cons (L_law_sums_1) (.cons (.ret (.tup (.cons (.blt .tuple (.var 3)) (.cons (.blt .tuple (.var 5)) .nil)))) .nil)))))))) }
def I_law_tables_1 : Mini.Ss := (.cons (.asg 2 (.bin .add (.var 2) (.call 7 (.cons (.slc (.var 0) (.so (.int 1)) .no) (.cons (.var 6) .nil))))) .nil)
def C_law_tables_1 : Mini.E := (.lc (.bin .sub (.idx (.var 1) (.var 5)) (.idx (.var 4) (.var 5))) (.one 5) (.rng (.blt .len (.var 1))) .no)
def C_law_tables_2 : Mini.E := (.lc (.blt .int (.cmp .eq (.bin .band (.bin .shr (.var 3) (.var 5)) (.int 1)) (.int 1))) (.one 5) (.rng (.blt .len (.var 1))) .no)
def B_law_tables_1 : Mini.Ss := (.cons (.asg 4 C_law_tables_2) (.cons (.asg 6 (.blt .tuple C_law_tables_1)) (.cons (.ife (.and (.cmp .eq (.blt .sum (.var 4)) (.idx (.var 0) (.int 0))) (.and (.cmp .ge (.blt .min (.var 6)) (.int 0)) (.cmp .eq (.blt .sum (.var 6)) (.blt .sum (.slc (.var 0) (.so (.int 1)) .no))))) I_law_tables_1 .nil) .nil)))
def L_law_tables_1 : Mini.S := .forr (.one 3) (.rng (.bin .shl (.int 1) (.blt .len (.var 1)))) B_law_tables_1
def I_law_tables_2 : Mini.Ss := (.cons (.ret (.blt .int (.cmp .eq (.blt .max (.var 1)) (.int 0)))) .nil)
/-- _law_tables: slots 0=rows 1=columns 2=found 3=number 4=row 5=k 6=left -/
def f_law_tables : Fn := { np := 2, n := 7, M := [], io := [], fresh := false, body := (.cons (.ife (.cmp .eq (.blt .len (.var 0)) (.int 0)) I_law_tables_2 .nil) (.cons (.asg 2 (.int 0)) (.cons (L_law_tables_1) (.cons (.ret (.var 2)) .nil)))) }
def I_law_1 : Mini.Ss := (.cons (.ret (.bl false)) .nil)
def I_law_2 : Mini.Ss := (.cons (.ret (.bl false)) .nil)
/-- law: slots 0=script 1=draws 2=rows 3=columns 4=due -/
def f_law : Fn := { np := 1, n := 5, M := [], io := [], fresh := false, body := (.cons (.asg 1 (.call 3 (.cons (.call 2 (.cons (.var 0) (.cons (.int 0) .nil))) (.cons (.int 50) .nil)))) (.cons (.unp [2, 3] (.call 6 (.cons (.var 1) .nil))) (.cons (.asg 4 (.call 7 (.cons (.var 2) (.cons (.var 3) .nil)))) (.cons (.ife (.or (.nt (.call 5 (.cons (.call 1 (.cons (.var 2) (.cons (.var 3) .nil))) (.cons (.var 4) .nil)))) (.nt (.call 5 (.cons (.call 1 (.cons (.var 3) (.cons (.var 2) .nil))) (.cons (.var 4) .nil))))) I_law_2 .nil) (.cons (.ife (.or (.nt (.call 5 (.cons (.call 1 (.cons (.rev (.var 2)) (.cons (.var 3) .nil))) (.cons (.var 4) .nil)))) (.nt (.call 5 (.cons (.call 1 (.cons (.var 2) (.cons (.rev (.var 3)) .nil))) (.cons (.var 4) .nil))))) I_law_1 .nil) (.cons (.ret (.and (.call 5 (.cons (.call 1 (.cons (.tup (.cons (.int 1) (.cons (.int 1) (.cons (.int 1) (.cons (.int 1) (.cons (.int 1) (.cons (.int 1) .nil))))))) (.cons (.tup (.cons (.int 1) (.cons (.int 1) (.cons (.int 1) (.cons (.int 1) (.cons (.int 1) (.cons (.int 1) .nil))))))) .nil))) (.cons (.int 720) .nil))) (.call 5 (.cons (.call 1 (.cons (.tup (.cons (.int 0) .nil)) (.cons (.tup (.cons (.int 1) .nil)) .nil))) (.cons (.int 0) .nil))))) .nil)))))) }
def tab : List Fn := [f_ways, f_count_tables, f_law_cell, f_law_draws, f_law_kind, f_law_equal, f_law_sums, f_law_tables, f_law]
abbrev i_ways : Nat := 0
abbrev i_count_tables : Nat := 1
abbrev i_law_cell : Nat := 2
abbrev i_law_draws : Nat := 3
abbrev i_law_kind : Nat := 4
abbrev i_law_equal : Nat := 5
abbrev i_law_sums : Nat := 6
abbrev i_law_tables : Nat := 7
abbrev i_law : Nat := 8
end Law

section
set_option maxRecDepth 100000
set_option maxHeartbeats 4000000
namespace Law
open Mini
theorem cell_ok (k : Nat) (ns : List Int) : ∃ n, callF tab (k + 1) 2 [.scr ns, .int 0] = some (.int n, []) := by
  cases ns with
  | nil => exact ⟨0, rfl⟩
  | cons n ns =>
    refine ⟨n, callF_io0 (d := f_law_cell) (ρ := [some (.scr (n :: ns)), some (.int 0)]) rfl rfl rfl ?_⟩
    simp [f_law_cell, I_law_cell_1, blt, idx, atI, ixN]
/-- ints drawn -/
def Drawn (ds : List Int) : Prop := ds.length = 50 ∧ ∀ d ∈ ds, 0 ≤ d ∧ d < 4096
theorem draws_a (T : List Fn) (cf : CFI) (c l : Int) (ds : List Int) (x4 x5) (h : ds.length < big) : execs T cf I_law_draws_1 [some (.int c), some (.int 50), some (.lst (ds.map .int)), some (.int l), x4, x5] = some ([some (.int c), some (.int 50), some (.lst ((ds ++ [l % 4096]).map .int)), some (.int (l / 4096)), x4, x5], .nx) := by
  simp [I_law_draws_1, h]
def mx1 (c i : Int) : Int := (c * 48271 + (i + 1) * 69621) % 2147483647
def mx2 (c i : Int) : Int := (mx1 c i * mx1 c i + mx1 c i * 16807 + i * 7919) % 2147483629
def mx3 (c i : Int) : Int := (mx2 c i * mx2 c i + c + 13 * i) % 2147483587
theorem mx1_s (c i : Int) : -1000000000000 < mx1 c i ∧ mx1 c i < 1000000000000 := by unfold mx1; omega
theorem mx2_s (c i : Int) : -1000000000000 < mx2 c i ∧ mx2 c i < 1000000000000 := by unfold mx2; omega
theorem draws_b (T : List Fn) (cf : CFI) (c l i : Int) (ds : List Int) (x5) (h : ds.length < big) : execs T cf I_law_draws_2 [some (.int c), some (.int 50), some (.lst (ds.map .int)), some (.int l), some (.int i), x5] = some ([some (.int c), some (.int 50), some (.lst ((ds ++ [mx3 c i / 7 % 4096]).map .int)), some (.int l), some (.int i), some (.int (mx3 c i))], .nx) := by
  have e1 : (c * 48271 + (i + 1) * 69621) % 2147483647 = mx1 c i := rfl
  have e2 : (mx1 c i * mx1 c i + mx1 c i * 16807 + i * 7919) % 2147483629 = mx2 c i := rfl
  have e3 : (mx2 c i * mx2 c i + c + 13 * i) % 2147483587 = mx3 c i := rfl
  simp [I_law_draws_2, h, e1, e2, e3, mx1_s, mx2_s]
theorem draws_ok (k : Nat) (c : Int) : ∃ ds, callF tab (k + 1) 3 [.int c, .int 50] = some (.lst (ds.map .int), []) ∧ Drawn ds := by
  have loop := forr_thru (T := tab) (cf := callF tab k) (tg := .one 4) (it := .rng (.var 1)) (b := B_law_draws_1) (ρ := [some (.int c), some (.int 50), some (.lst []), some (.int c), none, none])
    (ws := (List.range 50).map fun (i : Nat) => W.int (i : Int)) (fun i ρ => ∃ ds l x4 x5, ρ = [some (.int c), some (.int 50), some (.lst (ds.map .int)), some (.int l), x4, x5] ∧ ds.length = i ∧ ∀ d ∈ ds, 0 ≤ d ∧ d < 4096)
    (by simp; exact rangeW_nat (n := 50) (by decide)) ⟨[], c, none, none, rfl, rfl, fun _ h => by cases h⟩ (by
      rintro i w ρ hw ⟨ds, l, x4, x5, rfl, hl, hd⟩
      have hi : i < 50 := by simpa using (List.getElem?_eq_some_iff.mp hw).1
      have ew : w = .int (i : Int) := by
        rw [List.getElem?_map, List.getElem?_range hi] at hw
        exact (Option.some.inj hw).symm
      subst ew
      refine ⟨_, rfl, ?_⟩
      have hlen : ds.length < big := lt_big (by omega)
      by_cases h : 1000000000000000000 ≤ c ∧ 0 < l
      · refine ⟨[some (.int c), some (.int 50), some (.lst ((ds ++ [l % 4096]).map .int)), some (.int (l / 4096)), some (.int i), x5], ?_, ds ++ [l % 4096], _, _, _, rfl, by simp [hl], ?_⟩
        · have := draws_a tab (callF tab k) c l ds (some (.int i)) x5 hlen
          simp [B_law_draws_1, h.1, h.2] at this ⊢
          simp [this]
        · intro d hd'
          rcases List.mem_append.mp hd' with q | q
          · exact hd d q
          · rw [List.mem_singleton.mp q]
            omega
      · refine ⟨[some (.int c), some (.int 50), some (.lst ((ds ++ [mx3 c i / 7 % 4096]).map .int)), some (.int l), some (.int i), some (.int (mx3 c i))], ?_, ds ++ [mx3 c i / 7 % 4096], _, _, _, rfl, by simp [hl], ?_⟩
        · have := draws_b tab (callF tab k) c l i ds x5 hlen
          by_cases h1 : 1000000000000000000 ≤ c
          · have h2 : ¬ 0 < l := fun z => h ⟨h1, z⟩
            simp [B_law_draws_1, h1, h2] at this ⊢
            simp [this]
          · simp [B_law_draws_1, h1] at this ⊢
            simp [this]
        · intro d hd'
          rcases List.mem_append.mp hd' with q | q
          · exact hd d q
          · rw [List.mem_singleton.mp q]
            omega)
  obtain ⟨ρ', h1, ds, l, x4, x5, rfl, hl, hd⟩ := loop
  refine ⟨ds, callF_io0 (d := f_law_draws) rfl rfl rfl (ρ := [some (.int c), some (.int 50), some (.lst (ds.map .int)), some (.int l), x4, x5]) ?_, by simpa using hl, hd⟩
  have h1' : exec tab (callF tab k) L_law_draws_1 _ = _ := h1
  simp [f_law_draws, h1']
end Law

end

section
set_option maxRecDepth 100000
set_option maxHeartbeats 4000000
/-! K12m: the number of 0/1 tables with told sums, by rows; by columns; in another order. -/
namespace K12
/-- the sum over the rests of c behind a row with r ones -/
def T (r : Int) : List Int → (List Int → Int) → Int
  | [], f => if r = 0 then f [] else 0
  | c :: cs, f => (if 0 ≤ c then T r cs (fun x => f (c :: x)) else 0) + (if 1 ≤ c then T (r - 1) cs (fun x => f ((c - 1) :: x)) else 0)
def A : List Int → List Int → Int
  | [], c => if c.all (fun x => decide (x = 0)) then 1 else 0
  | r :: rs, c => T r c (A rs)
theorem T_add (f g : List Int → Int) : ∀ (c : List Int) (r : Int), T r c (fun x => f x + g x) = T r c f + T r c g
  | [], r => by
    simp only [T]
    split <;> simp
  | c :: cs, r => by
    simp only [T]
    rw [T_add (fun x => f (c :: x)) (fun x => g (c :: x)) cs r, T_add (fun x => f ((c - 1) :: x)) (fun x => g ((c - 1) :: x)) cs (r - 1)]
    split <;> split <;> omega
theorem T_zero : ∀ (c : List Int) (r : Int), T r c (fun _ => 0) = 0
  | [], r => by simp [T]
  | c :: cs, r => by
    simp only [T]
    rw [T_zero cs r, T_zero cs (r - 1)]
    simp
theorem T_neg (f : List Int → Int) : ∀ (c : List Int) (r : Int), r < 0 → T r c f = 0
  | [], r, h => by
    simp only [T]
    rw [if_neg (by omega)]
  | c :: cs, r, h => by
    simp only [T]
    rw [T_neg _ cs r h, T_neg _ cs (r - 1) (by omega)]
    simp
theorem T_if (p : Prop) [Decidable p] (f : List Int → Int) (c : List Int) (r : Int) : T r c (fun x => if p then f x else 0) = if p then T r c f else 0 := by
  split
  · rfl
  · exact T_zero c r
/-- two sums exchanged -/
theorem T_comm (c : Int) (rs : List Int) : ∀ (cs : List Int) (r : Int) (g : List Int → List Int → Int), T r cs (fun x => T c rs (fun y => g y x)) = T c rs (fun y => T r cs (fun x => g y x))
  | [], r, g => by
    simp only [T]
    rw [T_if]
  | d :: cs, r, g => by
    simp only [T]
    rw [T_comm c rs cs r (fun y x => g y (d :: x)), T_comm c rs cs (r - 1) (fun y x => g y ((d - 1) :: x)), T_add, T_if, T_if]
theorem A_col : ∀ (rows : List Int) (c : Int) (cs : List Int), A rows (c :: cs) = T c rows (fun rows' => A rows' cs)
  | [], c, cs => by
    simp only [A, T, List.all_cons]
    by_cases h : c = 0
    · simp [h]
    · simp [h]
  | r :: rs, c, cs => by
    have e1 : ∀ x, A rs (c :: x) = T c rs (fun rs' => A rs' x) := fun x => A_col rs c x
    have e2 : ∀ x, A rs ((c - 1) :: x) = T (c - 1) rs (fun rs' => A rs' x) := fun x => A_col rs (c - 1) x
    show T r (c :: cs) (A rs) = _
    simp only [T, e1, e2]
    rw [T_comm c rs cs r (fun y x => A y x), T_comm (c - 1) rs cs (r - 1) (fun y x => A y x)]
    show (if 0 ≤ c then T c rs (fun y => A (r :: y) cs) else 0) + (if 1 ≤ c then T (c - 1) rs (fun y => A ((r - 1) :: y) cs) else 0) = (if 0 ≤ r then T c rs (fun x => A (r :: x) cs) else 0) + (if 1 ≤ r then T (c - 1) rs (fun x => A ((r - 1) :: x) cs) else 0)
    have h1 : (if 0 ≤ c then T c rs (fun y => A (r :: y) cs) else 0) = if 0 ≤ r then T c rs (fun x => A (r :: x) cs) else 0 := by
      by_cases hc : 0 ≤ c
      · rw [if_pos hc]
        by_cases hr : 0 ≤ r
        · rw [if_pos hr]
        · rw [if_neg hr]
          have : (fun y => A (r :: y) cs) = fun _ => 0 := funext fun y => T_neg _ cs r (by omega)
          rw [this, T_zero]
      · rw [if_neg hc, T_neg _ rs c (by omega)]
        simp
    have h2 : (if 1 ≤ c then T (c - 1) rs (fun y => A ((r - 1) :: y) cs) else 0) = if 1 ≤ r then T (c - 1) rs (fun x => A ((r - 1) :: x) cs) else 0 := by
      by_cases hc : 1 ≤ c
      · rw [if_pos hc]
        by_cases hr : 1 ≤ r
        · rw [if_pos hr]
        · rw [if_neg hr]
          have : (fun y => A ((r - 1) :: y) cs) = fun _ => 0 := funext fun y => T_neg _ cs (r - 1) (by omega)
          rw [this, T_zero]
      · rw [if_neg hc, T_neg _ rs (c - 1) (by omega)]
        simp
    rw [h1, h2]
theorem A_nil : ∀ rows : List Int, A rows [] = A [] rows
  | [] => rfl
  | r :: rs => by
    show T r [] (A rs) = _
    simp only [T, A_nil rs]
    simp only [A, List.all_cons]
    by_cases h : r = 0
    · simp [h]
    · simp [h]
theorem A_symm : ∀ (cols rows : List Int), A rows cols = A cols rows
  | [], rows => A_nil rows
  | c :: cs, rows => by
    rw [A_col]
    have : (fun rows' => A rows' cs) = A cs := funext fun x => A_symm cs x
    rw [this]
    rfl
/-- two rows exchanged -/
theorem T_swap : ∀ (c : List Int) (r s : Int) (f : List Int → Int), T r c (fun x => T s x f) = T s c (fun x => T r x f)
  | [], r, s, f => by
    simp only [T]
    split <;> split <;> simp
  | c :: cs, r, s, f => by
    simp only [T]
    rw [T_add, T_add, T_add, T_add, T_if, T_if, T_if, T_if, T_if, T_if, T_if, T_if, T_swap cs r s, T_swap cs r (s - 1), T_swap cs (r - 1) s, T_swap cs (r - 1) (s - 1)]
    by_cases h0 : 0 ≤ c <;> by_cases h1 : 1 ≤ c <;> by_cases h2 : 1 ≤ c - 1 <;> by_cases h3 : 0 ≤ c - 1 <;> simp only [h0, h1, h2, h3, if_true, if_false] <;> omega
theorem A_perm {rows rows' : List Int} (h : rows.Perm rows') : ∀ c, A rows c = A rows' c := by
  induction h with
  | nil => exact fun c => rfl
  | cons x _ ih =>
    intro c
    show T x c _ = T x c _
    rw [funext ih]
  | swap x y l =>
    intro c
    show T y c (fun z => T x z (A l)) = T x c (fun z => T y z (A l))
    exact T_swap c y x _
  | trans _ _ ih1 ih2 => exact fun c => (ih1 c).trans (ih2 c)
/-- the sums of the rows and of the columns are the same -/
theorem T_sum (n : Int) (f : List Int → Int) (hf : ∀ x, x.sum ≠ n → f x = 0) : ∀ (c : List Int) (r : Int) (g : List Int → Int) (m : Int), (∀ x, g x = f x) → c.sum ≠ n + r → T r c g = 0 := by
  have key : ∀ (c : List Int) (r m : Int) (g : List Int → Int), (∀ x, x.sum ≠ m → g x = 0) → c.sum ≠ m + r → T r c g = 0 := by
    intro c
    induction c with
    | nil =>
      intro r m g hg h
      simp only [T]
      split
      · exact hg [] (by simp at h ⊢; omega)
      · rfl
    | cons d cs ih =>
      intro r m g hg h
      rw [List.sum_cons] at h
      simp only [T]
      rw [ih r (m - d) (fun x => g (d :: x)) (fun x hx => hg _ (by rw [List.sum_cons]; omega)) (by omega), ih (r - 1) (m - (d - 1)) (fun x => g ((d - 1) :: x)) (fun x hx => hg _ (by rw [List.sum_cons]; omega)) (by omega)]
      simp
  intro c r g m hg h
  exact key c r n g (fun x hx => by rw [hg]; exact hf x hx) h
theorem A_sum : ∀ (rows c : List Int), c.sum ≠ rows.sum → A rows c = 0
  | [], c, h => by
    simp only [A]
    rw [if_neg]
    intro q
    refine h ?_
    have : ∀ l : List Int, (l.all fun x => decide (x = 0)) = true → l.sum = 0 := by
      intro l
      induction l with
      | nil => intro _; rfl
      | cons x l ih =>
        intro hl
        rw [List.all_cons, Bool.and_eq_true] at hl
        rw [List.sum_cons, ih hl.2, of_decide_eq_true hl.1]
        rfl
    rw [this c q]
    rfl
  | r :: rs, c, h => T_sum rs.sum (A rs) (fun x hx => A_sum rs x hx) c r (A rs) 0 (fun _ => rfl) (by rw [List.sum_cons] at h; omega)
end K12

end

section
set_option maxRecDepth 100000
set_option maxHeartbeats 4000000
namespace Law
open Mini
def expand (c : Int) (fd : List (List Int)) : List (List Int) := fd.flatMap fun row => [0, 1].filterMap fun one => if one ≤ c then some (row ++ [c - one]) else none
theorem expand_len (c : Int) : ∀ fd : List (List Int), (expand c fd).length ≤ 2 * fd.length
  | [] => Nat.le_refl _
  | r :: fd => by
    have ih := expand_len c fd
    unfold expand at ih ⊢
    rw [List.flatMap_cons, List.length_append, List.length_cons]
    have : ([0, 1].filterMap fun one => if one ≤ c then some (r ++ [c - one]) else none).length ≤ 2 := List.length_filterMap_le _ _
    omega
theorem expand_ok (cf : CF) (m l : Option W) (fd : List (List Int)) (c : Int) (x4 x5) (hr : ∀ r ∈ fd, r.length ≤ 1000) (hl : fd.length ≤ 1000) : evalE cf C_ways_2 [m, l, some (.lst (fd.map tupI)), some (.int c), x4, x5] = some (.lst ((expand c fd).map tupI)) := by
  have hlen : (expand c fd).length ≤ 2000 := by
    have := expand_len c fd
    omega
  rw [C_ways_2, ev_lc2]
  simp only [ev_seq, ev_var, getv_zero, getv_succ, Option.bind_some, seq?_lst]
  rw [lc2Go_map (g := fun row => ([0, 1].filterMap fun one => if one ≤ c then some (row ++ [c - one]) else none).map tupI)]
  · have : (fd.flatMap fun row => ([0, 1].filterMap fun one => if one ≤ c then some (row ++ [c - one]) else none).map tupI) = (expand c fd).map tupI := by
      unfold expand
      rw [List.map_flatMap]
    rw [Option.bind_some, this, guard_ok (by rw [List.length_map]; exact le_big (by omega))]
    rfl
  · intro row hrow
    have h1 := hr row hrow
    have ea : ∀ z : Int, bin .add (tupI row) (.tup [.int z]) = some (tupI (row ++ [z])) := fun z => add_tupI (xs := row) (ys := [z]) (by simp; omega)
    by_cases c0 : 0 ≤ c <;> by_cases c1 : 1 ≤ c <;> simp [lcGo, ea, c0, c1] <;> omega
theorem expand_row {c : Int} {fd : List (List Int)} {n : Nat} (h : ∀ r ∈ fd, r.length = n) : ∀ r ∈ expand c fd, r.length = n + 1 := by
  intro r hr
  obtain ⟨q, hq, hr⟩ := List.mem_flatMap.mp hr
  obtain ⟨one, _, e⟩ := List.mem_filterMap.mp hr
  split at e
  · cases e
    rw [List.length_append, h q hq]
    rfl
  · cases e
def grown (left : List Int) : List (List Int) := left.foldl (fun fd c => expand c fd) [[]]
def waysP (many : Int) (left : List Int) : List (List Int) := (grown left).filter fun row => decide (left.sum - row.sum = many)
theorem grown_take {left : List Int} {i : Nat} {c : Int} (h : left[i]? = some c) : grown (left.take (i + 1)) = expand c (grown (left.take i)) := by
  unfold grown
  rw [List.take_add_one, h]
  simp
theorem grown_len (left : List Int) : ∀ i, (grown (left.take i)).length ≤ 2 ^ i
  | 0 => by simp [grown]
  | i + 1 => by
    cases h : left[i]? with
    | none =>
      have : left.take (i + 1) = left.take i := by rw [List.take_add_one, h]; simp
      rw [this]
      have := grown_len left i
      rw [Nat.pow_succ]
      omega
    | some c =>
      rw [grown_take h, Nat.pow_succ]
      have h1 := expand_len c (grown (left.take i))
      have h2 := grown_len left i
      omega
theorem grown_row (left : List Int) : ∀ i, i ≤ left.length → ∀ r ∈ grown (left.take i), r.length = i
  | 0, _ => by simp [grown]
  | i + 1, hi => by
    rw [grown_take (List.getElem?_eq_getElem (by omega))]
    exact expand_row (grown_row left i (by omega))
theorem ways_c (cf : CF) (m : Int) (left : List Int) (fd : List (List Int)) (x3 x4 x5) (hl : fd.length ≤ 1000) : evalE cf C_ways_1 [some (.int m), some (tupI left), some (.lst (fd.map tupI)), x3, x4, x5] = some (.lst ((fd.filter fun row => decide (left.sum - row.sum = m)).map tupI)) := by
  rw [C_ways_1, ev_lc]
  simp only [ev_seq, ev_var, getv_zero, getv_succ, Option.bind_some, seq?_lst]
  rw [lcGo_map (g := fun row => if left.sum - row.sum = m then some (tupI row) else none)]
  · have : (fd.filterMap fun row => if left.sum - row.sum = m then some (tupI row) else none) = (fd.filter fun row => decide (left.sum - row.sum = m)).map tupI := by
      induction fd with
      | nil => rfl
      | cons r fd ih =>
        rw [List.length_cons] at hl
        rw [List.filterMap_cons, List.filter_cons, ih (by omega)]
        by_cases h : left.sum - r.sum = m <;> simp [h]
    rw [Option.bind_some, this, guard_ok (by rw [List.length_map]; exact le_big (Nat.le_trans (List.length_filter_le _ _) (by omega)))]
    rfl
  · intro row hrow
    by_cases h : left.sum - row.sum = m <;> simp [h]
theorem ways_ok (k : Nat) (m : Int) (left : List Int) (h6 : left.length ≤ 6) : callF tab (k + 1) 0 [.int m, tupI left] = some (.lst ((waysP m left).map tupI), []) := by
  have h64 : ∀ i, i ≤ left.length → (grown (left.take i)).length ≤ 64 := fun i hi => by
    have h1 := grown_len left i
    have h2 : 2 ^ i ≤ 2 ^ 6 := Nat.pow_le_pow_right (by omega) (by omega)
    omega
  have loop := forr_thru (T := tab) (cf := callF tab k) (tg := .one 3) (it := .seq (.var 1)) (b := B_ways_1) (ρ := [some (.int m), some (tupI left), some (.lst [tupI []]), none, none, none]) (ws := left.map .int)
    (fun i ρ => ∃ x3, ρ = [some (.int m), some (tupI left), some (.lst ((grown (left.take i)).map tupI)), x3, none, none]) (by simp) ⟨none, rfl⟩ (by
      rintro i w ρ hw ⟨x3, rfl⟩
      rw [List.getElem?_map] at hw
      obtain ⟨c, hc, rfl⟩ := Option.map_eq_some_iff.mp hw
      have hi : i < left.length := (List.getElem?_eq_some_iff.mp hc).1
      refine ⟨_, rfl, [some (.int m), some (tupI left), some (.lst ((grown (left.take (i + 1))).map tupI)), some (.int c), none, none], ?_, _, rfl⟩
      rw [grown_take hc]
      have := expand_ok (purely tab (callF tab k)) (some (.int m)) (some (tupI left)) (grown (left.take i)) c none none (fun r hr => by rw [grown_row left i (by omega) r hr]; omega) (by have := h64 i (by omega); omega)
      simp [B_ways_1, this])
  obtain ⟨ρ', h1, x3, rfl⟩ := loop
  refine callF_io0 (d := f_ways) rfl rfl rfl (ρ := [some (.int m), some (tupI left), some (.lst ((grown left).map tupI)), x3, none, none]) ?_
  rw [List.length_map, List.take_length] at h1
  have h1' : exec tab (callF tab k) L_ways_1 _ = _ := h1
  have h2 := ways_c (purely tab (callF tab k)) m left (grown left) x3 none none (by have := h64 left.length (Nat.le_refl _); rw [List.take_length] at this; omega)
  have e0 : W.tup [] = tupI [] := rfl
  simp [f_ways, e0, h1', h2, waysP]
/-! ### the sum over the ways -/
def U : List Int → (List Int → Int) → Int
  | [], f => f []
  | c :: cs, f => (if 0 ≤ c then U cs (fun x => f (c :: x)) else 0) + (if 1 ≤ c then U cs (fun x => f ((c - 1) :: x)) else 0)
theorem sum_expand (c : Int) (f : List Int → Int) : ∀ fd : List (List Int), ((expand c fd).map f).sum = (fd.map fun r => (if 0 ≤ c then f (r ++ [c]) else 0) + (if 1 ≤ c then f (r ++ [c - 1]) else 0)).sum
  | [] => rfl
  | r :: fd => by
    have ih := sum_expand c f fd
    unfold expand at ih ⊢
    rw [List.flatMap_cons, List.map_append, List.sum_append, ih, List.map_cons, List.sum_cons]
    by_cases h0 : 0 ≤ c <;> by_cases h1 : 1 ≤ c <;> simp [h0, h1]
theorem sum_grown (f : List Int → Int) : ∀ (left : List Int) (fd : List (List Int)), ((left.foldl (fun fd c => expand c fd) fd).map f).sum = (fd.map fun r => U left (fun x => f (r ++ x))).sum
  | [], fd => by simp [U]
  | c :: left, fd => by
    rw [List.foldl_cons, sum_grown f left, sum_expand]
    congr 1
    refine List.map_congr_left fun r _ => ?_
    simp [U]
theorem U_T (r : Int) : ∀ (c : List Int) (f : List Int → Int) (n : Int), U c (fun x => if c.sum + n - x.sum = r then f x else 0) = K12.T (r - n) c f
  | [], f, n => by
    simp only [U, K12.T]
    by_cases h : r = n
    · simp [h]
    · rw [if_neg (by simp; omega), if_neg (by omega)]
  | c :: cs, f, n => by
    simp only [U, K12.T]
    have e1 := U_T r cs (fun x => f (c :: x)) n
    have e2 := U_T r cs (fun x => f ((c - 1) :: x)) (n + 1)
    have s1 : (fun x : List Int => if (c :: cs).sum + n - (c :: x).sum = r then f (c :: x) else 0) = fun x => if cs.sum + n - x.sum = r then f (c :: x) else 0 := by
      funext x
      rw [List.sum_cons, List.sum_cons]
      congr 1
      exact propext ⟨fun h => by omega, fun h => by omega⟩
    have s2 : (fun x : List Int => if (c :: cs).sum + n - ((c - 1) :: x).sum = r then f ((c - 1) :: x) else 0) = fun x => if cs.sum + (n + 1) - x.sum = r then f ((c - 1) :: x) else 0 := by
      funext x
      rw [List.sum_cons, List.sum_cons]
      congr 1
      exact propext ⟨fun h => by omega, fun h => by omega⟩
    rw [s1, s2, e1, e2, show r - (n + 1) = r - n - 1 by omega]
theorem sum_filter (p : List Int → Bool) (f : List Int → Int) : ∀ l : List (List Int), ((l.filter p).map f).sum = (l.map fun x => if p x = true then f x else 0).sum
  | [] => rfl
  | x :: l => by
    rw [List.filter_cons]
    by_cases h : p x = true
    · simp [h, sum_filter p f l]
    · simp [h, sum_filter p f l]
theorem sum_ways (r : Int) (c : List Int) (f : List Int → Int) : ((waysP r c).map f).sum = K12.T r c f := by
  unfold waysP grown
  rw [sum_filter, sum_grown]
  have := U_T r c f 0
  simp only [Int.add_zero, Int.sub_zero] at this
  simp only [List.map_cons, List.map_nil, List.sum_cons, List.sum_nil, Int.add_zero, List.nil_append, decide_eq_true_eq]
  exact this
end Law

end

section
set_option maxRecDepth 100000
set_option maxHeartbeats 4000000
namespace Law
open Mini
abbrev Dc := List (List Int × Int)
def val (d : Dc) (f : List Int → Int) : Int := (d.map fun kv => kv.2 * f kv.1).sum
def keysD (d : Dc) : List (List Int) := d.map (·.1)
def add1 (v : Int) (d : Dc) (row : List Int) : Dc := dPut d row ((dGet d row).getD 0 + v)
theorem put_hit {d : Dc} {k : List Int} {x : Int} {kv : List Int × Int} (h : kv.1 = k) (hn : k ∉ keysD d) : dPut (kv :: d) k x = (k, x) :: d := by
  unfold dPut
  rw [List.any_cons, decide_eq_true h, Bool.true_or, if_pos rfl, List.map_cons, if_pos h, h]
  congr 1
  refine (List.map_congr_left fun p hp => ?_).trans (List.map_id _)
  rw [if_neg]
  · rfl
  · exact fun z => hn (z ▸ List.mem_map_of_mem hp)
theorem put_miss {d : Dc} {k : List Int} {x : Int} {kv : List Int × Int} (h : kv.1 ≠ k) : dPut (kv :: d) k x = kv :: dPut d k x := by
  unfold dPut
  rw [List.any_cons, decide_eq_false h, Bool.false_or]
  split
  · rw [List.map_cons, if_neg h]
  · rfl
theorem get_hit {d : Dc} {k : List Int} {kv : List Int × Int} (h : kv.1 = k) : dGet (kv :: d) k = some kv.2 := by
  unfold dGet
  rw [List.find?_cons, decide_eq_true h]
  rfl
theorem get_miss {d : Dc} {k : List Int} {kv : List Int × Int} (h : kv.1 ≠ k) : dGet (kv :: d) k = dGet d k := by
  unfold dGet
  rw [List.find?_cons, decide_eq_false h]
theorem get_mem : ∀ {d : Dc} {kv : List Int × Int}, (keysD d).Nodup → kv ∈ d → dGet d kv.1 = some kv.2
  | p :: d, kv, hn, hm => by
    unfold keysD at hn
    rw [List.map_cons, List.nodup_cons] at hn
    rcases List.mem_cons.mp hm with rfl | hm
    · exact get_hit rfl
    · rw [get_miss fun z => hn.1 (z ▸ List.mem_map_of_mem hm)]
      exact get_mem hn.2 hm
theorem get_none : ∀ {d : Dc} {k : List Int}, k ∉ keysD d → dGet d k = none
  | [], _, _ => rfl
  | p :: d, k, h => by
    unfold keysD at h
    rw [List.map_cons, List.mem_cons, not_or] at h
    rw [get_miss (Ne.symm h.1)]
    exact get_none h.2
theorem val_add1 (f : List Int → Int) (v : Int) (k : List Int) : ∀ {d : Dc}, (keysD d).Nodup → val (add1 v d k) f = val d f + v * f k
  | [], _ => by simp [add1, dPut, dGet, val]
  | kv :: d, hn => by
    unfold keysD at hn
    rw [List.map_cons, List.nodup_cons] at hn
    unfold add1
    by_cases h : kv.1 = k
    · rw [get_hit h, put_hit h (h ▸ hn.1)]
      simp only [val, List.map_cons, List.sum_cons, Option.getD_some, h, Int.add_mul]
      omega
    · rw [get_miss h, put_miss h]
      have ih := val_add1 f v k hn.2
      unfold add1 at ih
      simp only [val, List.map_cons, List.sum_cons] at ih ⊢
      omega
theorem keys_put (k : List Int) (x : Int) : ∀ d : Dc, keysD (dPut d k x) = if k ∈ keysD d then keysD d else keysD d ++ [k]
  | [] => rfl
  | kv :: d => by
    have ih := keys_put k x d
    by_cases h : kv.1 = k
    · by_cases hk : k ∈ keysD d
      · have : keysD (dPut (kv :: d) k x) = keysD (kv :: d) := by
          unfold dPut keysD
          rw [if_pos (by rw [List.any_cons, decide_eq_true h, Bool.true_or]), List.map_map]
          refine List.map_congr_left fun p _ => ?_
          show (if p.1 = k then (p.1, x) else p).1 = p.1
          split <;> rfl
        rw [this, if_pos (by unfold keysD; rw [List.map_cons]; exact List.mem_cons.mpr (.inl h.symm))]
      · rw [put_hit h hk, if_pos (by unfold keysD; rw [List.map_cons]; exact List.mem_cons.mpr (.inl h.symm))]
        unfold keysD
        rw [List.map_cons, List.map_cons, h]
    · rw [put_miss h]
      unfold keysD at ih ⊢
      rw [List.map_cons, ih, List.map_cons]
      by_cases hk : k ∈ d.map (·.1)
      · rw [if_pos hk, if_pos (List.mem_cons_of_mem _ hk)]
      · rw [if_neg hk, if_neg]
        · rfl
        · rw [List.mem_cons, not_or]
          exact ⟨Ne.symm h, hk⟩
/-- what is kept of a dict of rests -/
def DOk (P : List Int → Prop) (d : Dc) : Prop := (keysD d).Nodup ∧ ∀ k ∈ keysD d, P k
theorem DOk.add {P : List Int → Prop} {d : Dc} (h : DOk P d) {k : List Int} (hk : P k) (v : Int) : DOk P (add1 v d k) := by
  unfold add1 DOk
  rw [keys_put]
  split
  · exact h
  · rename_i hn
    refine ⟨List.nodup_append.mpr ⟨h.1, by simp, fun a ha b hb => ?_⟩, fun q hq => ?_⟩
    · rw [List.mem_singleton.mp hb]
      exact fun z => hn (z ▸ ha)
    · rcases List.mem_append.mp hq with hq | hq
      · exact h.2 q hq
      · rw [List.mem_singleton.mp hq]
        exact hk
def addAll (v : Int) (d : Dc) (rows : List (List Int)) : Dc := rows.foldl (add1 v) d
theorem addAll_ok {P : List Int → Prop} (v : Int) : ∀ {rows : List (List Int)} {d : Dc}, DOk P d → (∀ r ∈ rows, P r) → DOk P (addAll v d rows)
  | [], d, h, _ => h
  | r :: rows, d, h, hr => addAll_ok v (rows := rows) (d := add1 v d r) (h.add (hr r List.mem_cons_self) v) fun q hq => hr q (List.mem_cons_of_mem _ hq)
theorem val_addAll {P : List Int → Prop} (f : List Int → Int) (v : Int) : ∀ {rows : List (List Int)} {d : Dc}, DOk P d → (∀ r ∈ rows, P r) → val (addAll v d rows) f = val d f + v * (rows.map f).sum
  | [], d, _, _ => by simp [addAll]
  | r :: rows, d, h, hr => by
    have ih := val_addAll f v (rows := rows) (h.add (hr r List.mem_cons_self) v) fun q hq => hr q (List.mem_cons_of_mem _ hq)
    show val (addAll v (add1 v d r) rows) f = _
    rw [ih, val_add1 f v r h.1, List.map_cons, List.sum_cons, Int.mul_add]
    omega
def mid (m : Int) (d : Dc) (known : Dc) : Dc := known.foldl (fun d kv => addAll kv.2 d (waysP m kv.1)) d
theorem mid_ok {P : List Int → Prop} (m : Int) : ∀ {known d : Dc}, DOk P d → (∀ kv ∈ known, ∀ r ∈ waysP m kv.1, P r) → DOk P (mid m d known)
  | [], d, h, _ => h
  | kv :: known, d, h, hr => mid_ok m (known := known) (d := addAll kv.2 d (waysP m kv.1)) (addAll_ok kv.2 h (hr kv List.mem_cons_self)) fun q hq => hr q (List.mem_cons_of_mem _ hq)
theorem val_mid {P : List Int → Prop} (m : Int) (f : List Int → Int) : ∀ {known d : Dc}, DOk P d → (∀ kv ∈ known, ∀ r ∈ waysP m kv.1, P r) → val (mid m d known) f = val d f + val known (fun x => K12.T m x f)
  | [], d, _, _ => by simp [mid, val]
  | kv :: known, d, h, hr => by
    have ih := val_mid m f (known := known) (addAll_ok kv.2 h (hr kv List.mem_cons_self)) fun q hq => hr q (List.mem_cons_of_mem _ hq)
    show val (mid m (addAll kv.2 d (waysP m kv.1)) known) f = _
    rw [ih, val_addAll f kv.2 h (hr kv List.mem_cons_self), sum_ways]
    simp only [val, List.map_cons, List.sum_cons]
    omega
/-- in the box below c: each entry at most n less -/
def InB (n : Nat) : List Int → List Int → Prop
  | [], [] => True
  | c :: cs, x :: xs => (c - n ≤ x ∧ x ≤ c) ∧ InB n cs xs
  | _, _ => False
theorem InB.refl (n : Nat) : ∀ c : List Int, InB n c c
  | [] => trivial
  | c :: cs => ⟨by omega, InB.refl n cs⟩
theorem InB.len {n : Nat} : ∀ {c x : List Int}, InB n c x → x.length = c.length
  | [], [], _ => rfl
  | [], _ :: _, h => h.elim
  | _ :: _, [], h => h.elim
  | c :: cs, x :: xs, h => by rw [List.length_cons, List.length_cons, h.2.len]
theorem InB.step {n : Nat} : ∀ {c x y : List Int}, InB n c x → InB 1 x y → InB (n + 1) c y
  | [], [], [], _, _ => trivial
  | [], _ :: _, _, h, _ => h.elim
  | _ :: _, [], _, h, _ => h.elim
  | c :: cs, x :: xs, [], _, h => h.elim
  | [], [], _ :: _, _, h => h.elim
  | c :: cs, x :: xs, y :: ys, h, g => ⟨by have := h.1; have := g.1; omega, h.2.step g.2⟩
theorem InB.snoc {n : Nat} {a b : Int} (h : a - n ≤ b ∧ b ≤ a) : ∀ {c x : List Int}, InB n c x → InB n (c ++ [a]) (x ++ [b])
  | [], [], _ => ⟨h, trivial⟩
  | [], _ :: _, q => q.elim
  | _ :: _, [], q => q.elim
  | c :: cs, x :: xs, q => ⟨q.1, InB.snoc h q.2⟩
theorem grown_inb : ∀ (left : List Int) (fd : List (List Int)) (pre : List Int), (∀ r ∈ fd, InB 1 pre r) → ∀ r ∈ left.foldl (fun fd c => expand c fd) fd, InB 1 (pre ++ left) r
  | [], fd, pre, h, r, hr => by rw [List.append_nil]; exact h r hr
  | c :: left, fd, pre, h, r, hr => by
    have := grown_inb left (expand c fd) (pre ++ [c]) (fun q hq => by
      obtain ⟨s, hs, hq⟩ := List.mem_flatMap.mp hq
      obtain ⟨one, ho, e⟩ := List.mem_filterMap.mp hq
      split at e
      · cases e
        refine (h s hs).snoc ?_
        simp only [List.mem_cons, List.not_mem_nil, or_false] at ho
        omega
      · cases e) r hr
    rw [List.append_assoc] at this
    exact this
theorem ways_inb {m : Int} {left r : List Int} (h : r ∈ waysP m left) : InB 1 left r := by
  have := grown_inb left [[]] [] (fun r hr => by rw [List.mem_singleton.mp hr]; exact trivial) r (List.mem_filter.mp h).1
  exact this
def box (n : Nat) : List Int → List (List Int)
  | [] => [[]]
  | c :: cs => (List.range (n + 1)).flatMap fun (j : Nat) => (box n cs).map fun xs => (c - (j : Int)) :: xs
theorem box_len (n : Nat) : ∀ c : List Int, (box n c).length = (n + 1) ^ c.length
  | [] => rfl
  | c :: cs => by
    unfold box
    rw [List.length_flatMap]
    simp only [List.length_map, box_len n cs]
    rw [List.map_const', List.sum_replicate_nat, List.length_range, List.length_cons, Nat.pow_succ, Nat.mul_comm]
theorem inb_box {n : Nat} : ∀ {c x : List Int}, InB n c x → x ∈ box n c
  | [], [], _ => List.mem_singleton.mpr rfl
  | [], _ :: _, h => h.elim
  | _ :: _, [], h => h.elim
  | c :: cs, x :: xs, h => by
    refine List.mem_flatMap.mpr ⟨(c - x).toNat, List.mem_range.mpr (by have := h.1; omega), List.mem_map.mpr ⟨xs, inb_box h.2, ?_⟩⟩
    have := h.1
    congr 1
    omega
theorem nodup_le {α : Type} [DecidableEq α] : ∀ {l m : List α}, l.Nodup → (∀ x ∈ l, x ∈ m) → l.length ≤ m.length
  | [], m, _, _ => Nat.zero_le _
  | x :: l, m, hn, hs => by
    rw [List.nodup_cons] at hn
    have hx := hs x List.mem_cons_self
    have ih := nodup_le (m := m.erase x) hn.2 fun y hy => (List.mem_erase_of_ne fun z : y = x => hn.1 (z ▸ hy)).mpr (hs y (List.mem_cons_of_mem _ hy))
    rw [List.length_erase_of_mem hx] at ih
    have := List.length_pos_of_mem hx
    rw [List.length_cons]
    omega
theorem DOk.len {n : Nat} {c : List Int} {d : Dc} (h : DOk (InB n c) d) (hn : n ≤ 6) (hc : c.length ≤ 6) : d.length ≤ 1000000 := by
  have h1 := nodup_le h.1 fun x hx => inb_box (h.2 x hx)
  rw [box_len] at h1
  have h2 : (n + 1) ^ c.length ≤ 7 ^ 6 := Nat.le_trans (Nat.pow_le_pow_left (by omega) _) (Nat.pow_le_pow_right (by omega) hc)
  have h3 : (keysD d).length = d.length := List.length_map ..
  have h4 : (7 : Nat) ^ 6 = 117649 := by decide
  omega
end Law

end

section
set_option maxRecDepth 100000
set_option maxHeartbeats 4000000
namespace Law
open Mini
theorem addAll_take {v : Int} {d : Dc} {rows : List (List Int)} {i : Nat} {r : List Int} (h : rows[i]? = some r) : addAll v d (rows.take (i + 1)) = add1 v (addAll v d (rows.take i)) r := by
  unfold addAll
  rw [List.take_add_one, h]
  simp
theorem mem_take {α : Type} {l : List α} {i : Nat} {x : α} (h : x ∈ l.take i) : x ∈ l := List.mem_of_mem_take h
theorem inner_ok (k : Nat) {P : List Int → Prop} (hb : ∀ d, DOk P d → d.length ≤ 1000000) (r c : Option W) (known after : Dc) (m v : Int) (left : List Int) (x6 : Option W) (hv : dGet known left = some v) (h6 : left.length ≤ 6) (ha : DOk P after) (hw : ∀ q ∈ waysP m left, P q) :
    ∃ y6, exec tab (callF tab (k + 1)) L_count_tables_1 [r, c, some (.dct known), some (.int m), some (.dct after), some (tupI left), x6] = some ([r, c, some (.dct known), some (.int m), some (.dct (addAll v after (waysP m left))), some (tupI left), y6], .nx) := by
  have hc : purely tab (callF tab (k + 1)) 0 [.int m, tupI left] = some (.lst ((waysP m left).map tupI)) := purely_ok (d := f_ways) rfl rfl (ways_ok k m left h6)
  have loop := forr_thru (T := tab) (cf := callF tab (k + 1)) (tg := .one 6) (it := .seq (.call 0 (.cons (.var 3) (.cons (.var 5) .nil)))) (b := B_count_tables_1) (ρ := [r, c, some (.dct known), some (.int m), some (.dct after), some (tupI left), x6]) (ws := (waysP m left).map tupI)
    (fun i ρ => ∃ y6, ρ = [r, c, some (.dct known), some (.int m), some (.dct (addAll v after ((waysP m left).take i))), some (tupI left), y6]) (by simp [hc]) ⟨x6, rfl⟩ (by
      rintro i w ρ hwi ⟨y6, rfl⟩
      rw [List.getElem?_map] at hwi
      obtain ⟨q, hq, rfl⟩ := Option.map_eq_some_iff.mp hwi
      refine ⟨_, rfl, [r, c, some (.dct known), some (.int m), some (.dct (addAll v after ((waysP m left).take (i + 1)))), some (tupI left), some (tupI q)], ?_, _, rfl⟩
      rw [addAll_take hq]
      have hd : DOk P (addAll v after ((waysP m left).take i)) := addAll_ok v ha fun z hz => hw z (mem_take hz)
      have hl := hb _ hd
      generalize addAll v after ((waysP m left).take i) = d at hd hl
      have e1 : dgetW (tupI q) (.int 0) (.dct d) = some (.int ((dGet d q).getD 0)) := by
        simp only [dgetW, key?_tupI, Option.map_some]
        cases dGet d q <;> rfl
      have e2 : Mini.idx (.dct known) (tupI left) = some (.int v) := by
        show ((tupI left).key?).bind (fun ks => (dGet known ks).map W.int) = _
        rw [key?_tupI, Option.bind_some, hv]
        rfl
      have e3 : setAt (.dct d) (tupI q) (.int ((dGet d q).getD 0 + v)) = some (.dct (add1 v d q)) := by
        simp only [setAt, key?_tupI, int?_int, Option.bind_some, add1]
        rw [if_pos (lt_big hl)]
      simp [B_count_tables_1, e1, e2, e3])
  obtain ⟨ρ', h1, y6, rfl⟩ := loop
  refine ⟨y6, ?_⟩
  rw [List.length_map, List.take_length] at h1
  exact h1
theorem mid_take {m : Int} {d known : Dc} {i : Nat} {kv : List Int × Int} (h : known[i]? = some kv) : mid m d (known.take (i + 1)) = addAll kv.2 (mid m d (known.take i)) (waysP m kv.1) := by
  unfold mid
  rw [List.take_add_one, h]
  simp
theorem midl_ok (k : Nat) {P : List Int → Prop} (hb : ∀ d, DOk P d → d.length ≤ 1000000) (r c : Option W) (known : Dc) (m : Int) (x5 x6 : Option W) (hn : (keysD known).Nodup) (h6 : ∀ kv ∈ known, kv.1.length ≤ 6) (hw : ∀ kv ∈ known, ∀ q ∈ waysP m kv.1, P q) :
    ∃ y5 y6, exec tab (callF tab (k + 1)) L_count_tables_2 [r, c, some (.dct known), some (.int m), some (.dct []), x5, x6] = some ([r, c, some (.dct known), some (.int m), some (.dct (mid m [] known)), y5, y6], .nx) := by
  have nil0 : DOk P [] := ⟨List.nodup_nil, fun _ h => by cases h⟩
  have loop := forr_thru (T := tab) (cf := callF tab (k + 1)) (tg := .one 5) (it := .keys (.var 2)) (b := B_count_tables_2) (ρ := [r, c, some (.dct known), some (.int m), some (.dct []), x5, x6]) (ws := known.map fun kv => W.tup (kv.1.map .int))
    (fun i ρ => ∃ y5 y6, ρ = [r, c, some (.dct known), some (.int m), some (.dct (mid m [] (known.take i))), y5, y6]) (by simp) ⟨x5, x6, rfl⟩ (by
      rintro i w ρ hwi ⟨y5, y6, rfl⟩
      rw [List.getElem?_map] at hwi
      obtain ⟨kv, hq, rfl⟩ := Option.map_eq_some_iff.mp hwi
      have hm : kv ∈ known := List.mem_of_getElem? hq
      have hd : DOk P (mid m [] (known.take i)) := mid_ok m nil0 fun z hz => hw z (mem_take hz)
      obtain ⟨z6, e⟩ := inner_ok k hb r c known (mid m [] (known.take i)) m kv.2 kv.1 y6 (get_mem hn hm) (h6 kv hm) hd (hw kv hm)
      refine ⟨_, rfl, [r, c, some (.dct known), some (.int m), some (.dct (mid m [] (known.take (i + 1)))), some (tupI kv.1), z6], ?_, _, _, rfl⟩
      rw [mid_take hq]
      have e0 : W.tup (kv.1.map .int) = tupI kv.1 := rfl
      simp [B_count_tables_2, e0, e])
  obtain ⟨ρ', h1, y5, y6, rfl⟩ := loop
  refine ⟨y5, y6, ?_⟩
  rw [List.length_map, List.take_length] at h1
  exact h1
def stepsD (rows : List Int) (cols : List Int) : Dc := rows.foldl (fun kn m => mid m [] kn) [(cols, 1)]
theorem stepsD_take {rows cols : List Int} {i : Nat} {m : Int} (h : rows[i]? = some m) : stepsD (rows.take (i + 1)) cols = mid m [] (stepsD (rows.take i) cols) := by
  unfold stepsD
  rw [List.take_add_one, h]
  simp
theorem stepsD_ok (rows cols : List Int) : ∀ i, i ≤ rows.length → DOk (InB i cols) (stepsD (rows.take i) cols)
  | 0, _ => by
    refine ⟨by simp [stepsD, keysD], fun q hq => ?_⟩
    simp [stepsD, keysD] at hq
    rw [hq]
    exact InB.refl 0 cols
  | i + 1, hi => by
    have ih := stepsD_ok rows cols i (by omega)
    rw [stepsD_take (List.getElem?_eq_getElem (by omega))]
    exact mid_ok _ ⟨List.nodup_nil, fun _ h => by cases h⟩ fun kv hkv q hq => (ih.2 kv.1 (List.mem_map_of_mem hkv)).step (ways_inb hq)
theorem stepsD_val (cols : List Int) : ∀ (rows : List Int) (kn : Dc) (rest : List Int), val (rows.foldl (fun kn m => mid m [] kn) kn) (K12.A rest) = val kn (K12.A (rows ++ rest))
  | [], kn, rest => rfl
  | m :: rows, kn, rest => by
    rw [List.foldl_cons, stepsD_val cols rows (mid m [] kn) rest]
    have h : DOk (fun _ => True) ([] : Dc) := ⟨List.nodup_nil, fun _ h => by cases h⟩
    rw [val_mid m _ h fun _ _ _ _ => trivial]
    show 0 + val kn (fun x => K12.T m x (K12.A (rows ++ rest))) = _
    rw [Int.zero_add]
    rfl
theorem val_zero {n : Nat} : ∀ {d : Dc}, (keysD d).Nodup → (∀ k ∈ keysD d, k.length = n) → val d (K12.A []) = (dGet d (List.replicate n 0)).getD 0
  | [], _, _ => rfl
  | kv :: d, hn, hl => by
    unfold keysD at hn hl
    rw [List.map_cons, List.nodup_cons] at hn
    have ih := val_zero hn.2 fun k hk => hl k (List.mem_cons_of_mem _ hk)
    have h1 := hl kv.1 List.mem_cons_self
    have hz : (kv.1.all fun x => decide (x = 0)) = true ↔ kv.1 = List.replicate n 0 := by
      rw [← h1, List.all_eq_true]
      constructor
      · intro q
        exact List.eq_replicate_iff.mpr ⟨rfl, fun b hb => of_decide_eq_true (q b hb)⟩
      · intro q x hx
        exact decide_eq_true ((List.eq_replicate_iff.mp q).2 x hx)
    simp only [val, List.map_cons, List.sum_cons, K12.A]
    simp only [val, K12.A] at ih
    rw [ih]
    by_cases h : kv.1 = List.replicate n 0
    · rw [if_pos (hz.mpr h), get_hit h, get_none (h ▸ hn.1)]
      simp
    · rw [if_neg fun q => h (hz.mp q), get_miss h]
      simp
theorem count_ok (k : Nat) (rows cols : List Int) (hr : rows.length ≤ 6) (hc : cols.length ≤ 6) (hc1 : 1 ≤ cols.length) : callF tab (k + 2) 1 [tupI rows, tupI cols] = some (.int (K12.A rows cols), []) := by
  have loop := forr_thru (T := tab) (cf := callF tab (k + 1)) (tg := .one 3) (it := .seq (.var 0)) (b := B_count_tables_3) (ρ := [some (tupI rows), some (tupI cols), some (.dct [(cols, 1)]), none, none, none, none]) (ws := rows.map .int)
    (fun i ρ => i ≤ rows.length → ∃ x3 x4 x5 x6, ρ = [some (tupI rows), some (tupI cols), some (.dct (stepsD (rows.take i) cols)), x3, x4, x5, x6]) (by simp) (fun _ => ⟨_, _, _, _, rfl⟩) (by
      rintro i w ρ hwi hp
      rw [List.getElem?_map] at hwi
      obtain ⟨m, hq, rfl⟩ := Option.map_eq_some_iff.mp hwi
      have hi : i < rows.length := (List.getElem?_eq_some_iff.mp hq).1
      obtain ⟨x3, x4, x5, x6, rfl⟩ := hp (by omega)
      have ih := stepsD_ok rows cols i (by omega)
      obtain ⟨y5, y6, e⟩ := midl_ok k (P := InB (i + 1) cols) (fun d hd => hd.len (by omega) hc) (some (tupI rows)) (some (tupI cols)) (stepsD (rows.take i) cols) m x5 x6 ih.1 (fun kv hkv => by rw [(ih.2 kv.1 (List.mem_map_of_mem hkv)).len]; exact hc) fun kv hkv q hq => (ih.2 kv.1 (List.mem_map_of_mem hkv)).step (ways_inb hq)
      refine ⟨_, rfl, [some (tupI rows), some (tupI cols), some (.dct (stepsD (rows.take (i + 1)) cols)), some (.int m), none, y5, y6], ?_, fun _ => ⟨_, _, _, _, rfl⟩⟩
      rw [stepsD_take hq]
      simp [B_count_tables_3, e])
  obtain ⟨ρ', h1, hp⟩ := loop
  rw [List.length_map] at hp
  obtain ⟨x3, x4, x5, x6, rfl⟩ := hp (Nat.le_refl _)
  rw [List.take_length] at h1
  have ok := stepsD_ok rows cols rows.length (Nat.le_refl _)
  rw [List.take_length] at ok
  have hv := val_zero (n := cols.length) ok.1 fun q hq => (ok.2 q hq).len
  have hA : val (stepsD rows cols) (K12.A []) = K12.A rows cols := by
    unfold stepsD
    rw [stepsD_val cols rows]
    simp [val]
  rw [hA] at hv
  refine callF_io0 (d := f_count_tables) rfl rfl rfl (ρ := [some (tupI rows), some (tupI cols), some (.dct (stepsD rows cols)), x3, x4, x5, x6]) ?_
  have h1' : exec tab (callF tab (k + 1)) L_count_tables_3 _ = _ := h1
  have e1 : bin .mul (.tup [.int 0]) (.int cols.length) = some (tupI (List.replicate cols.length 0)) := by
    show (if ![W.int 0].isEmpty && 0 ≤ (cols.length : Int) && (cols.length : Int) ≤ 1000 && decide ([W.int 0].length ≤ 1000) then some (W.tup (repW cols.length [.int 0])) else none) = _
    rw [if_pos]
    · unfold repW tupI
      congr 2
      rw [Int.toNat_natCast, List.map_replicate]
      generalize cols.length = n
      induction n with
      | zero => rfl
      | succ n ih => rw [List.replicate_succ, List.replicate_succ, List.flatten_cons, ih]; rfl
    · simp only [Bool.and_eq_true, decide_eq_true_eq]
      refine ⟨⟨⟨rfl, by omega⟩, by omega⟩, by decide⟩
  have e2 : dgetW (tupI (List.replicate cols.length 0)) (.int 0) (.dct (stepsD rows cols)) = some (.int (K12.A rows cols)) := by
    rw [hv]
    simp only [dgetW, key?_tupI, Option.map_some]
    cases dGet (stepsD rows cols) (List.replicate cols.length 0) <;> rfl
  simp [f_count_tables, h1', e1, e2]
end Law

end

section
set_option maxRecDepth 100000
set_option maxHeartbeats 4000000
namespace Law
open Mini
def bitI (z j : Nat) : Int := if z / 2 ^ j % 2 = 1 then 1 else 0
def leftL : List Int → Nat → List Int
  | [], _ => []
  | c :: cs, z => (c - bitI z 0) :: leftL cs (z / 2)
theorem bitI_succ (z j : Nat) : bitI z (j + 1) = bitI (z / 2) j := by
  unfold bitI
  rw [Nat.pow_succ, Nat.mul_comm, ← Nat.div_div_eq_div_mul]
theorem leftL_len : ∀ (c : List Int) (z : Nat), (leftL c z).length = c.length
  | [], _ => rfl
  | c :: cs, z => by rw [leftL, List.length_cons, List.length_cons, leftL_len]
theorem leftL_eq : ∀ (c : List Int) (z : Nat), leftL c z = (List.range c.length).map fun j => c.getD j 0 - bitI z j
  | [], _ => rfl
  | c :: cs, z => by
    rw [leftL, leftL_eq cs, List.length_cons, List.range_succ_eq_map, List.map_cons, List.map_map]
    congr 1
    refine List.map_congr_left fun j _ => ?_
    show cs.getD j 0 - bitI (z / 2) j = (c :: cs).getD (j + 1) 0 - bitI z (j + 1)
    rw [bitI_succ]
    rfl
theorem bits_sum : ∀ (c : List Int) (z : Nat), ((List.range c.length).map (bitI z)).sum = c.sum - (leftL c z).sum
  | [], _ => rfl
  | c :: cs, z => by
    rw [List.length_cons, List.range_succ_eq_map, List.map_cons, List.map_map, List.sum_cons, leftL, List.sum_cons, List.sum_cons]
    have : (List.range cs.length).map (bitI z ∘ Nat.succ) = (List.range cs.length).map (bitI (z / 2)) := List.map_congr_left fun j _ => bitI_succ z j
    rw [this, bits_sum cs]
    omega
theorem sum_pairs (g : Nat → Int) : ∀ n, ((List.range (2 * n)).map g).sum = ((List.range n).map fun m => g (2 * m) + g (2 * m + 1)).sum
  | 0 => rfl
  | n + 1 => by
    rw [show 2 * (n + 1) = 2 * n + 1 + 1 by omega, List.range_succ, List.range_succ, List.range_succ]
    simp only [List.map_append, List.sum_append, List.map_cons, List.map_nil, List.sum_cons, List.sum_nil, sum_pairs g n]
    omega
theorem sum_add (g h : Nat → Int) : ∀ l : List Nat, (l.map fun m => g m + h m).sum = (l.map g).sum + (l.map h).sum
  | [] => rfl
  | m :: l => by
    simp only [List.map_cons, List.sum_cons, sum_add g h l]
    omega
theorem sum_const0 : ∀ l : List Nat, (l.map fun _ => (0 : Int)).sum = 0
  | [] => rfl
  | m :: l => by
    simp only [List.map_cons, List.sum_cons, sum_const0 l]
    rfl
def nonneg (c : List Int) : Prop := ∀ x ∈ c, 0 ≤ x
instance (c : List Int) : Decidable (nonneg c) := by unfold nonneg; infer_instance
theorem nonneg_cons {a : Int} {c : List Int} : nonneg (a :: c) ↔ 0 ≤ a ∧ nonneg c := by
  unfold nonneg
  simp
def term (r : Int) (c : List Int) (f : List Int → Int) (z : Nat) : Int := if c.sum - (leftL c z).sum = r ∧ nonneg (leftL c z) then f (leftL c z) else 0
theorem sum_term : ∀ (c : List Int) (r : Int) (f : List Int → Int), ((List.range (2 ^ c.length)).map (term r c f)).sum = K12.T r c f
  | [], r, f => by
    have : nonneg ([] : List Int) := fun _ h => by cases h
    simp only [List.length_nil, Nat.pow_zero, K12.T]
    simp [List.range_succ, term, leftL, this]
    by_cases h : r = 0
    · simp [h]
    · rw [if_neg (fun z => h z.symm), if_neg h]
  | c :: cs, r, f => by
    rw [List.length_cons, Nat.pow_succ, Nat.mul_comm, sum_pairs, sum_add]
    simp only [K12.T]
    have b0 : ∀ m, bitI (2 * m) 0 = 0 := fun m => by unfold bitI; rw [if_neg (by simp)]
    have b1 : ∀ m, bitI (2 * m + 1) 0 = 1 := fun m => by unfold bitI; rw [if_pos (by rw [Nat.pow_zero, Nat.div_one]; omega)]
    have d0 : ∀ m, 2 * m / 2 = m := fun m => by omega
    have d1 : ∀ m, (2 * m + 1) / 2 = m := fun m => by omega
    have e0 : (fun m => term r (c :: cs) f (2 * m)) = fun m => if 0 ≤ c then term r cs (fun x => f (c :: x)) m else 0 := by
      funext m
      unfold term
      simp only [leftL, b0, d0, List.sum_cons, nonneg_cons, Int.sub_zero]
      by_cases h : 0 ≤ c
      · rw [if_pos h]
        congr 1
        exact propext ⟨fun q => ⟨by omega, q.2.2⟩, fun q => ⟨by omega, h, q.2⟩⟩
      · rw [if_neg h, if_neg fun q => h q.2.1]
    have e1 : (fun m => term r (c :: cs) f (2 * m + 1)) = fun m => if 1 ≤ c then term (r - 1) cs (fun x => f ((c - 1) :: x)) m else 0 := by
      funext m
      unfold term
      simp only [leftL, b1, d1, List.sum_cons, nonneg_cons]
      by_cases h : 1 ≤ c
      · rw [if_pos h]
        congr 1
        exact propext ⟨fun q => ⟨by omega, q.2.2⟩, fun q => ⟨by omega, by omega, q.2⟩⟩
      · rw [if_neg h, if_neg fun q => h (by omega)]
    rw [e0, e1]
    congr 1
    · by_cases h : 0 ≤ c
      · simp only [if_pos h, sum_term cs r]
      · simp only [if_neg h, sum_const0]
    · by_cases h : 1 ≤ c
      · simp only [if_pos h, sum_term cs (r - 1)]
      · simp only [if_neg h, sum_const0]
theorem minI_nn {c : List Int} (h : c ≠ []) : 0 ≤ minI c ↔ nonneg c := by
  have key : ∀ (l : List Int) (x : Int), 0 ≤ l.foldl (fun m y => if y < m then y else m) x ↔ 0 ≤ x ∧ nonneg l := by
    intro l
    induction l with
    | nil => intro x; simp [nonneg]
    | cons y l ih =>
      intro x
      rw [List.foldl_cons, ih, nonneg_cons]
      split
      · exact ⟨fun q => ⟨by have := q.1; omega, q.1, q.2⟩, fun q => q.2⟩
      · exact ⟨fun q => ⟨q.1, by have := q.1; omega, q.2⟩, fun q => ⟨q.1, q.2.2⟩⟩
  cases c with
  | nil => exact absurd rfl h
  | cons x l => exact (key l x).trans nonneg_cons.symm
theorem maxI_z {c : List Int} (h : c ≠ []) (hn : nonneg c) : maxI c = 0 ↔ (c.all fun x => decide (x = 0)) = true := by
  have key : ∀ (l : List Int) (x : Int), 0 ≤ x → nonneg l → (l.foldl (fun m y => if m < y then y else m) x = 0 ↔ x = 0 ∧ (l.all fun x => decide (x = 0)) = true) := by
    intro l
    induction l with
    | nil => intro x _ _; simp
    | cons y l ih =>
      intro x hx hl
      rw [nonneg_cons] at hl
      rw [List.foldl_cons, ih _ (by split <;> omega) hl.2, List.all_cons, Bool.and_eq_true, decide_eq_true_eq]
      split
      · exact ⟨fun q => ⟨by have := q.1; omega, q.1, q.2⟩, fun q => ⟨q.2.1, q.2.2⟩⟩
      · exact ⟨fun q => ⟨q.1, by have := q.1; have := hl.1; omega, q.2⟩, fun q => ⟨q.1, q.2.2⟩⟩
  cases c with
  | nil => exact absurd rfl h
  | cons x l =>
    rw [nonneg_cons] at hn
    rw [List.all_cons, Bool.and_eq_true, decide_eq_true_eq]
    exact key l x hn.1 hn.2
theorem lt62 : 7 < 2 ^ 62 := by decide
theorem rng_ok {n : Nat} (h : n ≤ 6) : rangeW 0 (n : Int) = some ((List.range n).map fun (i : Nat) => W.int (i : Int)) := rangeW_nat (Nat.lt_trans (Nat.lt_succ_of_le h) lt62)
theorem bits_ok (cf : CF) (a b c : Option W) (cols : List Int) (z : Nat) (x4 x5 x6) (h : cols.length ≤ 6) : evalE cf C_law_tables_2 [a, some (tupI cols), c, some (.int z), x4, x5, x6] = some (.lst (((List.range cols.length).map (bitI z)).map .int)) := by
  rw [C_law_tables_2, ev_lc]
  have hr : rangeW 0 (cols.length : Int) = some ((List.range cols.length).map fun (i : Nat) => W.int (i : Int)) := rng_ok h
  simp -implicitDefEqProofs only [ev_rng, ev_blt, ev_var, getv_zero, getv_succ, Option.bind_some, blt_lenI, int?_int, hr]
  rw [lcGo_range (g := fun j => W.int (bitI z j))]
  · rw [Option.bind_some, guard_ok (by rw [List.length_map, List.length_range]; exact le_big (by omega)), List.map_map]
    rfl
  · intro j hj
    have e1 : binI .shr (z : Int) (j : Int) = some ((z / 2 ^ j : Nat) : Int) := by
      rw [binI_shr' _ _ (Int.natCast_nonneg j), Int.toNat_natCast]
      congr 1
    have e2 : binI .band ((z / 2 ^ j : Nat) : Int) 1 = some ((z / 2 ^ j % 2 : Nat) : Int) := by
      rw [← Nat.and_one_is_mod]
      exact binI_band' _ 1
    have e3 : (if decide (((z / 2 ^ j % 2 : Nat) : Int) = 1) = true then (1 : Int) else 0) = bitI z j := by
      unfold bitI
      by_cases hb : z / 2 ^ j % 2 = 1
      · rw [if_pos hb, hb]; rfl
      · rw [if_neg hb, if_neg]
        intro q
        have := of_decide_eq_true q
        omega
    simp -implicitDefEqProofs only [asn_one, slots_one, wipe_cons, wipe_nil, List.set_cons_succ, List.set_cons_zero, Option.bind_some, ev_c0, if_true, ev_blt, ev_cmp, ev_bin, ev_int, ev_var, getv_zero, getv_succ, bin_int, e1, Option.map_some, e2, cmp_eq', blt_intb, e3]
theorem left_ok (cf : CF) (a c d : Option W) (cols : List Int) (z : Nat) (x5 x6) (h : cols.length ≤ 6) : evalE cf C_law_tables_1 [a, some (tupI cols), c, d, some (.lst (((List.range cols.length).map (bitI z)).map .int)), x5, x6] = some (.lst ((leftL cols z).map .int)) := by
  rw [C_law_tables_1, ev_lc]
  have hr : rangeW 0 (cols.length : Int) = some ((List.range cols.length).map fun (i : Nat) => W.int (i : Int)) := rng_ok h
  simp -implicitDefEqProofs only [ev_rng, ev_blt, ev_var, getv_zero, getv_succ, Option.bind_some, blt_lenI, int?_int, hr]
  rw [lcGo_range (g := fun j => W.int (cols.getD j 0 - bitI z j))]
  · rw [Option.bind_some, guard_ok (by rw [List.length_map, List.length_range]; exact le_big (by omega)), leftL_eq, List.map_map]
    rfl
  · intro j hj
    have e1 : Mini.idx (tupI cols) (.int j) = some (.int (cols.getD j 0)) := by
      show Mini.atI (cols.map W.int) (j : Int) = _
      refine atI_nat ?_
      rw [List.getElem?_map, List.getElem?_eq_getElem hj, List.getD_eq_getElem?_getD, List.getElem?_eq_getElem hj]
      rfl
    have e2 : Mini.atI (((List.range cols.length).map (bitI z)).map W.int) (j : Int) = some (.int (bitI z j)) := by
      refine atI_nat ?_
      rw [List.getElem?_map, List.getElem?_map, List.getElem?_range hj]
      rfl
    simp -implicitDefEqProofs only [asn_one, slots_one, wipe_cons, wipe_nil, List.set_cons_succ, List.set_cons_zero, Option.bind_some, ev_c0, if_true, ev_bin, ev_idx, ev_var, getv_zero, getv_succ, e1, idx_lst, e2, bin_int, binI_sub', Option.map_some]
theorem slc_tl (r : Int) (rs : List Int) : slc (some 1) none (tupI (r :: rs)) = some (tupI rs) := by
  show some (W.tup (cut ((r :: rs).map W.int) (some 1) none)) = _
  have : cut ((r :: rs).map W.int) (some 1) none = rs.map W.int := by
    unfold cut sIx
    simp
    exact List.take_of_length_le (by simp)
  rw [this]
  rfl
theorem idx_hd (r : Int) (rs : List Int) : Mini.idx (tupI (r :: rs)) (.int 0) = some (.int r) := by
  show Mini.atI ((r :: rs).map W.int) ((0 : Nat) : Int) = _
  exact atI_nat rfl
theorem blt_minI {c : List Int} (h : c ≠ []) : blt .min (tupI c) = some (.int (minI c)) := by
  show (ints? (c.map W.int)).bind (fun ns => if ns.isEmpty then none else some (W.int (minI ns))) = _
  rw [ints?_ints, Option.bind_some, if_neg]
  cases c with
  | nil => exact absurd rfl h
  | cons a b => exact Bool.false_ne_true
theorem blt_maxI {c : List Int} (h : c ≠ []) : blt .max (tupI c) = some (.int (maxI c)) := by
  show (ints? (c.map W.int)).bind (fun ns => if ns.isEmpty then none else some (W.int (maxI ns))) = _
  rw [ints?_ints, Option.bind_some, if_neg]
  cases c with
  | nil => exact absurd rfl h
  | cons a b => exact Bool.false_ne_true
theorem body_ok (cf : CFI) (r : Int) (rs cols : List Int) (s : Int) (z : Nat) (x4 x5 x6) (h1 : 1 ≤ cols.length) (h6 : cols.length ≤ 6) (ih : nonneg (leftL cols z) → purely tab cf 7 [tupI rs, tupI (leftL cols z)] = some (.int (K12.A rs (leftL cols z)))) :
    ∃ y4 y6, execs tab cf B_law_tables_1 [some (tupI (r :: rs)), some (tupI cols), some (.int s), some (.int z), x4, x5, x6] = some ([some (tupI (r :: rs)), some (tupI cols), some (.int (s + term r cols (K12.A rs) z)), some (.int z), y4, x5, y6], .nx) := by
  refine ⟨some (.lst (((List.range cols.length).map (bitI z)).map .int)), some (tupI (leftL cols z)), ?_⟩
  have e1 := bits_ok (purely tab cf) (some (tupI (r :: rs))) none (some (.int s)) cols z x4 x5 x6 h6
  have e2 := left_ok (purely tab cf) (some (tupI (r :: rs))) (some (.int s)) (some (.int z)) cols z x5 x6 h6
  have hne : leftL cols z ≠ [] := fun q => by
    have := leftL_len cols z
    rw [q] at this
    simp at this
    omega
  have e3 := blt_minI hne
  have e4 : blt .tuple (.lst ((leftL cols z).map .int)) = some (tupI (leftL cols z)) := rfl
  have e5 := bits_sum cols z
  have e6 : ∀ y, blt .sum (.lst ((List.map (bitI z) (List.range cols.length)).map y)) = blt .sum (.lst ((List.map (bitI z) (List.range cols.length)).map y)) := fun _ => rfl
  have e7 : blt .sum (.lst (((List.range cols.length).map (bitI z)).map .int)) = some (.int (cols.sum - (leftL cols z).sum)) := by rw [blt_suml, e5]
  have cond : (0 ≤ minI (leftL cols z)) = nonneg (leftL cols z) := propext (minI_nn hne)
  by_cases c1 : cols.sum - (leftL cols z).sum = r
  · by_cases c2 : nonneg (leftL cols z)
    · by_cases c3 : (leftL cols z).sum = rs.sum
      · have ht : term r cols (K12.A rs) z = K12.A rs (leftL cols z) := if_pos ⟨c1, c2⟩
        have ih := ih c2
        have c2' : 0 ≤ minI (leftL cols z) := by rw [cond]; exact c2
        have c1' : cols.sum - rs.sum = r := by rw [← c3]; exact c1
        rw [ht]
        simp -implicitDefEqProofs only [c1', B_law_tables_1, ex_cons, ex_nil, ex_asg, ex_ife, e1, e2, e3, e4, e7, ev_blt, ev_and, ev_cmp, ev_idx, ev_int, ev_var, ev_slc, ev_o1, ev_o0, getv_zero, getv_succ, List.set_cons_succ, List.set_cons_zero, Option.bind_some, Option.map_some, idx_hd, cmp_eq', cmp_ge', c1, c2', c3, decide_true, bl?_bl, if_true, blt_sumI, int?_int, slc_tl, I_law_tables_1, ev_bin, ev_call, ev_es1, ev_es0, ih, bin_int, binI_add']
      · have ht : term r cols (K12.A rs) z = 0 := by
          unfold term
          rw [if_pos ⟨c1, c2⟩]
          exact K12.A_sum rs _ c3
        have c2' : 0 ≤ minI (leftL cols z) := by rw [cond]; exact c2
        rw [ht, Int.add_zero]
        simp -implicitDefEqProofs only [B_law_tables_1, ex_cons, ex_nil, ex_asg, ex_ife, e1, e2, e3, e4, e7, ev_blt, ev_and, ev_cmp, ev_idx, ev_int, ev_var, ev_slc, ev_o1, ev_o0, getv_zero, getv_succ, List.set_cons_succ, List.set_cons_zero, Option.bind_some, Option.map_some, idx_hd, cmp_eq', cmp_ge', c1, c2', c3, decide_true, decide_false, bl?_bl, if_true, if_false, Bool.false_eq_true, blt_sumI, int?_int, slc_tl]
    · have ht : term r cols (K12.A rs) z = 0 := if_neg fun q => c2 q.2
      have c2' : ¬ 0 ≤ minI (leftL cols z) := by rw [cond]; exact c2
      rw [ht, Int.add_zero]
      simp -implicitDefEqProofs only [B_law_tables_1, ex_cons, ex_nil, ex_asg, ex_ife, e1, e2, e3, e4, e7, ev_blt, ev_and, ev_cmp, ev_idx, ev_int, ev_var, ev_slc, ev_o1, ev_o0, getv_zero, getv_succ, List.set_cons_succ, List.set_cons_zero, Option.bind_some, Option.map_some, idx_hd, cmp_eq', cmp_ge', c1, c2', decide_true, decide_false, bl?_bl, if_true, if_false, Bool.false_eq_true, blt_sumI, int?_int, slc_tl]
  · have ht : term r cols (K12.A rs) z = 0 := if_neg fun q => c1 q.1
    rw [ht, Int.add_zero]
    simp -implicitDefEqProofs only [B_law_tables_1, ex_cons, ex_nil, ex_asg, ex_ife, e1, e2, e3, e4, e7, ev_blt, ev_and, ev_cmp, ev_idx, ev_int, ev_var, ev_slc, ev_o1, ev_o0, getv_zero, getv_succ, List.set_cons_succ, List.set_cons_zero, Option.bind_some, Option.map_some, idx_hd, cmp_eq', cmp_ge', c1, decide_true, decide_false, bl?_bl, if_true, if_false, Bool.false_eq_true, blt_sumI, int?_int, slc_tl]
theorem tables_ok : ∀ (rows cols : List Int) (k : Nat), 1 ≤ cols.length → cols.length ≤ 6 → nonneg cols → callF tab (k + rows.length + 1) 7 [tupI rows, tupI cols] = some (.int (K12.A rows cols), [])
  | [], cols, k, h1, h6, hn => by
    have hne : cols ≠ [] := fun q => by rw [q] at h1; simp at h1
    have e1 := blt_maxI hne
    have e2 : blt .len (tupI []) = some (.int 0) := rfl
    have e3 : (if decide (maxI cols = 0) = true then (1 : Int) else 0) = K12.A [] cols := by
      simp only [K12.A]
      by_cases h : maxI cols = 0
      · rw [if_pos (decide_eq_true h), if_pos ((maxI_z hne hn).mp h)]
      · rw [if_neg (by rw [decide_eq_false h]; exact Bool.false_ne_true), if_neg fun q => h ((maxI_z hne hn).mpr q)]
    refine callF_io0 (d := f_law_tables) rfl rfl rfl (ρ := [some (tupI []), some (tupI cols), none, none, none, none, none]) ?_
    show execs tab _ f_law_tables.body [some (tupI []), some (tupI cols), none, none, none, none, none] = _
    simp -implicitDefEqProofs only [f_law_tables, I_law_tables_2, ex_cons, ex_nil, ex_ife, ex_ret, ev_cmp, ev_blt, ev_var, ev_int, getv_zero, getv_succ, Option.bind_some, Option.map_some, e1, e2, cmp_eq', decide_true, bl?_bl, if_true, blt_intb, e3]
  | r :: rs, cols, k, h1, h6, hn => by
    have e0 : k + (r :: rs).length + 1 = (k + rs.length + 1) + 1 := by rw [List.length_cons]; omega
    rw [e0]
    have hcl : blt .len (tupI cols) = some (.int cols.length) := blt_lenI cols
    have hsh := binI_shl' cols.length h6
    have hr : rangeW 0 ((2 ^ cols.length : Nat) : Int) = some ((List.range (2 ^ cols.length)).map fun (i : Nat) => W.int (i : Int)) := by
      refine rangeW_nat (Nat.lt_of_le_of_lt (Nat.pow_le_pow_right (by omega) h6) ?_)
      exact Nat.pow_lt_pow_right (by omega) (by omega)
    have loop := forr_thru (T := tab) (cf := callF tab (k + rs.length + 1)) (tg := .one 3) (it := .rng (.bin .shl (.int 1) (.blt .len (.var 1)))) (b := B_law_tables_1) (ρ := [some (tupI (r :: rs)), some (tupI cols), some (.int 0), none, none, none, none]) (ws := (List.range (2 ^ cols.length)).map fun (i : Nat) => W.int (i : Int))
      (fun i ρ => ∃ x3 x4 x6, ρ = [some (tupI (r :: rs)), some (tupI cols), some (.int (((List.range i).map (term r cols (K12.A rs))).sum)), x3, x4, none, x6])
      (by simp -implicitDefEqProofs only [ev_rng, ev_bin, ev_int, ev_blt, ev_var, getv_zero, getv_succ, Option.bind_some, hcl, bin_int, hsh, Option.map_some, int?_int, hr]) ⟨none, none, none, rfl⟩ (by
        rintro i w ρ hw ⟨x3, x4, x6, rfl⟩
        have hi : i < 2 ^ cols.length := by simpa using (List.getElem?_eq_some_iff.mp hw).1
        have ew : w = .int (i : Int) := by
          rw [List.getElem?_map, List.getElem?_range hi] at hw
          exact (Option.some.inj hw).symm
        subst ew
        obtain ⟨y4, y6, e⟩ := body_ok (callF tab (k + rs.length + 1)) r rs cols (((List.range i).map (term r cols (K12.A rs))).sum) i x4 none x6 h1 h6 fun hnn => purely_ok (d := f_law_tables) rfl rfl (tables_ok rs (leftL cols i) k (by rw [leftL_len]; exact h1) (by rw [leftL_len]; exact h6) hnn)
        refine ⟨_, rfl, _, e, some (.int i), y4, y6, ?_⟩
        rw [List.range_succ, List.map_append, List.sum_append]
        simp)
    obtain ⟨ρ', h2, x3, x4, x6, rfl⟩ := loop
    rw [List.length_map, List.length_range, sum_term] at h2
    have h2' : exec tab (callF tab (k + rs.length + 1)) L_law_tables_1 _ = _ := h2
    have e2 : blt .len (tupI (r :: rs)) = some (.int ((rs.length + 1 : Nat) : Int)) := by rw [blt_lenI]; rfl
    have e3 : decide (((rs.length + 1 : Nat) : Int) = 0) = false := decide_eq_false (by omega)
    refine callF_io0 (d := f_law_tables) rfl rfl rfl (ρ := [some (tupI (r :: rs)), some (tupI cols), some (.int (K12.A (r :: rs) cols)), x3, x4, none, x6]) ?_
    show execs tab _ f_law_tables.body [some (tupI (r :: rs)), some (tupI cols), none, none, none, none, none] = _
    simp -implicitDefEqProofs only [f_law_tables, ex_cons, ex_nil, ex_ife, ex_ret, ex_asg, ev_cmp, ev_blt, ev_var, ev_int, getv_zero, getv_succ, List.set_cons_succ, List.set_cons_zero, Option.bind_some, Option.map_some, e2, cmp_eq', e3, bl?_bl, if_false, Bool.false_eq_true, h2']
    rfl
end Law

end

section
set_option maxRecDepth 100000
set_option maxHeartbeats 4000000
namespace Law
open Mini
theorem at_ok {ns : List Int} {i : Nat} (h : i < ns.length) : Mini.atI (ns.map W.int) (i : Int) = some (.int (ns.getD i 0)) := by
  refine atI_nat ?_
  rw [List.getElem?_map, List.getElem?_eq_getElem h, List.getD_eq_getElem?_getD, List.getElem?_eq_getElem h]
  rfl
theorem at_int {ns : List Int} {z : Int} (h0 : 0 ≤ z) (h : z < ns.length) : ∃ y, Mini.atI (ns.map W.int) z = some (.int y) ∧ y ∈ ns := by
  obtain ⟨i, rfl⟩ := Int.eq_ofNat_of_zero_le h0
  have hi : i < ns.length := by omega
  refine ⟨_, at_ok hi, ?_⟩
  rw [List.getD_eq_getElem?_getD, List.getElem?_eq_getElem hi]
  exact List.getElem_mem hi
theorem dr_ok {ds : List Int} (hd : Drawn ds) {z : Int} (h0 : 0 ≤ z) (h : z < 50) : ∃ y, Mini.atI (ds.map W.int) z = some (.int y) ∧ 0 ≤ y ∧ y < 4096 := by
  obtain ⟨y, e, hm⟩ := at_int (ns := ds) h0 (by rw [hd.1]; exact h)
  exact ⟨y, e, hd.2 y hm⟩
theorem set_at {ns : List Int} {i : Nat} (h : i < ns.length) (v : Int) : setAt (.lst (ns.map W.int)) (.int (i : Int)) (.int v) = some (.lst ((ns.set i v).map W.int)) := by
  have e : Mini.ixN (ns.map W.int).length (i : Int) = some i := by
    unfold Mini.ixN
    rw [List.length_map, if_pos (Int.natCast_nonneg i), if_pos (by omega)]
    rfl
  simp only [setAt, int?_int, Option.bind_some, e, Option.map_some, List.map_set]
theorem nn_set {ns : List Int} (h : nonneg ns) {i : Nat} {v : Int} (hv : 0 ≤ v) : nonneg (ns.set i v) := fun x hx => by
  rcases List.mem_or_eq_of_mem_set hx with q | rfl
  · exact h x q
  · exact hv
theorem nn_getD {ns : List Int} (h : nonneg ns) (i : Nat) : 0 ≤ ns.getD i 0 := by
  rw [List.getD_eq_getElem?_getD]
  by_cases hi : i < ns.length
  · rw [List.getElem?_eq_getElem hi]
    exact h _ (List.getElem_mem hi)
  · rw [List.getElem?_eq_none (by omega)]
    exact Int.le_refl 0
theorem inc_ok (T : List Fn) (cf : CFI) (d a w x7 x8 : Option W) (rows cols : List Int) (i k : Nat) (hi : i < rows.length) (hk : k < cols.length) : execs T cf I_law_sums_2 [d, a, w, some (.lst (rows.map .int)), some (.int k), some (.lst (cols.map .int)), some (.int i), x7, x8] =
    some ([d, a, w, some (.lst ((rows.set i (rows.getD i 0 + 1)).map .int)), some (.int k), some (.lst ((cols.set k (cols.getD k 0 + 1)).map .int)), some (.int i), x7, x8], .nx) := by
  simp -implicitDefEqProofs only [I_law_sums_2, ex_cons, ex_nil, ex_set, ev_bin, ev_idx, ev_int, ev_var, getv_zero, getv_succ, List.set_cons_succ, List.set_cons_zero, Option.bind_some, Option.map_some, idx_lst, at_ok hi, at_ok hk, bin_int, binI_add', set_at hi, set_at hk]
theorem mv_ok (T : List Fn) (cf : CFI) (d a w x4 x5 x7 : Option W) (rows : List Int) (i j : Nat) (hi : i < rows.length) (hj : j < rows.length) : execs T cf I_law_sums_1 [d, a, w, some (.lst (rows.map .int)), x4, x5, some (.int i), x7, some (.int j)] =
    some ([d, a, w, some (.lst (((rows.set i (rows.getD i 0 + 1)).set j ((rows.set i (rows.getD i 0 + 1)).getD j 0 - 1)).map .int)), x4, x5, some (.int i), x7, some (.int j)], .nx) := by
  have hj' : j < (rows.set i (rows.getD i 0 + 1)).length := by rw [List.length_set]; exact hj
  simp -implicitDefEqProofs only [I_law_sums_1, ex_cons, ex_nil, ex_set, ev_bin, ev_idx, ev_int, ev_var, getv_zero, getv_succ, List.set_cons_succ, List.set_cons_zero, Option.bind_some, Option.map_some, idx_lst, at_ok hi, at_ok hj', bin_int, binI_add', binI_sub', set_at hi, set_at hj']
/-- two rows of sums -/
structure RC (a w : Nat) (rows cols : List Int) : Prop where
  la : rows.length = a
  lw : cols.length = w
  na : nonneg rows
  nw : nonneg cols
theorem fill_ok (k : Nat) (ds : List Int) (hd : Drawn ds) (a w : Nat) (ha : 1 ≤ a ∧ a ≤ 5) (hw : 1 ≤ w ∧ w ≤ 5) (rows cols : List Int) (rc : RC a w rows cols) (x4 x6 x7 x8) :
    ∃ rows' cols' y4 y6, RC a w rows' cols' ∧ exec tab (callF tab k) L_law_sums_3 [some (.lst (ds.map .int)), some (.int a), some (.int w), some (.lst (rows.map .int)), x4, some (.lst (cols.map .int)), x6, x7, x8] =
      some ([some (.lst (ds.map .int)), some (.int a), some (.int w), some (.lst (rows'.map .int)), y4, some (.lst (cols'.map .int)), y6, x7, x8], .nx) := by
  have loop := forr_thru (T := tab) (cf := callF tab k) (tg := .one 6) (it := .rng (.var 1)) (b := B_law_sums_3) (ρ := [some (.lst (ds.map .int)), some (.int a), some (.int w), some (.lst (rows.map .int)), x4, some (.lst (cols.map .int)), x6, x7, x8]) (ws := (List.range a).map fun (i : Nat) => W.int (i : Int))
    (fun i ρ => ∃ rows cols y4 y6, RC a w rows cols ∧ ρ = [some (.lst (ds.map .int)), some (.int a), some (.int w), some (.lst (rows.map .int)), y4, some (.lst (cols.map .int)), y6, x7, x8])
    (by simp -implicitDefEqProofs only [ev_rng, ev_var, getv_zero, getv_succ, Option.bind_some, int?_int, rng_ok (n := a) (by omega)]) ⟨rows, cols, x4, x6, rc, rfl⟩ (by
      rintro i wv ρ hwv ⟨rows, cols, y4, y6, rc, rfl⟩
      have hi : i < a := by simpa using (List.getElem?_eq_some_iff.mp hwv).1
      have ew : wv = .int (i : Int) := by
        rw [List.getElem?_map, List.getElem?_range hi] at hwv
        exact (Option.some.inj hwv).symm
      subst ew
      have loop2 := forr_thru (T := tab) (cf := callF tab k) (tg := .one 4) (it := .rng (.var 2)) (b := B_law_sums_2) (ρ := [some (.lst (ds.map .int)), some (.int a), some (.int w), some (.lst (rows.map .int)), y4, some (.lst (cols.map .int)), some (.int i), x7, x8]) (ws := (List.range w).map fun (i : Nat) => W.int (i : Int))
        (fun _ ρ => ∃ rows cols y4, RC a w rows cols ∧ ρ = [some (.lst (ds.map .int)), some (.int a), some (.int w), some (.lst (rows.map .int)), y4, some (.lst (cols.map .int)), some (.int i), x7, x8])
        (by simp -implicitDefEqProofs only [ev_rng, ev_var, getv_zero, getv_succ, Option.bind_some, int?_int, rng_ok (n := w) (by omega)]) ⟨rows, cols, y4, rc, rfl⟩ (by
          rintro j wv2 ρ2 hwv2 ⟨rows, cols, z4, rc, rfl⟩
          have hj : j < w := by simpa using (List.getElem?_eq_some_iff.mp hwv2).1
          have ew2 : wv2 = .int (j : Int) := by
            rw [List.getElem?_map, List.getElem?_range hj] at hwv2
            exact (Option.some.inj hwv2).symm
          subst ew2
          refine ⟨_, rfl, ?_⟩
          have b25 : 0 ≤ ((i : Int) * w + j) % 25 ∧ ((i : Int) * w + j) % 25 < 25 := by omega
          obtain ⟨y, ey, _, _⟩ := dr_ok hd (z := 4 + ((i : Int) * w + j) % 25) (by omega) (by omega)
          have hmul : binI .mul (i : Int) (w : Int) = some ((i : Int) * w) := binI_mulR _ _ (by omega) (by omega)
          have hmod : binI .mod ((i : Int) * w + j) 25 = some (((i : Int) * w + j) % 25) := binI_mod' _ _ (by omega)
          have hdiv : binI .fdiv y (1 + (i : Int)) = some (y / (1 + (i : Int))) := binI_fdiv' _ _ (by omega) (by omega)
          have hm2 : binI .mod (y / (1 + (i : Int))) 2 = some (y / (1 + (i : Int)) % 2) := binI_mod' _ _ (by omega)
          by_cases hc : y / (1 + (i : Int)) % 2 = 1
          · refine ⟨_, ?_, rows.set i (rows.getD i 0 + 1), cols.set j (cols.getD j 0 + 1), some (.int j), ⟨by rw [List.length_set, rc.la], by rw [List.length_set, rc.lw], nn_set rc.na (by have := nn_getD rc.na i; omega), nn_set rc.nw (by have := nn_getD rc.nw j; omega)⟩, rfl⟩
            have := inc_ok tab (callF tab k) (some (.lst (ds.map .int))) (some (.int a)) (some (.int w)) x7 x8 rows cols i j (by rw [rc.la]; exact hi) (by rw [rc.lw]; exact hj)
            simp -implicitDefEqProofs only [B_law_sums_2, ex_cons, ex_nil, ex_ife, ev_cmp, ev_bin, ev_blt, ev_idx, ev_int, ev_var, getv_zero, getv_succ, List.set_cons_succ, List.set_cons_zero, Option.bind_some, Option.map_some, bin_int, hmul, binI_add', hmod, idx_lst, ey, blt_int, hdiv, hm2, cmp_eq', hc, decide_true, bl?_bl, if_true, this]
          · refine ⟨_, ?_, rows, cols, some (.int j), rc, rfl⟩
            simp -implicitDefEqProofs only [B_law_sums_2, ex_cons, ex_nil, ex_ife, ev_cmp, ev_bin, ev_blt, ev_idx, ev_int, ev_var, getv_zero, getv_succ, List.set_cons_succ, List.set_cons_zero, Option.bind_some, Option.map_some, bin_int, hmul, binI_add', hmod, idx_lst, ey, blt_int, hdiv, hm2, cmp_eq', hc, decide_false, bl?_bl, if_false, Bool.false_eq_true])
      obtain ⟨ρ3, h3, rows3, cols3, z4, rc3, rfl⟩ := loop2
      have h3' : exec tab (callF tab k) L_law_sums_2 _ = _ := h3
      refine ⟨_, rfl, _, ?_, rows3, cols3, z4, some (.int i), rc3, rfl⟩
      simp -implicitDefEqProofs only [B_law_sums_3, ex_cons, ex_nil, List.set_cons_succ, List.set_cons_zero, h3', Option.bind_some])
  obtain ⟨ρ', h1, rows, cols, y4, y6, rc, rfl⟩ := loop
  exact ⟨rows, cols, y4, y6, rc, h1⟩
theorem moves_ok (k : Nat) (ds : List Int) (hd : Drawn ds) (a w : Nat) (ha : 1 ≤ a ∧ a ≤ 5) (rows cols : List Int) (rc : RC a w rows cols) (x4 x6 x7 x8) :
    ∃ rows' y6 y7 y8, RC a w rows' cols ∧ exec tab (callF tab k) L_law_sums_1 [some (.lst (ds.map .int)), some (.int a), some (.int w), some (.lst (rows.map .int)), x4, some (.lst (cols.map .int)), x6, x7, x8] =
      some ([some (.lst (ds.map .int)), some (.int a), some (.int w), some (.lst (rows'.map .int)), x4, some (.lst (cols.map .int)), y6, y7, y8], .nx) := by
  obtain ⟨y3, e3, p3, q3⟩ := dr_ok hd (z := 3) (by omega) (by omega)
  have hm3 : binI .mod y3 3 = some (y3 % 3) := binI_mod' _ _ (by omega)
  obtain ⟨n, hn⟩ := Int.eq_ofNat_of_zero_le (show 0 ≤ y3 % 3 by omega)
  have hn3 : n < 3 := by omega
  have loop := forr_thru (T := tab) (cf := callF tab k) (tg := .one 7) (it := .rng (.bin .mod (.blt .int (.idx (.var 0) (.int 3))) (.int 3))) (b := B_law_sums_1) (ρ := [some (.lst (ds.map .int)), some (.int a), some (.int w), some (.lst (rows.map .int)), x4, some (.lst (cols.map .int)), x6, x7, x8]) (ws := (List.range n).map fun (i : Nat) => W.int (i : Int))
    (fun _ ρ => ∃ rows y6 y7 y8, RC a w rows cols ∧ ρ = [some (.lst (ds.map .int)), some (.int a), some (.int w), some (.lst (rows.map .int)), x4, some (.lst (cols.map .int)), y6, y7, y8])
    (by simp -implicitDefEqProofs only [ev_rng, ev_bin, ev_blt, ev_idx, ev_int, ev_var, getv_zero, getv_succ, Option.bind_some, Option.map_some, idx_lst, e3, blt_int, bin_int, hm3, hn, int?_int, rng_ok (n := n) (by omega)]) ⟨rows, x6, x7, x8, rc, rfl⟩ (by
      rintro t wv ρ hwv ⟨rows, y6, y7, y8, rc, rfl⟩
      have ht : t < n := by simpa using (List.getElem?_eq_some_iff.mp hwv).1
      have ew : wv = .int (t : Int) := by
        rw [List.getElem?_map, List.getElem?_range ht] at hwv
        exact (Option.some.inj hwv).symm
      subst ew
      refine ⟨_, rfl, ?_⟩
      obtain ⟨u1, e1, p1, q1⟩ := dr_ok hd (z := 30 + (t : Int)) (by omega) (by omega)
      obtain ⟨u2, e2, p2, q2⟩ := dr_ok hd (z := 33 + (t : Int)) (by omega) (by omega)
      have m1 : binI .mod u1 (a : Int) = some (u1 % a) := binI_mod' _ _ (by omega)
      have m2 : binI .mod u2 (a : Int) = some (u2 % a) := binI_mod' _ _ (by omega)
      have a0 : (0 : Int) < a := by omega
      obtain ⟨i, hi⟩ := Int.eq_ofNat_of_zero_le (Int.emod_nonneg u1 (show (a : Int) ≠ 0 by omega))
      obtain ⟨j, hj⟩ := Int.eq_ofNat_of_zero_le (Int.emod_nonneg u2 (show (a : Int) ≠ 0 by omega))
      have hi' : i < rows.length := by
        have := Int.emod_lt_of_pos u1 a0
        rw [rc.la]
        omega
      have hj' : j < rows.length := by
        have := Int.emod_lt_of_pos u2 a0
        rw [rc.la]
        omega
      by_cases hc : 0 < rows.getD j 0
      · have mv := mv_ok tab (callF tab k) (some (.lst (ds.map .int))) (some (.int a)) (some (.int w)) x4 (some (.lst (cols.map .int))) (some (.int t)) rows i j hi' hj'
        refine ⟨_, ?_, ((rows.set i (rows.getD i 0 + 1)).set j ((rows.set i (rows.getD i 0 + 1)).getD j 0 - 1)), some (.int i), some (.int t), some (.int j), ⟨by rw [List.length_set, List.length_set, rc.la], rc.lw, nn_set (nn_set rc.na (by have := nn_getD rc.na i; omega)) ?_, rc.nw⟩, rfl⟩
        · simp -implicitDefEqProofs only [B_law_sums_1, ex_cons, ex_nil, ex_asg, ex_ife, ev_cmp, ev_bin, ev_blt, ev_idx, ev_int, ev_var, getv_zero, getv_succ, List.set_cons_succ, List.set_cons_zero, Option.bind_some, Option.map_some, bin_int, binI_add', idx_lst, e1, e2, blt_int, m1, m2, hi, hj, at_ok hj', cmp_gt', hc, decide_true, bl?_bl, if_true, mv]
        · rw [List.getD_eq_getElem?_getD, List.getElem?_set]
          by_cases hij : i = j
          · rw [if_pos hij, if_pos hi']
            have := nn_getD rc.na i
            show 0 ≤ rows.getD i 0 + 1 - 1
            omega
          · rw [if_neg hij]
            rw [List.getD_eq_getElem?_getD] at hc
            omega
      · refine ⟨_, ?_, rows, some (.int i), some (.int t), some (.int j), rc, rfl⟩
        simp -implicitDefEqProofs only [B_law_sums_1, ex_cons, ex_nil, ex_asg, ex_ife, ev_cmp, ev_bin, ev_blt, ev_idx, ev_int, ev_var, getv_zero, getv_succ, List.set_cons_succ, List.set_cons_zero, Option.bind_some, Option.map_some, bin_int, binI_add', idx_lst, e1, e2, blt_int, m1, m2, hi, hj, at_ok hj', cmp_gt', hc, decide_false, bl?_bl, if_false, Bool.false_eq_true])
  obtain ⟨ρ', h1, rows, y6, y7, y8, rc, rfl⟩ := loop
  exact ⟨rows, y6, y7, y8, rc, h1⟩
theorem comp_ok (cf : CF) (ds : List Int) (hd : Drawn ds) (n : Nat) (hn : n ≤ 5) (base : Int) (hb : 0 ≤ base ∧ base ≤ 20) (x : Nat) (ρ : Env) (h0 : getv ρ 0 = some (.lst (ds.map .int))) (hx : getv ρ x = some (.int n)) (h4 : ∀ j : Nat, getv ((ρ.set 4 none).set 4 (some (W.int j))) 0 = some (.lst (ds.map .int)) ∧ getv ((ρ.set 4 none).set 4 (some (W.int j))) 4 = some (.int j)) :
    ∃ ns, evalE cf (.lc (.bin .mod (.blt .int (.idx (.var 0) (.bin .add (.int base) (.var 4)))) (.int 6)) (.one 4) (.rng (.var x)) .no) ρ = some (.lst (ns.map .int)) ∧ ns.length = n ∧ nonneg ns := by
  have key : ∀ j, j < n → ∃ y, Mini.atI (ds.map W.int) (base + (j : Int)) = some (.int y) ∧ 0 ≤ y ∧ y < 4096 := fun j hj => dr_ok hd (by omega) (by omega)
  refine ⟨(List.range n).map fun (j : Nat) => ((Mini.atI (ds.map W.int) (base + (j : Int))).bind W.int?).getD 0 % 6, ?_, by simp, fun v hv => ?_⟩
  · rw [ev_lc]
    simp -implicitDefEqProofs only [ev_rng, ev_var, hx, Option.bind_some, int?_int, rng_ok (n := n) (by omega)]
    rw [lcGo_range (g := fun (j : Nat) => W.int (((Mini.atI (ds.map W.int) (base + (j : Int))).bind W.int?).getD 0 % 6))]
    · rw [Option.bind_some, guard_ok (by rw [List.length_map, List.length_range]; exact le_big (by omega)), List.map_map]
      rfl
    · intro j hj
      obtain ⟨y, e, _⟩ := key j hj
      obtain ⟨g0, g4⟩ := h4 j
      have hm : binI .mod y 6 = some (y % 6) := binI_mod' _ _ (by omega)
      simp -implicitDefEqProofs only [asn_one, slots_one, wipe_cons, wipe_nil, Option.bind_some, ev_c0, if_true, ev_bin, ev_blt, ev_idx, ev_int, ev_var, g0, g4, bin_int, binI_add', Option.map_some, idx_lst, e, blt_int, hm, int?_int, Option.getD_some]
  · obtain ⟨j, _, rfl⟩ := List.mem_map.mp hv
    omega
theorem rep_flat : ∀ n : Nat, (List.replicate n [W.int 0]).flatten = (List.replicate n (0 : Int)).map W.int
  | 0 => rfl
  | n + 1 => by rw [List.replicate_succ, List.replicate_succ, List.flatten_cons, rep_flat n]; rfl
theorem rep_zero (n : Nat) (h : n ≤ 1000) : bin .mul (.lst [.int 0]) (.int (n : Int)) = some (.lst ((List.replicate n (0 : Int)).map .int)) := by
  have h1 : decide (-(2 ^ 63) ≤ (n : Int)) = true := decide_eq_true (by omega)
  have h2 : decide ((n : Int) < 2 ^ 63) = true := decide_eq_true (by omega)
  have h3 : decide ([W.int 0].length * (n : Int).toNat ≤ big) = true := decide_eq_true (by rw [Int.toNat_natCast, List.length_singleton]; exact le_big (by omega))
  have e : bin .mul (.lst [.int 0]) (.int (n : Int)) = if decide (-(2 ^ 63) ≤ (n : Int)) && decide ((n : Int) < 2 ^ 63) && decide ([W.int 0].length * (n : Int).toNat ≤ big) then some (.lst (repW n [.int 0])) else none := by
    simp only [bin]
  rw [e, h1, h2, h3]
  show some (W.lst (List.replicate (n : Int).toNat [W.int 0]).flatten) = _
  rw [Int.toNat_natCast, rep_flat]
theorem sums_ok (k : Nat) (ds : List Int) (hd : Drawn ds) : ∃ a w rows cols, (1 ≤ a ∧ a ≤ 5) ∧ (1 ≤ w ∧ w ≤ 5) ∧ RC a w rows cols ∧ callF tab (k + 1) 6 [.lst (ds.map .int)] = some (.tup [tupI rows, tupI cols], []) := by
  obtain ⟨y0, e0, p0, q0⟩ := dr_ok hd (z := 0) (by omega) (by omega)
  obtain ⟨y1, e1, p1, q1⟩ := dr_ok hd (z := 1) (by omega) (by omega)
  obtain ⟨y2, e2, p2, q2⟩ := dr_ok hd (z := 2) (by omega) (by omega)
  have m0 : binI .mod y0 5 = some (y0 % 5) := binI_mod' _ _ (by omega)
  have m1 : binI .mod y1 5 = some (y1 % 5) := binI_mod' _ _ (by omega)
  have m2 : binI .mod y2 4 = some (y2 % 4) := binI_mod' _ _ (by omega)
  obtain ⟨a, ha⟩ := Int.eq_ofNat_of_zero_le (show 0 ≤ 1 + y0 % 5 by omega)
  obtain ⟨w, hw⟩ := Int.eq_ofNat_of_zero_le (show 0 ≤ 1 + y1 % 5 by omega)
  have ha' : 1 ≤ a ∧ a ≤ 5 := by omega
  have hw' : 1 ≤ w ∧ w ≤ 5 := by omega
  by_cases hc : y2 % 4 = 1
  · obtain ⟨rows, er, lr, nr⟩ := comp_ok (purely tab (callF tab k)) ds hd a (by omega) 4 (by omega) 1 [some (.lst (ds.map .int)), some (.int a), some (.int w), none, none, none, none, none, none] rfl rfl fun j => ⟨rfl, rfl⟩
    obtain ⟨cols, ec, lc, nc⟩ := comp_ok (purely tab (callF tab k)) ds hd w (by omega) 12 (by omega) 2 [some (.lst (ds.map .int)), some (.int a), some (.int w), some (tupI rows), none, none, none, none, none] rfl rfl fun j => ⟨rfl, rfl⟩
    have er' : evalE (purely tab (callF tab k)) C_law_sums_2 _ = _ := er
    have ec' : evalE (purely tab (callF tab k)) C_law_sums_1 _ = _ := ec
    have t1 : blt .tuple (.lst (rows.map .int)) = some (tupI rows) := rfl
    have t2 : blt .tuple (.lst (cols.map .int)) = some (tupI cols) := rfl
    refine ⟨a, w, rows, cols, ha', hw', ⟨lr, lc, nr, nc⟩, callF_io0 (d := f_law_sums) rfl rfl rfl (ρ := [some (.lst (ds.map .int)), some (.int a), some (.int w), some (tupI rows), none, none, none, none, none]) ?_⟩
    have vt : evalE (purely tab (callF tab k)) (.varT 3) [some (.lst (ds.map .int)), some (.int a), some (.int w), some (tupI rows), none, none, none, none, none] = some (tupI rows) := by rw [ev_varT]; rfl
    show execs tab _ f_law_sums.body [some (.lst (ds.map .int)), none, none, none, none, none, none, none, none] = _
    simp -implicitDefEqProofs only [f_law_sums, I_law_sums_3, ex_cons, ex_nil, ex_asg, ex_ife, ex_ret, ev_cmp, ev_bin, ev_blt, ev_idx, ev_int, ev_var, ev_tup, ev_es1, ev_es0, vt, getv_zero, getv_succ, List.set_cons_succ, List.set_cons_zero, Option.bind_some, Option.map_some, bin_int, binI_add', idx_lst, e0, e1, e2, blt_int, m0, m1, m2, ha, hw, cmp_eq', hc, decide_true, bl?_bl, if_true, er', ec', t1, t2, guard_2]
  · have r1 := rep_zero a (by omega)
    have r2 := rep_zero w (by omega)
    have rc0 : RC a w (List.replicate a 0) (List.replicate w 0) := ⟨by simp, by simp, fun x hx => by rw [(List.mem_replicate.mp hx).2]; exact Int.le_refl 0, fun x hx => by rw [(List.mem_replicate.mp hx).2]; exact Int.le_refl 0⟩
    obtain ⟨rows1, cols1, y4, y6, rc1, f1⟩ := fill_ok k ds hd a w ha' hw' _ _ rc0 none none none none
    obtain ⟨rows2, z6, z7, z8, rc2, f2⟩ := moves_ok k ds hd a w ha' rows1 cols1 rc1 y4 y6 none none
    have t1 : blt .tuple (.lst (rows2.map .int)) = some (tupI rows2) := rfl
    have t2 : blt .tuple (.lst (cols1.map .int)) = some (tupI cols1) := rfl
    refine ⟨a, w, rows2, cols1, ha', hw', rc2, callF_io0 (d := f_law_sums) rfl rfl rfl (ρ := [some (.lst (ds.map .int)), some (.int a), some (.int w), some (.lst (rows2.map .int)), y4, some (.lst (cols1.map .int)), z6, z7, z8]) ?_⟩
    show execs tab _ f_law_sums.body [some (.lst (ds.map .int)), none, none, none, none, none, none, none, none] = _
    simp -implicitDefEqProofs only [f_law_sums, ex_cons, ex_nil, ex_asg, ex_ife, ex_ret, ev_cmp, ev_bin, ev_blt, ev_idx, ev_int, ev_var, ev_tup, ev_lst, ev_es1, ev_es0, getv_zero, getv_succ, List.set_cons_succ, List.set_cons_zero, Option.bind_some, Option.map_some, bin_int, binI_add', idx_lst, e0, e1, e2, blt_int, m0, m1, m2, ha, hw, cmp_eq', hc, decide_false, bl?_bl, if_false, Bool.false_eq_true, guard_1, r1, r2, f1, f2, t1, t2, guard_2]
end Law

end

section
set_option maxRecDepth 100000
set_option maxHeartbeats 4000000
namespace Law
open Mini
theorem kind_int (k : Nat) (a : Int) : callF tab (k + 1) 4 [.int a] = some (.int 2, []) := rfl
theorem equal_int (k : Nat) (a b : Int) : callF tab (k + 2) 5 [.int a, .int b] = some (.bl (decide (a = b)), []) := by
  have k1 : purely tab (callF tab (k + 1)) 4 [.int a] = some (.int 2) := purely_ok (d := f_law_kind) rfl rfl (kind_int k a)
  have k2 : purely tab (callF tab (k + 1)) 4 [.int b] = some (.int 2) := purely_ok (d := f_law_kind) rfl rfl (kind_int k b)
  have i1 : isi .tuple (.int b) = some false := rfl
  have i2 : isi .list (.int b) = some false := rfl
  have i3 : isi .dict (.int b) = some false := rfl
  refine callF_io0 (d := f_law_equal) rfl rfl rfl (ρ := [some (.int a), some (.int b), none, none, none]) ?_
  show execs tab _ f_law_equal.body [some (.int a), some (.int b), none, none, none] = _
  simp -implicitDefEqProofs only [f_law_equal, ex_cons, ex_nil, ex_ife, ex_ret, ev_cmp, ev_or, ev_isi, ev_call, ev_es1, ev_es0, ev_var, getv_zero, getv_succ, Option.bind_some, Option.map_some, k1, k2, cmp_ne', cmp_eq', decide_true, Bool.not_true, bl?_bl, if_false, Bool.false_eq_true, i1, i2, i3]
theorem rev_tupI (ns : List Int) : revW (tupI ns) = some (tupI ns.reverse) := by
  show some (W.tup (ns.map W.int).reverse) = _
  rw [← List.map_reverse]
  rfl
set_option maxRecDepth 1000000 in
theorem A_ones : K12.A [1, 1, 1, 1, 1, 1] [1, 1, 1, 1, 1, 1] = 720 := by decide +kernel
theorem A_none : K12.A [0] [1] = 0 := by decide +kernel
theorem law_true (ns : List Int) : runLaw tab 60 i_law ns = some (.bl true) := by
  obtain ⟨n, hn⟩ := cell_ok 58 ns
  obtain ⟨ds, hds, hd⟩ := draws_ok 58 n
  obtain ⟨a, w, rows, cols, ha, hw, rc, hs⟩ := sums_ok 58 ds hd
  have l1 := rc.la
  have l2 := rc.lw
  have c1 : purely tab (callF tab 59) 2 [.scr ns, .int 0] = some (.int n) := purely_ok (d := f_law_cell) rfl rfl hn
  have c2 : purely tab (callF tab 59) 3 [.int n, .int 50] = some (.lst (ds.map .int)) := purely_ok (d := f_law_draws) rfl rfl hds
  have c3 : purely tab (callF tab 59) 6 [.lst (ds.map .int)] = some (.tup [tupI rows, tupI cols]) := purely_ok (d := f_law_sums) rfl rfl hs
  have c4 : purely tab (callF tab 59) 7 [tupI rows, tupI cols] = some (.int (K12.A rows cols)) := by
    refine purely_ok (d := f_law_tables) rfl rfl ?_
    have := tables_ok rows cols (58 - rows.length) (by omega) (by omega) rc.nw
    rw [show 58 - rows.length + rows.length + 1 = 59 by omega] at this
    exact this
  have cnt : ∀ r c : List Int, r.length ≤ 6 → c.length ≤ 6 → 1 ≤ c.length → purely tab (callF tab 59) 1 [tupI r, tupI c] = some (.int (K12.A r c)) := fun r c h1 h2 h3 => purely_ok (d := f_count_tables) rfl rfl (count_ok 57 r c h1 h2 h3)
  have eq : ∀ x y : Int, purely tab (callF tab 59) 5 [.int x, .int y] = some (.bl (decide (x = y))) := fun x y => purely_ok (d := f_law_equal) rfl rfl (equal_int 57 x y)
  have d1 := cnt rows cols (by omega) (by omega) (by omega)
  have d2 := cnt cols rows (by omega) (by omega) (by omega)
  have d3 := cnt rows.reverse cols (by rw [List.length_reverse]; omega) (by omega) (by omega)
  have d4 := cnt rows cols.reverse (by omega) (by rw [List.length_reverse]; omega) (by rw [List.length_reverse]; omega)
  have d5 := cnt [1, 1, 1, 1, 1, 1] [1, 1, 1, 1, 1, 1] (by decide) (by decide) (by decide)
  have d6 := cnt [0] [1] (by decide) (by decide) (by decide)
  have s2 : K12.A cols rows = K12.A rows cols := (K12.A_symm cols rows).symm
  have s3 : K12.A rows.reverse cols = K12.A rows cols := K12.A_perm (List.reverse_perm rows) cols
  have s4 : K12.A rows cols.reverse = K12.A rows cols := by rw [K12.A_symm cols.reverse rows, K12.A_perm (List.reverse_perm cols) rows, s2]
  rw [s2] at d2
  rw [s3] at d3
  rw [s4] at d4
  rw [A_ones] at d5
  rw [A_none] at d6
  have t6 : W.tup [.int 1, .int 1, .int 1, .int 1, .int 1, .int 1] = tupI [1, 1, 1, 1, 1, 1] := rfl
  have t0 : W.tup [.int 0] = tupI [0] := rfl
  have t1 : W.tup [.int 1] = tupI [1] := rfl
  have fin : callF tab (59 + 1) 8 [.scr ns] = some (.bl true, []) := by
    refine callF_io0 (d := f_law) rfl rfl rfl (ρ := [some (.scr ns), some (.lst (ds.map .int)), some (tupI rows), some (tupI cols), some (.int (K12.A rows cols))]) ?_
    show execs tab _ f_law.body [some (.scr ns), none, none, none, none] = _
    simp -implicitDefEqProofs only [f_law, ex_cons, ex_nil, ex_asg, ex_unp, ex_ife, ex_ret, ev_or, ev_and, ev_nt, ev_rev, ev_tup, ev_int, ev_call, ev_es1, ev_es0, ev_var, getv_zero, getv_succ, List.set_cons_succ, List.set_cons_zero, Option.bind_some, Option.map_some, c1, c2, c3, asn_many, sm_cons, sm_nil, c4, d1, d2, d3, d4, eq, decide_true, bl?_bl, Bool.not_true, if_false, if_true, Bool.false_eq_true, rev_tupI, guard_6, guard_1, t6, t0, t1, d5, d6]
  show (callF tab (59 + 1) 8 [.scr ns]).map (·.1) = _
  rw [fin]
  rfl
end Law

end

namespace Law
open Mini PySem PySem.Spec PyProof.Rows L2
set_option maxRecDepth 100000
def N_ways : List Str := ["many", "left", "found", "column", "row", "one"]
def N_count_tables : List Str := ["rows", "columns", "known", "many", "after", "left", "row"]
def N_law_cell : List Str := ["script", "k"]
def N_law_draws : List Str := ["cell", "amount", "rows", "left", "k", "mixed"]
def N_law_kind : List Str := ["x"]
def N_law_equal : List Str := ["x", "due", "k", "key", "other"]
def N_law_sums : List Str := ["draws", "amount", "wide", "rows", "k", "columns", "i", "turn", "j"]
def N_law_tables : List Str := ["rows", "columns", "found", "number", "row", "k", "left"]
def N_law : List Str := ["script", "draws", "rows", "columns", "due"]
def nms : List Str := ["ways", "count_tables", "_law_cell", "_law_draws", "_law_kind", "_law_equal", "_law_sums", "_law_tables", "law"]

def top (i : Nat) : Stmt := PySem.Challenge.pw_hornhive_k12_tables_counted.main.body.getD i (.Pass ⟨0, 0, 0, 0⟩)
def st_ways : Stmt := top 1
set_option maxRecDepth 1000000 in
theorem b_ways : fnB tab nms [] f_ways N_ways st_ways = true := by decide +kernel
def st_count_tables : Stmt := top 2
set_option maxRecDepth 1000000 in
theorem b_count_tables : fnB tab nms [] f_count_tables N_count_tables st_count_tables = true := by decide +kernel
def st_law_cell : Stmt := top 4
set_option maxRecDepth 1000000 in
theorem b_law_cell : fnB tab nms [] f_law_cell N_law_cell st_law_cell = true := by decide +kernel
def st_law_draws : Stmt := top 5
set_option maxRecDepth 1000000 in
theorem b_law_draws : fnB tab nms [] f_law_draws N_law_draws st_law_draws = true := by decide +kernel
def st_law_kind : Stmt := top 6
set_option maxRecDepth 1000000 in
theorem b_law_kind : fnB tab nms [] f_law_kind N_law_kind st_law_kind = true := by decide +kernel
def st_law_equal : Stmt := top 7
set_option maxRecDepth 1000000 in
theorem b_law_equal : fnB tab nms [] f_law_equal N_law_equal st_law_equal = true := by decide +kernel
def st_law_sums : Stmt := top 8
set_option maxRecDepth 1000000 in
theorem b_law_sums : fnB tab nms [] f_law_sums N_law_sums st_law_sums = true := by decide +kernel
def st_law_tables : Stmt := top 9
set_option maxRecDepth 1000000 in
theorem b_law_tables : fnB tab nms [] f_law_tables N_law_tables st_law_tables = true := by decide +kernel
def st_law : Stmt := top 10
set_option maxRecDepth 1000000 in
theorem b_law : fnB tab nms [] f_law N_law st_law = true := by decide +kernel
set_option maxHeartbeats 4000000 in
theorem all_mk {l : PySem.W.OpenLaw} {w : World} {K : PySem.W.Frag} {h : Heap} {mg : Str → Option Value} {fa f0 f1 f2 f3 f4 f5 f6 f7 f8 : Addr} (X : K.In h) (G : h.Ns mainGlobals mg) (hfa : mg "law" = some (.ref fa))
    {od0 an0 : Option Addr} {sl0 : Array (Option Value)} {oc0 kV0 dc0 pm0 cd0 ct0 : Value}
    {od1 an1 : Option Addr} {sl1 : Array (Option Value)} {oc1 kV1 dc1 pm1 cd1 ct1 : Value}
    {od2 an2 : Option Addr} {sl2 : Array (Option Value)} {oc2 kV2 dc2 pm2 cd2 ct2 : Value}
    {od3 an3 : Option Addr} {sl3 : Array (Option Value)} {oc3 kV3 dc3 pm3 cd3 ct3 : Value}
    {od4 an4 : Option Addr} {sl4 : Array (Option Value)} {oc4 kV4 dc4 pm4 cd4 ct4 : Value}
    {od5 an5 : Option Addr} {sl5 : Array (Option Value)} {oc5 kV5 dc5 pm5 cd5 ct5 : Value}
    {od6 an6 : Option Addr} {sl6 : Array (Option Value)} {oc6 kV6 dc6 pm6 cd6 ct6 : Value}
    {od7 an7 : Option Addr} {sl7 : Array (Option Value)} {oc7 kV7 dc7 pm7 cd7 ct7 : Value}
    {od8 an8 : Option Addr} {sl8 : Array (Option Value)} {oc8 kV8 dc8 pm8 cd8 ct8 : Value}
    (a0 : PySem.W.nsIn K mainGlobals "ways" = some (some (.ref f0))) (l0 : K.lookup f0 = some ⟨oc0, od0, .func (PySem.W.fnOf "ways" "ways" (defArgs st_ways) (defBody st_ways) (defScope st_ways) .none kV0 dc0 pm0 an0 cd0 ct0), sl0⟩) (c0 : PySem.W.codeIn K cd0 "ways" = true) (k0 : PySem.W.keepIn K (.ref f0) = true)
    (a1 : PySem.W.nsIn K mainGlobals "count_tables" = some (some (.ref f1))) (l1 : K.lookup f1 = some ⟨oc1, od1, .func (PySem.W.fnOf "count_tables" "count_tables" (defArgs st_count_tables) (defBody st_count_tables) (defScope st_count_tables) .none kV1 dc1 pm1 an1 cd1 ct1), sl1⟩) (c1 : PySem.W.codeIn K cd1 "count_tables" = true) (k1 : PySem.W.keepIn K (.ref f1) = true)
    (a2 : PySem.W.nsIn K mainGlobals "_law_cell" = some (some (.ref f2))) (l2 : K.lookup f2 = some ⟨oc2, od2, .func (PySem.W.fnOf "_law_cell" "_law_cell" (defArgs st_law_cell) (defBody st_law_cell) (defScope st_law_cell) .none kV2 dc2 pm2 an2 cd2 ct2), sl2⟩) (c2 : PySem.W.codeIn K cd2 "_law_cell" = true) (k2 : PySem.W.keepIn K (.ref f2) = true)
    (a3 : PySem.W.nsIn K mainGlobals "_law_draws" = some (some (.ref f3))) (l3 : K.lookup f3 = some ⟨oc3, od3, .func (PySem.W.fnOf "_law_draws" "_law_draws" (defArgs st_law_draws) (defBody st_law_draws) (defScope st_law_draws) .none kV3 dc3 pm3 an3 cd3 ct3), sl3⟩) (c3 : PySem.W.codeIn K cd3 "_law_draws" = true) (k3 : PySem.W.keepIn K (.ref f3) = true)
    (a4 : PySem.W.nsIn K mainGlobals "_law_kind" = some (some (.ref f4))) (l4 : K.lookup f4 = some ⟨oc4, od4, .func (PySem.W.fnOf "_law_kind" "_law_kind" (defArgs st_law_kind) (defBody st_law_kind) (defScope st_law_kind) .none kV4 dc4 pm4 an4 cd4 ct4), sl4⟩) (c4 : PySem.W.codeIn K cd4 "_law_kind" = true) (k4 : PySem.W.keepIn K (.ref f4) = true)
    (a5 : PySem.W.nsIn K mainGlobals "_law_equal" = some (some (.ref f5))) (l5 : K.lookup f5 = some ⟨oc5, od5, .func (PySem.W.fnOf "_law_equal" "_law_equal" (defArgs st_law_equal) (defBody st_law_equal) (defScope st_law_equal) .none kV5 dc5 pm5 an5 cd5 ct5), sl5⟩) (c5 : PySem.W.codeIn K cd5 "_law_equal" = true) (k5 : PySem.W.keepIn K (.ref f5) = true)
    (a6 : PySem.W.nsIn K mainGlobals "_law_sums" = some (some (.ref f6))) (l6 : K.lookup f6 = some ⟨oc6, od6, .func (PySem.W.fnOf "_law_sums" "_law_sums" (defArgs st_law_sums) (defBody st_law_sums) (defScope st_law_sums) .none kV6 dc6 pm6 an6 cd6 ct6), sl6⟩) (c6 : PySem.W.codeIn K cd6 "_law_sums" = true) (k6 : PySem.W.keepIn K (.ref f6) = true)
    (a7 : PySem.W.nsIn K mainGlobals "_law_tables" = some (some (.ref f7))) (l7 : K.lookup f7 = some ⟨oc7, od7, .func (PySem.W.fnOf "_law_tables" "_law_tables" (defArgs st_law_tables) (defBody st_law_tables) (defScope st_law_tables) .none kV7 dc7 pm7 an7 cd7 ct7), sl7⟩) (c7 : PySem.W.codeIn K cd7 "_law_tables" = true) (k7 : PySem.W.keepIn K (.ref f7) = true)
    (a8 : PySem.W.nsIn K mainGlobals "law" = some (some (.ref f8))) (l8 : K.lookup f8 = some ⟨oc8, od8, .func (PySem.W.fnOf "law" "law" (defArgs st_law) (defBody st_law) (defScope st_law) .none kV8 dc8 pm8 an8 cd8 ct8), sl8⟩) (c8 : PySem.W.codeIn K cd8 "law" = true) (k8 : PySem.W.keepIn K (.ref f8) = true)
    (z0 : PySem.W.nsIn K mainGlobals "len" = some none)
    (z1 : PySem.W.nsIn K mainGlobals "sum" = some none)
    (z2 : PySem.W.nsIn K mainGlobals "all" = some none)
    (z3 : PySem.W.nsIn K mainGlobals "max" = some none)
    (z4 : PySem.W.nsIn K mainGlobals "min" = some none)
    (z5 : PySem.W.nsIn K mainGlobals "sorted" = some none)
    (z6 : PySem.W.nsIn K mainGlobals "tuple" = some none)
    (z7 : PySem.W.nsIn K mainGlobals "list" = some none)
    (z8 : PySem.W.nsIn K mainGlobals "int" = some none)
    (z9 : PySem.W.nsIn K mainGlobals "abs" = some none)
    (z10 : PySem.W.nsIn K mainGlobals "str" = some none)
    (z11 : PySem.W.nsIn K mainGlobals "isinstance" = some none)
    (z12 : PySem.W.nsIn K mainGlobals "range" = some none)
    (z13 : PySem.W.nsIn K mainGlobals "bool" = some none)
    (z14 : PySem.W.nsIn K mainGlobals "dict" = some none)
    (z15 : PySem.W.nsIn K mainGlobals "ValueError" = some none)
    : ∃ fd : FuncData, (∀ (s : Shared) (v : Value), BindsTo s fd ⟨[v], []⟩ [("script", v)]) ∧ ∀ base : Heap, K.In base → base.Ns mainGlobals mg → FnOk l.prog w K mg base CX0 60 fa fd ["script"] (spF K f_law (callF tab 60 i_law)) := by
  have e := hfa.symm.trans (PySem.W.mg_of X G a8)
  cases e
  have F0 := fun_mk (st := st_ways) l0 c0 k0
  have F1 := fun_mk (st := st_count_tables) l1 c1 k1
  have F2 := fun_mk (st := st_law_cell) l2 c2 k2
  have F3 := fun_mk (st := st_law_draws) l3 c3 k3
  have F4 := fun_mk (st := st_law_kind) l4 c4 k4
  have F5 := fun_mk (st := st_law_equal) l5 c5 k5
  have F6 := fun_mk (st := st_law_sums) l6 c6 k6
  have F7 := fun_mk (st := st_law_tables) l7 c7 k7
  have F8 := fun_mk (st := st_law) l8 c8 k8
  have B0 := F0.binds (ps := N_ways.take 2) fun _ _ _ _ _ _ us hl => match us, hl with | [_, _], _ => rfl
  have B1 := F1.binds (ps := N_count_tables.take 2) fun _ _ _ _ _ _ us hl => match us, hl with | [_, _], _ => rfl
  have B2 := F2.binds (ps := N_law_cell.take 2) fun _ _ _ _ _ _ us hl => match us, hl with | [_, _], _ => rfl
  have B3 := F3.binds (ps := N_law_draws.take 2) fun _ _ _ _ _ _ us hl => match us, hl with | [_, _], _ => rfl
  have B4 := F4.binds (ps := N_law_kind.take 1) fun _ _ _ _ _ _ us hl => match us, hl with | [_], _ => rfl
  have B5 := F5.binds (ps := N_law_equal.take 2) fun _ _ _ _ _ _ us hl => match us, hl with | [_, _], _ => rfl
  have B6 := F6.binds (ps := N_law_sums.take 1) fun _ _ _ _ _ _ us hl => match us, hl with | [_], _ => rfl
  have B7 := F7.binds (ps := N_law_tables.take 2) fun _ _ _ _ _ _ us hl => match us, hl with | [_, _], _ => rfl
  have B8 := F8.binds (ps := N_law.take 1) fun _ _ _ _ _ _ us hl => match us, hl with | [_], _ => rfl
  have P : Prg K mg tab nms [] := {
    fn := fun f d hd => by
      match f, hd with
      | 0, hd => cases hd; exact ⟨"ways", "ways", st_ways, _, _, N_ways, rfl, PySem.W.mg_of X G a0, F0, B0, b_ways⟩
      | 1, hd => cases hd; exact ⟨"count_tables", "count_tables", st_count_tables, _, _, N_count_tables, rfl, PySem.W.mg_of X G a1, F1, B1, b_count_tables⟩
      | 2, hd => cases hd; exact ⟨"_law_cell", "_law_cell", st_law_cell, _, _, N_law_cell, rfl, PySem.W.mg_of X G a2, F2, B2, b_law_cell⟩
      | 3, hd => cases hd; exact ⟨"_law_draws", "_law_draws", st_law_draws, _, _, N_law_draws, rfl, PySem.W.mg_of X G a3, F3, B3, b_law_draws⟩
      | 4, hd => cases hd; exact ⟨"_law_kind", "_law_kind", st_law_kind, _, _, N_law_kind, rfl, PySem.W.mg_of X G a4, F4, B4, b_law_kind⟩
      | 5, hd => cases hd; exact ⟨"_law_equal", "_law_equal", st_law_equal, _, _, N_law_equal, rfl, PySem.W.mg_of X G a5, F5, B5, b_law_equal⟩
      | 6, hd => cases hd; exact ⟨"_law_sums", "_law_sums", st_law_sums, _, _, N_law_sums, rfl, PySem.W.mg_of X G a6, F6, B6, b_law_sums⟩
      | 7, hd => cases hd; exact ⟨"_law_tables", "_law_tables", st_law_tables, _, _, N_law_tables, rfl, PySem.W.mg_of X G a7, F7, B7, b_law_tables⟩
      | 8, hd => cases hd; exact ⟨"law", "law", st_law, _, _, N_law, rfl, PySem.W.mg_of X G a8, F8, B8, b_law⟩
      | f + 9, hd => cases hd
    bn := fun x hx => by
      simp only [bnames, List.mem_cons, List.not_mem_nil, or_false] at hx
      rcases hx with rfl | rfl | rfl | rfl | rfl | rfl | rfl | rfl | rfl | rfl | rfl | rfl | rfl | rfl | rfl | rfl
      · exact PySem.W.mg_none_of X G z0
      · exact PySem.W.mg_none_of X G z1
      · exact PySem.W.mg_none_of X G z2
      · exact PySem.W.mg_none_of X G z3
      · exact PySem.W.mg_none_of X G z4
      · exact PySem.W.mg_none_of X G z5
      · exact PySem.W.mg_none_of X G z6
      · exact PySem.W.mg_none_of X G z7
      · exact PySem.W.mg_none_of X G z8
      · exact PySem.W.mg_none_of X G z9
      · exact PySem.W.mg_none_of X G z10
      · exact PySem.W.mg_none_of X G z11
      · exact PySem.W.mg_none_of X G z12
      · exact PySem.W.mg_none_of X G z13
      · exact PySem.W.mg_none_of X G z14
      · exact PySem.W.mg_none_of X G z15
    gi := fun p hp => nomatch hp }
  exact ⟨_, fun s v => .of_eq rfl, fun base _ _ => P.law 59 (d := f_law) (f := i_law) rfl F8 b_law⟩

end Law

open PySem PySem.W PyProof.Rows
set_option maxHeartbeats 0 in
theorem PySem.Challenge.cw_hornhive_k12_tables_counted_holds : PySem.Challenge.rw_hornhive_k12_tables_counted.Holds := by
  w_on; o_law; k_head; (case hw => w_witness2)
  k_fill
  refine L2.walk_ofB (l := PySem.Challenge.rw_hornhive_k12_tables_counted) (n := 63) (k := 60) (x := "script") (CX := fun _ => L2.CX0) (sp := fun w => Mini.spF _ Law.f_law (Mini.callF Law.tab 60 Law.i_law)) rfl (by decide) rfl ⟨rfl, by decide, by decide⟩ (fun w h Y => PySem.W.kIn_of Y) ?F (fun w H a ns hl hb hO hS => Mini.law_sp rfl rfl (Law.law_true ns) hO hS) (fun _ _ _ _ _ h => h)
  case F =>
    intro w mg fa h KX G hmg
    refine' Law.all_mk KX G hmg ?a0 ?l0 ?c0 ?k0 ?a1 ?l1 ?c1 ?k1 ?a2 ?l2 ?c2 ?k2 ?a3 ?l3 ?c3 ?k3 ?a4 ?l4 ?c4 ?k4 ?a5 ?l5 ?c5 ?k5 ?a6 ?l6 ?c6 ?k6 ?a7 ?l7 ?c7 ?k7 ?a8 ?l8 ?c8 ?k8 ?z0 ?z1 ?z2 ?z3 ?z4 ?z5 ?z6 ?z7 ?z8 ?z9 ?z10 ?z11 ?z12 ?z13 ?z14 ?z15
    (case a0 => k_is); (case l0 => k_is); (case c0 => k_is); (case k0 => k_is); (case a1 => k_is); (case l1 => k_is); (case c1 => k_is); (case k1 => k_is); (case a2 => k_is); (case l2 => k_is); (case c2 => k_is); (case k2 => k_is); (case a3 => k_is); (case l3 => k_is); (case c3 => k_is); (case k3 => k_is); (case a4 => k_is); (case l4 => k_is); (case c4 => k_is); (case k4 => k_is); (case a5 => k_is); (case l5 => k_is); (case c5 => k_is); (case k5 => k_is); (case a6 => k_is); (case l6 => k_is); (case c6 => k_is); (case k6 => k_is); (case a7 => k_is); (case l7 => k_is); (case c7 => k_is); (case k7 => k_is); (case a8 => k_is); (case l8 => k_is); (case c8 => k_is); (case k8 => k_is); (case z0 => k_is); (case z1 => k_is); (case z2 => k_is); (case z3 => k_is); (case z4 => k_is); (case z5 => k_is); (case z6 => k_is); (case z7 => k_is); (case z8 => k_is); (case z9 => k_is); (case z10 => k_is); (case z11 => k_is); (case z12 => k_is); (case z13 => k_is); (case z14 => k_is); (case z15 => k_is)
