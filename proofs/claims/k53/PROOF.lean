import PyProof.Rows.All
import HandS.ForMost
import HandS.Exc
import HandS.TryOnly
import HandS.ExcOwn
import HandS.Spec
import HandS.Lambda
import HandS.Star
import HandS.IsInst
import HandS.Deep
import HandS.TupMul
import HandS.TupAny
import KE.KTupSum
import HandS.Style
import KE.GoesMore
import HandS.Property
import PyProof.InstEq
import KE.KExcSuper
import HandS.ExcInit
import HandS.ExcIs
import HandS.ExcField
import HandS.HeadHook4
import HandS.HeadWalk
import HandS.Head2
import HandS.HeadEnd
import PySem.Challenge.RW_inkbands_k53_whole_presses_and_spoilt_me
section
set_option autoImplicit false
/-! Core: a small language of slots and values, its weakest ends, without any model in sight. -/
namespace IB

/-- a value: what never changes stands as it is, what changes stands in the store at a place -/
inductive PV where
  | non | bl (b : Bool) | int (i : Int) | str (x : String) | tup (xs : List PV) | lst (xs : List PV) | rol (xs : List PV) | ref (a : Nat)
  deriving Inhabited

inductive BOp | add | sub | mul | fdiv | mod | pow
  deriving DecidableEq
inductive COp | eq | ne | lt | le | gt | ge | isin | notin | is | isnot
  deriving DecidableEq
/-- built-in functions -/
inductive Bi | len | sum | int | abs | min | max | tuple | all | any | divmod | str
  deriving DecidableEq
/-- kinds that isinstance asks for -/
inductive Ty | int | bool | str | tuple | list | dict | cls (c : String)
  deriving DecidableEq

mutual
inductive CE where
  | non | bl (b : Bool) | int (i : Int) | str (s : String)
  | var (i : Nat) | glob (x : String)
  | tup (es : CAs)
  | frh (box : Bool) (f : CF)
  | bin (op : BOp) (a b : CE) | neg (a : CE)
  | cmp (op : COp) (a b : CE) | chn (a : CE) (o1 : COp) (b : CE) (o2 : COp) (c : CE)
  | and (a b : CE) | or (a b : CE) | not (a : CE) | ife (c a b : CE)
  | call (f : String) (es : CAs)
  | calv (i : Nat) (es : CAs)
  | bi (b : Bi) (es : CAs)
  | isi (e : CE) (t : Ty)
  | exf (i : Nat) (f : String) | exi (i : Nat) (c : String)
  | sub (a i : CE) | sli (a lo hi : CE)
  | att (e : CE) (f : String) | mth (e : CE) (m : String) (es : CAs) | lme (e : CE) (m : String) (es : CAs)
  | new (c : String) (es : CAs)
  /-- ==, != of own things whose class has no __eq__ -/
  | ide (ne : Bool) (a b : CE)
/-- forms of a new list -/
inductive CF where
  | dis (es : CAs)
  | cmp (el : CE) (t : CT) (it : CI) (c : CE) (own : List Nat)
  | ofl (e : CE)
inductive CAs where
  | nil | pos (e : CE) (r : CAs) | star (e : CE) (r : CAs) | kw (x : String) (e : CE) (r : CAs)
  | fn (f : String) (r : CAs) | lam (np : Nat) (caps : List Nat) (body : CE) (r : CAs)
inductive CI where
  | seq (e : CE) | rng1 (a : CE) | rng2 (a b : CE) | rng3 (a b c : CE) | enum (i : CE) | zip (a b : CE)
inductive CT where
  | var (i : Nat) | tup (ts : CTs) | sub (a i : CE) | att (e : CE) (f : String)
inductive CTs where
  | nil | cons (t : CT) (r : CTs)
end

mutual
inductive CS where
  | expr (e : CE) | asg (t : CT) (e : CE) | ife (c : CE) (a b : CSs) | for (t : CT) (it : CI) (b : CSs) | whl (c : CE) (b : CSs)
  | ret (e : CE) | retn | rais (c : String) (es : CAs) | try (b : CSs) (hs : CHs) | pass | brk | cont
inductive CSs where
  | nil | cons (s : CS) (r : CSs)
inductive CHs where
  | nil | cons (c : String) (i : Option Nat) (b : CSs) (r : CHs)
end

/-- what a slot holds: a value, a def, a lambda with what it captured, a caught exception -/
inductive SV where
  | pv (v : PV) | fn (f : String) | clo (np : Nat) (body : CE) (caps : List (Option SV)) | exc (c : String) (fs : List (String × PV))

inductive MO where
  | lst (xs : List PV) | dic (kvs : List (PV × PV)) | ins (c : String) (fs : List (String × PV))
abbrev MM := Nat → Option MO
def upd (M : MM) (a : Nat) (o : MO) : MM := fun b => if b = a then some o else M b
/-- only what stood in the first one -/
def restr (M M' : MM) : MM := fun b => if (M b).isSome then M' b else none

abbrev Env := List (Option SV)
abbrev XK := String → List (String × PV) → MM → Prop
abbrev WP (α : Type) := MM → (α → MM → Prop) → XK → Prop

structure CDef where
  ps : List String
  slots : Nat
  mode : Nat
  body : CSs
structure CCls where
  init : Option String
  props : List (String × String)
  meths : List (String × String)
  flds : List String
  /-- == is the thing's own -/
  plain : Bool
structure Gl where
  defs : String → Option CDef
  consts : String → Option PV
  clss : String → Option CCls
  /-- an exception's class: what it stands under (itself too), its fields -/
  excs : String → Option (List String × List String)

def line : Nat := 16777216

/-! ### values -/
mutual
def PV.eqv : PV → PV → Bool
  | .non, .non => true
  | .bl a, .bl b => a == b
  | .bl a, .int j => (if a then 1 else 0) == j
  | .int i, .bl b => i == (if b then 1 else 0)
  | .int i, .int j => i == j
  | .str x, .str y => x == y
  | .tup xs, .tup ys => PV.eqvs xs ys
  | .lst xs, .lst ys => PV.eqvs xs ys
  | _, _ => false
def PV.eqvs : List PV → List PV → Bool
  | [], [] => true
  | x :: xs, y :: ys => PV.eqv x y && PV.eqvs xs ys
  | _, _ => false
end
/-- data alone: nested at most so deep, no place within -/
def PV.dat : Nat → PV → Bool
  | _, .ref _ => false
  | _, .rol _ => false
  | 0, .tup _ => false
  | 0, .lst _ => false
  | n + 1, .tup xs => xs.all (PV.dat n)
  | n + 1, .lst xs => xs.all (PV.dat n)
  | _, _ => true
/-- the list at a place read -/
def rd (M : MM) : PV → PV
  | .ref a => match M a with | some (.lst xs) => .lst xs | _ => .ref a
  | v => v
/-- the items of a tuple or list -/
def itemsOf (M : MM) (v : PV) : Option (List PV) :=
  match rd M v with
  | .tup xs => some xs
  | .lst xs => some xs
  | _ => none
mutual
/-- the lists that stand in the store of the one but not of the other are taken as they are -/
def frz (M M' : MM) : Nat → PV → PV
  | 0, v => v
  | n + 1, .ref a => if (M a).isSome then .ref a else match M' a with | some (.lst xs) => .lst (xs.map (frz M M' n)) | _ => .ref a
  | n + 1, .tup xs => .tup (xs.map (frz M M' n))
  | _, v => v
end
/-- the items of a list -/
def listOf (M : MM) (v : PV) : Option (List PV) :=
  match rd M v with
  | .lst xs => some xs
  | _ => none
/-- .. of one that is only read, too -/
def itemsR (M : MM) (v : PV) : Option (List PV) :=
  match v with
  | .ref a => match M a with | some (.lst xs) => some xs | _ => none
  | .tup xs => some xs
  | .lst xs => some xs
  | .rol xs => some xs
  | _ => none
def idx? (n : Nat) (i : Int) : Option Nat :=
  if 0 ≤ i then (if i < (n : Int) then some i.toNat else none) else if -(n : Int) ≤ i then some (i + (n : Int)).toNat else none
def clampIx (n : Nat) (i : Int) : Nat := if i < 0 then (i + (n : Int)).toNat else min i.toNat n
def sliceOf {α : Type} (xs : List α) (lo hi : Option Int) : List α :=
  let l := match lo with | none => 0 | some i => clampIx xs.length i
  let h := match hi with | none => xs.length | some i => clampIx xs.length i
  (xs.drop l).take (h - l)

/-! ### weakest ends of the operations -/
variable (G : Gl)
def mulOk (i j : Int) : Prop := (-(2 ^ 64) < i ∧ i < 2 ^ 64) ∨ (-(2 ^ 64) < j ∧ j < 2 ^ 64)
def wBin (op : BOp) (x y : PV) : WP PV := fun M Q _ =>
  match op, rd M x, rd M y with
  | .add, .int i, .int j => Q (.int (i + j)) M
  | .sub, .int i, .int j => Q (.int (i - j)) M
  | .mul, .int i, .int j => mulOk i j ∧ Q (.int (i * j)) M
  | .fdiv, .int i, .int j => (j ≠ 0 ∧ j.natAbs < 1073741824) ∧ Q (.int (i.fdiv j)) M
  | .mod, .int i, .int j => 0 < j ∧ Q (.int (i % j)) M
  | .pow, .int i, .int j => (0 ≤ j ∧ j ≤ 1000000 ∧ i.natAbs < 2 ^ 64) ∧ Q (.int (i ^ j.toNat)) M
  | .add, .tup xs, .tup ys => xs.length + ys.length ≤ line ∧ Q (.tup (xs ++ ys)) M
  | .add, .lst xs, .lst ys => xs.length + ys.length ≤ line ∧ Q (.lst (xs ++ ys)) M
  | .mul, .tup xs, .int n => (xs ≠ [] ∧ 1 ≤ n ∧ n ≤ 1000 ∧ xs.length ≤ 1000) ∧ Q (.tup (List.replicate n.toNat xs).flatten) M
  | .mul, .lst xs, .int n => (xs.length * n.toNat ≤ line ∧ -(2 ^ 62) < n ∧ n < 2 ^ 62) ∧ Q (.lst (List.replicate n.toNat xs).flatten) M
  | _, _, _ => False
def wEq (x y : PV) : WP Bool := fun M Q X =>
  (PV.dat 50 (rd M x) = true ∧ PV.dat 50 (rd M y) = true ∧ Q (PV.eqv (rd M x) (rd M y)) M)
def wIn (x y : PV) (M : MM) (Q : Bool → MM → Prop) : Prop :=
  match rd M y with
  | .lst ys => PV.dat 50 x = true ∧ ys.all (PV.dat 49) = true ∧ Q (ys.any fun z => PV.eqv z x) M
  | .tup ys => PV.dat 0 x = true ∧ ys.all (PV.dat 0) = true ∧ Q (ys.any fun z => PV.eqv z x) M
  | _ => False
def wCmp (op : COp) (x y : PV) : WP Bool := fun M Q X =>
  match op with
  | .eq => wEq x y M Q X
  | .ne => wEq x y M (fun b => Q (!b)) X
  | .lt => (match x, y with | .int i, .int j => Q (decide (i < j)) M | _, _ => False)
  | .le => (match x, y with | .int i, .int j => Q (decide (i ≤ j)) M | _, _ => False)
  | .gt => (match x, y with | .int i, .int j => Q (decide (j < i)) M | _, _ => False)
  | .ge => (match x, y with | .int i, .int j => Q (decide (j ≤ i)) M | _, _ => False)
  | .is => (match y with | .non => Q (match x with | .non => true | _ => false) M | .bl true => (match x with | .bl b => Q b M | _ => False) | _ => False)
  | .isnot => (match y with | .non => Q (match x with | .non => false | _ => true) M | _ => False)
  | .isin => wIn x y M Q
  | .notin => wIn x y M fun b => Q (!b)
def wSub (x y : PV) : WP PV := fun M Q _ =>
  match itemsR M x, y with
  | some xs, .int i => (match (idx? xs.length i).bind (xs[·]?) with | some v => Q v M | none => False)
  | _, _ => False
/-- a slice's bound: left out, or an int -/
def bound? (out : Bool) (v : PV) : Option (Option Int) :=
  if out = true then some none else match v with
  | .int i => some (some i)
  | _ => none
def wSli (x : PV) (l h : Option Int) : WP PV := fun M Q _ =>
  match x with
  | .tup xs => Q (.tup (sliceOf xs l h)) M
  | _ => (match itemsR M x with | some xs => Q (.lst (sliceOf xs l h)) M | none => False)
/-- ints alone -/
def ints? : List PV → Option (List Int)
  | [] => some []
  | .int i :: r => (ints? r).map (i :: ·)
  | _ :: _ => none
def bools? : List PV → Option (List Bool)
  | [] => some []
  | .bl i :: r => (bools? r).map (i :: ·)
  | _ :: _ => none
def wBi (b : Bi) (xs : List PV) : WP PV := fun M Q _ =>
  match b, xs with
  | .len, [x] => (match itemsR M x with | some ys => Q (.int ys.length) M | none => False)
  | .sum, [x] => (match (itemsOf M x).bind ints? with | some ys => Q (.int ys.sum) M | none => False)
  | .int, [.int i] => Q (.int i) M
  | .int, [.bl c] => Q (.int (if c then 1 else 0)) M
  | .abs, [.int i] => Q (.int (if i < 0 then -i else i)) M
  | .min, [.int i, .int j] => Q (.int (if j < i then j else i)) M
  | .max, [.int i, .int j] => Q (.int (if j > i then j else i)) M
  | .tuple, [x] => (match itemsOf M x with | some ys => Q (.tup ys) M | none => False)
  | .all, [x] => (match (listOf M x).bind bools? with | some ys => Q (.bl (ys.all id)) M | none => False)
  | .any, [x] => (match (listOf M x).bind bools? with | some ys => Q (.bl (ys.any id)) M | none => False)
  | .divmod, [.int i, .int j] => (0 < j ∧ j < 1073741824) ∧ Q (.tup [.int (i / j), .int (i % j)]) M
  | _, _ => False
/-- isinstance -/
def isOf (M : MM) (v : PV) (t : Ty) : Option Bool :=
  match v, t with
  | .non, .cls _ => some false | .bl _, .cls _ => some false | .int _, .cls _ => some false | .str _, .cls _ => some false | .tup _, .cls _ => some false | .lst _, .cls _ => some false | .rol _, .cls _ => some false
  | .non, _ => some false
  | .bl _, .bool => some true | .bl _, .int => some true | .bl _, _ => some false
  | .int _, .int => some true | .int _, _ => some false
  | .str _, .str => some true | .str _, _ => some false
  | .tup _, .tuple => some true | .tup _, _ => some false
  | .lst _, .list => some true | .lst _, _ => some false
  | .rol _, .list => some true | .rol _, _ => some false
  | .ref a, t => match M a, t with
    | some (.lst _), .list => some true
    | some (.dic _), .dict => some true
    | some (.ins c _), .cls d => some (c == d)
    | some _, _ => some false
    | none, _ => none
def putF (f : String) (v : PV) : List (String × PV) → List (String × PV)
  | [] => [(f, v)]
  | (k, x) :: r => if k = f then (k, v) :: r else (k, x) :: putF f v r
def wStore (o i v : PV) (M : MM) (Q : MM → Prop) : Prop :=
  match o with
  | .ref a => (match M a, i with
    | some (.lst xs), .int k => (match idx? xs.length k with | some n => Q (upd M a (.lst (xs.set n v))) | none => False)
    | _, _ => False)
  | _ => False
/-- methods of built-in types -/
def wMb (o : PV) (m : String) (xs : List PV) : WP PV := fun M Q _ =>
  match o with
  | .ref a => (match M a with
    | some (.lst ys) => (match m, xs with
      | "append", [x] => ys.length < line ∧ Q .non (upd M a (.lst (ys ++ [x])))
      | "extend", [x] => (match listOf M x with | some zs => ys.length + zs.length ≤ line ∧ Q .non (upd M a (.lst (ys ++ zs))) | none => False)
      | "pop", [] => (match ys.getLast? with | some y => Q y (upd M a (.lst ys.dropLast)) | none => False)
      | _, _ => False)
    | _ => False)
  | _ => False
end IB
end

section
set_option autoImplicit false
set_option linter.all false
namespace IB
structure Args where
  pos : List SV
  kw : List (String × PV)
abbrev CallT := SV → Args → WP PV
structure Ends where
  nx : Env → MM → Prop
  rt : PV → MM → Prop
  bk : Env → MM → Prop
  ct : Env → MM → Prop
abbrev XE := Env → XK
def noX : XK := fun _ _ _ => False

def forL (g : MM → Prop) (t : PV → Env → MM → (Env → MM → Prop) → Prop) (b : Env → MM → Ends → Prop) (D : Ends) : List PV → Env → MM → Prop
  | [], env, M => g M ∧ D.nx env M
  | x :: xs, env, M => g M ∧ t x env M fun env1 M1 => b env1 M1 { nx := forL g t b D xs, rt := D.rt, bk := D.nx, ct := forL g t b D xs }
def compL (g : MM → Prop) (t : PV → Env → MM → (Env → MM → Prop) → Prop) (c : Env → MM → (Bool → MM → Prop) → Prop) (el : Env → MM → (PV → MM → Prop) → Prop) (env : Env) (Q : List PV → MM → Prop) : List PV → List PV → MM → Prop
  | [], acc, M => g M ∧ Q acc M
  | x :: xs, acc, M => g M ∧ t x env M fun env1 M1 => c env1 M1 fun b M2 =>
      if b = true then el env1 M2 fun y M3 => acc.length < line ∧ compL g t c el env Q xs (acc ++ [y]) M3 else compL g t c el env Q xs acc M2
def whileN (t : Env → MM → (Bool → MM → Prop) → Prop) (b : Env → MM → Ends → Prop) (D : Ends) : Nat → Env → MM → Prop
  | 0, _, _ => False
  | n + 1, env, M => t env M fun c M1 => if c = true then b env M1 { nx := whileN t b D n, rt := D.rt, bk := D.nx, ct := whileN t b D n } else D.nx env M1

def wipeE (env : Env) : List Nat → Env
  | [] => env
  | v :: vs => (wipeE env vs).set v none
/-- without what was caught -/
def dropX (env : Env) : Env := env.map fun | some (.exc _ _) => none | x => x
/-- values alone -/
def clean (env : Env) : Env := env.map fun | some (.pv v) => some (.pv v) | _ => none
def slot (env : Env) (i : Nat) : Option SV := (env[i]?).join
/-- .. what a lambda keeps -/
def captured (env : Env) (is : List Nat) : List (Option SV) := is.map fun i => match slot env i with | some (.pv v) => some (.pv v) | _ => none
def pairUp (xs : List PV) : List PV := (xs.zipIdx 0).map fun (x, i) => .tup [.int i, x]
def upTo (lo : Int) (n : Nat) : List PV := (List.range n).map fun (i : Nat) => PV.int (lo + (i : Int))
/-- lo, lo + k, .. below hi -/
def stepN (lo hi k : Int) : Nat := if lo < hi then ((hi - lo - 1) / k + 1).toNat else 0
def byStep (lo k : Int) (n : Nat) : List PV := (List.range n).map fun (i : Nat) => PV.int (lo + (i : Int) * k)
def mid (i : Int) : Prop := -1000000 ≤ i ∧ i ≤ 1000000
def big62 (i : Int) : Prop := -(2 ^ 62) ≤ i ∧ i < 2 ^ 62

/-- a list or a tuple that is walked: its items as f has them; what must stay -/
def seqQ (f : List PV → List PV) (x : PV) (M : MM) (Q : List PV → (MM → Prop) → MM → Prop) : Prop :=
  match x with
  | .ref a => (match M a with | some (.lst xs) => Q (f xs) (fun M' => M' a = some (.lst xs)) M | _ => False)
  | .tup xs => Q (f xs) (fun _ => True) M
  | .lst xs => Q (f xs) (fun _ => True) M
  | _ => False
def tgLen : CTs → Nat
  | .nil => 0
  | .cons _ r => tgLen r + 1
def isNon : CE → Bool
  | .non => true
  | _ => false
section
variable (G : Gl) (call : CallT)
mutual
def wE : CE → Env → WP PV
  | .non, _ => fun M Q _ => Q .non M
  | .bl b, _ => fun M Q _ => Q (.bl b) M
  | .int i, _ => fun M Q _ => Q (.int i) M
  | .str s, _ => fun M Q _ => Q (.str s) M
  | .var i, env => fun M Q _ => match slot env i with | some (.pv v) => Q v M | _ => False
  | .glob x, _ => fun M Q _ => match G.consts x with | some v => Q v M | none => False
  | .tup es, env => fun M Q X => wD es env M (fun xs M1 => xs.length ≤ line ∧ Q (.tup xs) M1) X
  | .frh box f, env => fun M Q X => wF f env M (fun xs M1 => if box = true then ∀ a, M1 a = none → Q (.ref a) (upd M1 a (.lst xs)) else Q (.lst xs) M1) X
  | .bin op a b, env => fun M Q X => wE a env M (fun x M1 => wE b env M1 (fun y M2 => wBin op x y M2 Q X) X) X
  | .neg a, env => fun M Q X => wE a env M (fun x M1 => match x with | .int i => Q (.int (-i)) M1 | _ => False) X
  | .cmp op a b, env => fun M Q X => wE a env M (fun x M1 => wE b env M1 (fun y M2 => wCmp op x y M2 (fun c M3 => Q (.bl c) M3) X) X) X
  | .chn a o1 b o2 c, env => fun M Q X => wE a env M (fun x M1 => wE b env M1 (fun y M2 => wCmp o1 x y M2 (fun k M3 =>
      if k = true then wE c env M3 (fun z M4 => wCmp o2 y z M4 (fun k M5 => Q (.bl k) M5) X) X else Q (.bl false) M3) X) X) X
  | .and a b, env => fun M Q X => wE a env M (fun x M1 => match x with | .bl true => wE b env M1 Q X | .bl false => Q (.bl false) M1 | _ => False) X
  | .or a b, env => fun M Q X => wE a env M (fun x M1 => match x with | .bl false => wE b env M1 Q X | .bl true => Q (.bl true) M1 | _ => False) X
  | .not a, env => fun M Q X => wE a env M (fun x M1 => match x with | .bl b => Q (.bl (!b)) M1 | _ => False) X
  | .ife c a b, env => fun M Q X => wE c env M (fun x M1 => match x with | .bl k => (if k = true then wE a env M1 Q X else wE b env M1 Q X) | _ => False) X
  | .call f es, env => fun M Q X => wA es env M (fun as M1 => call (.fn f) as M1 Q X) X
  | .calv i es, env => fun M Q X => match slot env i with
    | some (.fn f) => wA es env M (fun as M1 => call (.fn f) as M1 Q X) X
    | some (.clo np body caps) => wA es env M (fun as M1 => call (.clo np body caps) as M1 Q X) X
    | _ => False
  | .bi b es, env => fun M Q X => wD es env M (fun xs M1 => wBi b xs M1 Q X) X
  | .isi e t, env => fun M Q X => wE e env M (fun x M1 => match isOf M1 x t with | some b => Q (.bl b) M1 | none => False) X
  | .exf i f, env => fun M Q _ => match slot env i with
    | some (.exc _ fs) => (match fs.lookup f with | some v => Q v M | none => False)
    | _ => False
  | .exi i c, env => fun M Q _ => match slot env i with
    | some (.exc d _) => (match G.excs d with | some (ups, _) => Q (.bl (ups.contains c)) M | none => False)
    | _ => False
  | .sub a i, env => fun M Q X => wE a env M (fun x M1 => wE i env M1 (fun y M2 => wSub x y M2 Q X) X) X
  | .sli a lo hi, env => fun M Q X => wE a env M (fun x M1 => wE lo env M1 (fun l M2 => match bound? (isNon lo) l with
    | some l' => wE hi env M2 (fun h M3 => match bound? (isNon hi) h with | some h' => wSli x l' h' M3 Q X | none => False) X
    | none => False) X) X
  | .att e f, env => fun M Q X => wE e env M (fun x M1 => match x with
    | .ref a => (match M1 a with
      | some (.ins c fs) => (match G.clss c with
        | some cc => (match cc.props.lookup f with
          | some d => call (.fn d) ⟨[.pv (.ref a)], []⟩ M1 Q noX
          | none => cc.flds.contains f = true ∧ (match fs.lookup f with | some v => Q v M1 | none => False))
        | none => False)
      | _ => False)
    | _ => False) X
  | .mth e m es, env => fun M Q X => wE e env M (fun x M1 => match x with
    | .ref a => (match M1 a with
      | some (.ins c fs) => (match (G.clss c).bind (·.meths.lookup m) with
        | some d => fs.lookup m = none ∧ wA es env M1 (fun as M2 => call (.fn d) ⟨.pv (.ref a) :: as.pos, as.kw⟩ M2 Q X) X
        | none => False)
      | _ => False)
    | _ => False) X
  | .lme e m es, env => fun M Q X => wE e env M (fun x M1 => match listOf M1 x with | some _ => wD es env M1 (fun xs M2 => wMb x m xs M2 Q X) X | none => False) X
  | .new c es, env => fun M Q X => match (G.clss c).bind (·.init) with
    | some d => wA es env M (fun as M1 => ∀ a, M1 a = none → call (.fn d) ⟨.pv (.ref a) :: as.pos, as.kw⟩ (upd M1 a (.ins c [])) (fun v M2 => v = .non ∧ Q (.ref a) M2) X) X
    | none => False
  | .ide ne a b, env => fun M Q X => wE a env M (fun x M1 => wE b env M1 (fun y M2 => match x, y with
    | .ref p, .ref q => (match M2 p, M2 q with
      | some (.ins c _), some (.ins d _) => ((G.clss c).any (·.plain) = true ∧ (G.clss d).any (·.plain) = true) ∧ Q (.bl (if ne = true then !decide (p = q) else decide (p = q))) M2
      | _, _ => False)
    | _, _ => False) X) X
def wF : CF → Env → WP (List PV)
  | .dis es, env => fun M Q X => wD es env M (fun xs M1 => xs.length ≤ line ∧ Q xs M1) X
  | .cmp el t it c own, env => fun M Q X => wI it env M (fun xs g M1 =>
      compL g (fun v env M Q => wT t v env M Q noX) (fun env M Q => wE c env M (fun v M' => match v with | .bl b => Q b M' | _ => False) noX) (fun env M Q => wE el env M Q noX) (clean (wipeE env own)) Q xs [] M1) X
  | .ofl e, env => fun M Q X => wE e env M (fun x M1 => match itemsOf M1 x with | some xs => Q xs M1 | none => False) X
/-- a display's items, a built-in's arguments -/
def wD : CAs → Env → WP (List PV)
  | .nil, _ => fun M Q _ => Q [] M
  | .pos e r, env => fun M Q X => wE e env M (fun x M1 => wD r env M1 (fun xs M2 => Q (x :: xs) M2) X) X
  | .star e r, env => fun M Q X => wE e env M (fun x M1 => match itemsOf M1 x with | some ys => wD r env M1 (fun xs M2 => Q (ys ++ xs) M2) X | none => False) X
  | _, _ => fun _ _ _ => False
/-- a def's arguments -/
def wA : CAs → Env → WP Args
  | .nil, _ => fun M Q _ => Q ⟨[], []⟩ M
  | .pos e r, env => fun M Q X => wE e env M (fun x M1 => wA r env M1 (fun as M2 => Q ⟨.pv x :: as.pos, as.kw⟩ M2) X) X
  | .star e r, env => fun M Q X => wE e env M (fun x M1 => match itemsOf M1 x with | some ys => wA r env M1 (fun as M2 => Q ⟨ys.map .pv ++ as.pos, as.kw⟩ M2) X | none => False) X
  | .kw n e r, env => fun M Q X => wE e env M (fun x M1 => wA r env M1 (fun as M2 => Q ⟨as.pos, (n, x) :: as.kw⟩ M2) X) X
  | .fn f r, env => fun M Q X => wA r env M (fun as M2 => Q ⟨.fn f :: as.pos, as.kw⟩ M2) X
  | .lam np caps body r, env => fun M Q X => wA r env M (fun as M2 => Q ⟨.clo np body (captured env caps) :: as.pos, as.kw⟩ M2) X
/-- what is walked: the items, what must stay -/
def wI : CI → Env → MM → (List PV → (MM → Prop) → MM → Prop) → XK → Prop
  | .seq e, env => fun M Q X => wE e env M (fun x M1 => seqQ id x M1 Q) X
  | .rng1 a, env => fun M Q X => wE a env M (fun x M1 => match x with | .int j => big62 j ∧ Q (upTo 0 j.toNat) (fun _ => True) M1 | _ => False) X
  | .rng2 a b, env => fun M Q X => wE a env M (fun x M1 => wE b env M1 (fun y M2 => match x, y with | .int i, .int j => big62 i ∧ big62 j ∧ Q (upTo i (j - i).toNat) (fun _ => True) M2 | _, _ => False) X) X
  | .rng3 a b c, env => fun M Q X => wE a env M (fun x M1 => wE b env M1 (fun y M2 => wE c env M2 (fun z M3 => match x, y, z with
    | .int i, .int j, .int k => ((0 < k ∧ k ≤ 1000) ∧ mid i ∧ mid j) ∧ Q (byStep i k (stepN i j k)) (fun _ => True) M3
    | _, _, _ => False) X) X) X
  | .enum e, env => fun M Q X => wE e env M (fun x M1 => seqQ pairUp x M1 Q) X
  | _, _ => fun _ _ _ => False
/-- a store -/
def wT : CT → PV → Env → MM → (Env → MM → Prop) → XK → Prop
  | .var i, v, env => fun M Q _ => Q (env.set i (some (.pv v))) M
  | .tup ts, v, env => fun M Q X => match itemsOf M v with | some xs => xs.length = tgLen ts ∧ wTs ts xs env M Q X | none => False
  | .sub a i, v, env => fun M Q X => wE a env M (fun o M1 => wE i env M1 (fun k M2 => wStore o k v M2 (Q env)) noX) noX
  | .att e f, v, env => fun M Q X => wE e env M (fun o M1 => match o with
    | .ref a => (match M1 a with
      | some (.ins c fs) => ((G.clss c).any (·.flds.contains f) = true ∧ fs.length < 100) ∧ Q env (upd M1 a (.ins c (putF f v fs)))
      | _ => False)
    | _ => False) noX
def wTs : CTs → List PV → Env → MM → (Env → MM → Prop) → XK → Prop
  | .nil, [], env => fun M Q _ => Q env M
  | .cons t r, x :: xs, env => fun M Q X => wT t x env M (fun env1 M1 => wTs r xs env1 M1 Q X) X
  | _, _, _ => fun _ _ _ => False
end
/-- a test -/
def wC (c : CE) (env : Env) (M : MM) (Q : Bool → MM → Prop) (X : XK) : Prop := wE G call c env M (fun v M' => match v with | .bl b => Q b M' | _ => False) X
mutual
def wS : CS → Env → MM → Ends → XE → Prop
  | .expr e, env, M, D, X => wE G call e env M (fun _ M1 => D.nx env M1) (X env)
  | .asg t e, env, M, D, X => wE G call e env M (fun v M1 => wT G call t v env M1 D.nx (X env)) (X env)
  | .ife c a b, env, M, D, X => wC G call c env M (fun k M1 => if k = true then wSs a env M1 D X else wSs b env M1 D X) (X env)
  | .for t it b, env, M, D, X => wI G call it env M (fun xs g M1 => forL g (fun v env M Q => wT G call t v env M Q (X env)) (fun env M D => wSs b env M D X) D xs env M1) (X env)
  | .whl c b, env, M, D, X => ∃ n, whileN (fun env M Q => wC G call c env M Q (X env)) (fun env M D => wSs b env M D X) D n env M
  | .ret e, env, M, D, X => wE G call e env M D.rt (X env)
  | .retn, env, M, D, X => D.rt .non M
  | .rais c es, env, M, D, X => match G.excs c with
    | some (_, ns) => wD G call es env M (fun vs M1 => vs.length = ns.length ∧ X env c (ns.zip vs) M1) (X env)
    | none => False
  | .try b hs, env, M, D, X => wSs b env M D (fun env' c fs M' => wHs hs c fs env' M' D X)
  | .pass, env, M, D, X => D.nx env M
  | .brk, env, M, D, X => D.bk env M
  | .cont, env, M, D, X => D.ct env M
def wSs : CSs → Env → MM → Ends → XE → Prop
  | .nil, env, M, D, X => D.nx env M
  | .cons s r, env, M, D, X => wS s env M { nx := fun env' M' => wSs r env' M' D X, rt := D.rt, bk := D.bk, ct := D.ct } X
/-- the first clause whose class the exception is under -/
def wHs : CHs → String → List (String × PV) → Env → MM → Ends → XE → Prop
  | .nil, c, fs, env, M, D, X => X env c fs M
  | .cons d i b r, c, fs, env, M, D, X => match G.excs c with
    | some (ups, _) => if ups.contains d = true then
        (match i with
         | none => wSs b env M D (fun _ _ _ _ => False)
         | some k => wSs b ((dropX env).set k (some (.exc c fs))) M { nx := fun env' M' => D.nx (dropX (env'.set k none)) M', rt := D.rt, bk := fun env' M' => D.bk (dropX (env'.set k none)) M', ct := fun env' M' => D.ct (dropX (env'.set k none)) M' } (fun _ _ _ _ => False))
      else wHs r c fs env M D X
    | none => False
end
end

/-- the parameters' values: by position, then by name -/
def bindA : List String → List SV → List (String × PV) → Option (List SV)
  | [], [], _ => some []
  | [], _ :: _, _ => none
  | _ :: ps, v :: vs, kw => (bindA ps vs kw).map (v :: ·)
  | p :: ps, [], kw => match kw.lookup p with | some v => (bindA ps [] kw).map (.pv v :: ·) | none => none
/-- what is given by name: each one once, none of those given by position -/
def kwOk (ps : List String) (n : Nat) (ks : List String) : Bool := decide ks.Nodup && ks.all fun k => (ps.drop n).contains k
def startE (slots : Nat) (svs : List SV) : Env := svs.map some ++ List.replicate (slots - svs.length) none
def wCall (G : Gl) : Nat → CallT
  | 0, _, _ => fun _ _ _ => False
  | n + 1, .fn f, as => fun M Q X => match G.defs f with
    | some d => (match (if kwOk d.ps as.pos.length (as.kw.map (·.1)) = true then bindA d.ps as.pos as.kw else none) with
      | some svs =>
        if d.mode = 0 then wSs G (wCall G n) d.body (startE d.slots svs) M ⟨fun _ M' => Q .non (restr M M'), fun r M' => Q (frz M M' 4 r) (restr M M'), fun _ _ => False, fun _ _ => False⟩ (fun _ c fs M' => X c (fs.map fun p => (p.1, frz M M' 4 p.2)) (restr M M'))
        else wSs G (wCall G n) d.body (startE d.slots svs) M ⟨fun _ M' => Q .non M', Q, fun _ _ => False, fun _ _ => False⟩ (fun _ => X)
      | none => False)
    | none => False
  | n + 1, .clo np body caps, as => fun M Q X => as.pos.length = np ∧ as.kw = [] ∧ wE G (wCall G n) body (as.pos.map some ++ caps) M Q X
  | _, _, _ => fun _ _ _ => False
end IB
end

section
set_option autoImplicit false
set_option linter.all false
namespace IB
def bodyW (G : Gl) (call : CallT) (d : CDef) (svs : List SV) (M : MM) (QQ : PV → MM → Prop) (XX : XK) : Prop :=
  if d.mode = 0 then wSs G call d.body (startE d.slots svs) M ⟨fun _ M' => QQ .non (restr M M'), fun r M' => QQ (frz M M' 4 r) (restr M M'), fun _ _ => False, fun _ _ => False⟩ (fun _ c fs M' => XX c (fs.map fun p => (p.1, frz M M' 4 p.2)) (restr M M'))
  else wSs G call d.body (startE d.slots svs) M ⟨fun _ M' => QQ .non M', QQ, fun _ _ => False, fun _ _ => False⟩ (fun _ => XX)
/-- a def of the text: its name, its place in the top, its slots' names, whether it makes lambdas, what it is in Core -/
structure DefT where
  name : String
  at_ : Nat
  N : List String
  lam : Bool
  /-- of a class: its name, the member's, where in the class, whether it is a property -/
  own : Option (String × String × Nat × Bool)
  d : CDef
/-- an own class: its name, its parts -/
structure ClsD where
  name : String
  cc : CCls
structure LawD where
  defs : List DefT
  clss : List ClsD
  consts : List (String × PV)
  excs : List (String × String × List String)
  hnd : List String
  xis : List String
  xfs : List String
def LawD.G (L : LawD) : Gl where
  defs := fun f => (L.defs.find? fun d => d.name == f).map (·.d)
  consts := fun x => L.consts.lookup x
  clss := fun c => (L.clss.find? fun d => d.name == c).map (·.cc)
  excs := fun c => (L.excs.lookup c).map fun p => (p.2, [p.1])
theorem byStep_len (lo k : Int) (n : Nat) : (byStep lo k n).length = n := by
  unfold byStep
  rw [List.length_map, List.length_range]
theorem upTo_len (lo : Int) (n : Nat) : (upTo lo n).length = n := by
  unfold upTo
  rw [List.length_map, List.length_range]
/-- calls, not to be unfolded -/
@[irreducible] def cal (G : Gl) (n : Nat) : CallT := wCall G n
theorem cal_eq (G : Gl) (n : Nat) : cal G n = wCall G n := by unfold cal; rfl
theorem cal_clo {G : Gl} {n np : Nat} {body : CE} {caps : List (Option SV)} {as : Args} {M : MM} {Q : PV → MM → Prop} {X : XK} (h1 : as.pos.length = np) (h2 : as.kw = []) (h : wE G (cal G n) body (as.pos.map some ++ caps) M Q X) : cal G (n + 1) (.clo np body caps) as M Q X := by
  rw [cal_eq]
  rw [cal_eq] at h
  exact ⟨h1, h2, h⟩
theorem cal_0 {G : Gl} {n : Nat} {f : String} {as : Args} {d : CDef} {svs : List SV} {M : MM} {Q : PV → MM → Prop} {X : XK} (hd : G.defs f = some d) (hm : d.mode = 0) (hk : kwOk d.ps as.pos.length (as.kw.map (·.1)) = true) (hb : bindA d.ps as.pos as.kw = some svs)
    (h : wSs G (cal G n) d.body (startE d.slots svs) M ⟨fun _ M' => Q .non (restr M M'), fun r M' => Q (frz M M' 4 r) (restr M M'), fun _ _ => False, fun _ _ => False⟩ (fun _ c fs M' => X c (fs.map fun p => (p.1, frz M M' 4 p.2)) (restr M M'))) : cal G (n + 1) (.fn f) as M Q X := by
  rw [cal_eq]
  rw [cal_eq] at h
  show (match G.defs f with
    | some d => (match (if kwOk d.ps as.pos.length (as.kw.map (·.1)) = true then bindA d.ps as.pos as.kw else none) with
      | some svs => bodyW G (wCall G n) d svs M Q X
      | none => False)
    | none => False)
  rw [hd]
  dsimp only
  rw [if_pos hk, hb]
  dsimp only
  unfold bodyW
  rw [if_pos hm]
  exact h
theorem cal_1 {G : Gl} {n : Nat} {f : String} {as : Args} {d : CDef} {svs : List SV} {M : MM} {Q : PV → MM → Prop} {X : XK} (hd : G.defs f = some d) (hm : d.mode = 1) (hk : kwOk d.ps as.pos.length (as.kw.map (·.1)) = true) (hb : bindA d.ps as.pos as.kw = some svs)
    (h : wSs G (cal G n) d.body (startE d.slots svs) M ⟨fun _ M' => Q .non M', Q, fun _ _ => False, fun _ _ => False⟩ (fun _ => X)) : cal G (n + 1) (.fn f) as M Q X := by
  rw [cal_eq]
  rw [cal_eq] at h
  show (match G.defs f with
    | some d => (match (if kwOk d.ps as.pos.length (as.kw.map (·.1)) = true then bindA d.ps as.pos as.kw else none) with
      | some svs => bodyW G (wCall G n) d svs M Q X
      | none => False)
    | none => False)
  rw [hd]
  dsimp only
  rw [if_pos hk, hb]
  dsimp only
  unfold bodyW
  rw [if_neg (by rw [hm]; decide)]
  exact h
end IB
end

section
set_option Elab.async false
set_option linter.all false
set_option maxRecDepth 100000
set_option maxHeartbeats 4000000
/-! S0: how Core's values and store lie in the layer's heap. -/
namespace IB
open PySem PySem.Spec PyProof.Rows L2
abbrev Frag := PySem.W.Frag
/-- the one heap within the other -/
def Sub (F H : Hp) : Prop := ∀ a o, F a = some o → H a = some o
theorem Sub.refl (F : Hp) : Sub F F := fun _ _ h => h
theorem Sub.trans {F G H : Hp} (a : Sub F G) (b : Sub G H) : Sub F H := fun x o h => b x o (a x o h)
theorem Sub.upd {F H : Hp} {p : Addr} {o : HO} (h : Sub F H) (n : F p = none) : Sub F (L2.upd H p o) := fun a u e => by
  rw [upd_ne (ne_of_none e n)]
  exact h a u e
theorem Sub.upd2 {F H : Hp} {p : Addr} {o : HO} (h : Sub F H) : Sub (L2.upd F p o) (L2.upd H p o) := fun a u e => by
  by_cases q : a = p
  · subst q; rw [upd_same] at e ⊢; exact e
  · rw [upd_ne q] at e ⊢; exact h a u e
theorem sub_upd {F : Hp} {p : Addr} {o : HO} (n : F p = none) : Sub F (L2.upd F p o) := (Sub.refl F).upd n
theorem rd_sub {F H : Hp} {a : Addr} {u : HO} (s : Sub F H) (h : Rd F a u) : Rd H a u := by
  rcases h with h | ⟨o, h⟩
  · exact .inl (s _ _ h)
  · exact .inr ⟨o, s _ _ h⟩
theorem sqL_sub {K : Frag} {F H : Hp} {a : Addr} {xs : List V} (s : Sub F H) (h : SqL K F a xs) : SqL K H a xs := by
  rcases h with h | h
  · exact .inl (rd_sub s h)
  · exact .inr h
theorem sqT_sub {K : Frag} {F H : Hp} {a : Addr} {xs : List V} (s : Sub F H) (h : SqT K F a xs) : SqT K H a xs := by
  rcases h with h | h
  · exact .inl (rd_sub s h)
  · exact .inr h
mutual
inductive RepV (K : Frag) (F : Hp) : PV → V → Prop
  | non : RepV K F .non .non
  | bl (b : Bool) : RepV K F (.bl b) (.bl b)
  | int (i : Int) : RepV K F (.int i) (.int i)
  | str (s : String) : RepV K F (.str s) (.str (Str.ofString s))
  | ref (a : Nat) : RepV K F (.ref a) (.ref a)
  | tup {a : Addr} {xs : List PV} {vs : List V} : SqT K F a vs → RepVs K F xs vs → RepV K F (.tup xs) (.ref a)
  | rol {a : Addr} {xs : List PV} {vs : List V} : SqL K F a vs → RepVs K F xs vs → RepV K F (.rol xs) (.ref a)
  | lst {a : Addr} {xs : List PV} {vs : List V} : F a = some (.lst vs) → RepVs K F xs vs → RepV K F (.lst xs) (.ref a)
inductive RepVs (K : Frag) (F : Hp) : List PV → List V → Prop
  | nil : RepVs K F [] []
  | cons {x : PV} {v : V} {xs : List PV} {vs : List V} : RepV K F x v → RepVs K F xs vs → RepVs K F (x :: xs) (v :: vs)
end
section
variable {K : Frag} {F F' H : Hp}
mutual
theorem RepV.sub (s : Sub F F') : ∀ {x : PV} {v : V}, RepV K F x v → RepV K F' x v
  | _, _, .non => .non
  | _, _, .bl b => .bl b
  | _, _, .int i => .int i
  | _, _, .str z => .str z
  | _, _, .ref a => .ref a
  | _, _, .tup h r => .tup (sqT_sub s h) (RepVs.sub s r)
  | _, _, .lst h r => .lst (s _ _ h) (RepVs.sub s r)
  | _, _, .rol h r => .rol (sqL_sub s h) (RepVs.sub s r)
theorem RepVs.sub (s : Sub F F') : ∀ {xs : List PV} {vs : List V}, RepVs K F xs vs → RepVs K F' xs vs
  | _, _, .nil => .nil
  | _, _, .cons h r => .cons (RepV.sub s h) (RepVs.sub s r)
end
theorem RepVs.length : ∀ {xs : List PV} {vs : List V}, RepVs K F xs vs → xs.length = vs.length
  | _, _, .nil => rfl
  | _, _, .cons _ r => by rw [List.length_cons, List.length_cons, RepVs.length r]
theorem RepVs.get : ∀ {xs : List PV} {vs : List V} {i : Nat} {x : PV}, RepVs K F xs vs → xs[i]? = some x → ∃ v, vs[i]? = some v ∧ RepV K F x v
  | _, _, _, _, .nil, e => by simp at e
  | _, _, 0, _, .cons h _, e => by simp at e; subst e; exact ⟨_, rfl, h⟩
  | _, _, i + 1, _, .cons _ r, e => by
    obtain ⟨v, h1, h2⟩ := RepVs.get (i := i) r (by simpa using e)
    exact ⟨v, by simpa using h1, h2⟩
theorem RepVs.app : ∀ {xs ys : List PV} {vs ws : List V}, RepVs K F xs vs → RepVs K F ys ws → RepVs K F (xs ++ ys) (vs ++ ws)
  | _, _, _, _, .nil, h => h
  | _, _, _, _, .cons a r, h => .cons a (RepVs.app r h)
theorem RepVs.take : ∀ {xs : List PV} {vs : List V} (n : Nat), RepVs K F xs vs → RepVs K F (xs.take n) (vs.take n)
  | _, _, 0, _ => .nil
  | _, _, _ + 1, .nil => .nil
  | _, _, n + 1, .cons a r => .cons a (RepVs.take n r)
theorem RepVs.drop : ∀ {xs : List PV} {vs : List V} (n : Nat), RepVs K F xs vs → RepVs K F (xs.drop n) (vs.drop n)
  | _, _, 0, h => h
  | _, _, _ + 1, .nil => .nil
  | _, _, n + 1, .cons _ r => RepVs.drop n r
theorem RepVs.set {x : PV} {v : V} (h : RepV K F x v) : ∀ {xs : List PV} {vs : List V} (n : Nat), RepVs K F xs vs → RepVs K F (xs.set n x) (vs.set n v)
  | _, _, _, .nil => .nil
  | _, _, 0, .cons _ r => .cons h r
  | _, _, n + 1, .cons a r => .cons a (RepVs.set h n r)
theorem RepVs.flat {xs : List PV} {vs : List V} (h : RepVs K F xs vs) : ∀ n : Nat, RepVs K F (List.replicate n xs).flatten (List.replicate n vs).flatten
  | 0 => .nil
  | n + 1 => by
    rw [List.replicate_succ, List.replicate_succ, List.flatten_cons, List.flatten_cons]
    exact h.app (h.flat n)
theorem RepVs.dropLast : ∀ {xs : List PV} {vs : List V}, RepVs K F xs vs → RepVs K F xs.dropLast vs.dropLast
  | _, _, .nil => .nil
  | _, _, .cons _ .nil => .nil
  | _, _, .cons a (.cons b r) => .cons a (RepVs.dropLast (.cons b r))
/-- ints -/
theorem RepVs.ints : ∀ {xs : List PV} {vs : List V} {ns : List Int}, RepVs K F xs vs → ints? xs = some ns → vs = ns.map V.int ∧ xs = ns.map PV.int
  | _, _, ns, .nil, e => by
    obtain rfl : [] = ns := Option.some.inj e
    exact ⟨rfl, rfl⟩
  | _, _, ns, .cons (x := x) (xs := xs) h r, e => by
    cases h with
    | int i =>
      have e : (ints? xs).map (i :: ·) = some ns := e
      cases q : ints? xs with
      | none => rw [q] at e; cases e
      | some ms =>
        rw [q] at e
        obtain rfl : i :: ms = ns := Option.some.inj e
        obtain ⟨e1, e2⟩ := RepVs.ints r q
        exact ⟨by rw [e1]; rfl, by rw [e2]; rfl⟩
    | non => cases e
    | bl b => cases e
    | str z => cases e
    | ref a => cases e
    | tup _ _ => cases e
    | lst _ _ => cases e
    | rol _ _ => cases e
theorem RepVs.bools : ∀ {xs : List PV} {vs : List V} {ns : List Bool}, RepVs K F xs vs → bools? xs = some ns → vs = ns.map V.bl ∧ xs = ns.map PV.bl
  | _, _, ns, .nil, e => by
    obtain rfl : [] = ns := Option.some.inj e
    exact ⟨rfl, rfl⟩
  | _, _, ns, .cons (x := x) (xs := xs) h r, e => by
    cases h with
    | bl i =>
      have e : (bools? xs).map (i :: ·) = some ns := e
      cases q : bools? xs with
      | none => rw [q] at e; cases e
      | some ms =>
        rw [q] at e
        obtain rfl : i :: ms = ns := Option.some.inj e
        obtain ⟨e1, e2⟩ := RepVs.bools r q
        exact ⟨by rw [e1]; rfl, by rw [e2]; rfl⟩
    | non => cases e
    | int b => cases e
    | str z => cases e
    | ref a => cases e
    | tup _ _ => cases e
    | lst _ _ => cases e
    | rol _ _ => cases e
end

/-! ### data -/
def toD : Nat → PV → PyData
  | _, .non => .none
  | _, .bl b => .bool b
  | _, .int i => .int i
  | _, .str s => .str (Str.ofString s)
  | n + 1, .tup xs => .tuple (xs.map (toD n))
  | n + 1, .lst xs => .list (xs.map (toD n))
  | _, _ => .none
theorem ofString_inj {a b : String} (h : Str.ofString a = Str.ofString b) : a = b := by
  rw [Str.ofString_eq_toList, Str.ofString_eq_toList] at h
  have h1 := congrArg (fun z : Str => z.cps.toList) h
  simp only at h1
  have h2 : a.toList = b.toList := by
    have inj : ∀ (l m : List Char), l.map Char.toNat = m.map Char.toNat → l = m := by
      intro l
      induction l with
      | nil => intro m e; cases m with | nil => rfl | cons _ _ => simp at e
      | cons c l ih =>
        intro m e
        cases m with
        | nil => simp at e
        | cons d m =>
          rw [List.map_cons, List.map_cons, List.cons.injEq] at e
          rw [ih m e.2]
          congr 1
          exact Char.ext (UInt32.toNat_inj.mp e.1)
    exact inj _ _ h1
  exact String.toList_inj.mp h2
theorem beq_ofString (a b : String) : (Str.ofString a == Str.ofString b) = (a == b) := by
  by_cases h : a = b
  · subst h; simp
  · rw [beq_eq_false_iff_ne.mpr h, beq_eq_false_iff_ne.mpr fun q => h (ofString_inj q)]
theorem char_lt (c : Char) : c.toNat < 0x110000 := by
  have h := c.valid
  have e : c.toNat = c.val.toNat := rfl
  rcases h with h | h <;> (rw [e]; omega)
theorem strOk_of (s : String) : PyData.strOk (Str.ofString s) = true := by
  unfold PyData.strOk
  rw [Str.ofString_eq_toList]
  rw [Array.all_eq_true]
  intro i hi
  simp only [List.getElem_toArray, List.getElem_map, decide_eq_true_eq]
  exact char_lt _
theorem toD_lay : ∀ (n : Nat) (x : PV), PV.dat n x = true → PyData.canLay0 (toD n x) = true ∧ PyData.depth (toD n x) ≤ n + 1
  | _, .non, _ => by simp [toD, PyData.canLay0, PyData.depth]
  | _, .bl b, _ => by simp [toD, PyData.canLay0, PyData.depth]
  | _, .int i, _ => by simp [toD, PyData.canLay0, PyData.depth]
  | _, .str s, _ => by simp [toD, PyData.canLay0, PyData.depth, strOk_of]
  | _, .ref a, h => by simp [PV.dat] at h
  | _, .rol a, h => by simp [PV.dat] at h
  | 0, .tup xs, h => by simp [PV.dat] at h
  | 0, .lst xs, h => by simp [PV.dat] at h
  | n + 1, .tup xs, h => by
    have h : xs.all (PV.dat n) = true := by simpa [PV.dat] using h
    have key : ∀ l : List PV, l.all (PV.dat n) = true → PyData.canLayAll0 (l.map (toD n)) = true ∧ PyData.depthAll (l.map (toD n)) ≤ n + 1 := by
      intro l
      induction l with
      | nil => intro _; simp [PyData.canLayAll0, PyData.depthAll]
      | cons a l ih =>
        intro hl
        simp only [List.all_cons, Bool.and_eq_true] at hl
        obtain ⟨h1, h2⟩ := toD_lay n a hl.1
        obtain ⟨h3, h4⟩ := ih hl.2
        simp only [List.map_cons, PyData.canLayAll0, PyData.depthAll, h1, h3, Bool.and_self, true_and]
        omega
    obtain ⟨k1, k2⟩ := key xs h
    simp only [toD, PyData.canLay0, PyData.depth]
    exact ⟨k1, by omega⟩
  | n + 1, .lst xs, h => by
    have h : xs.all (PV.dat n) = true := by simpa [PV.dat] using h
    have key : ∀ l : List PV, l.all (PV.dat n) = true → PyData.canLayAll0 (l.map (toD n)) = true ∧ PyData.depthAll (l.map (toD n)) ≤ n + 1 := by
      intro l
      induction l with
      | nil => intro _; simp [PyData.canLayAll0, PyData.depthAll]
      | cons a l ih =>
        intro hl
        simp only [List.all_cons, Bool.and_eq_true] at hl
        obtain ⟨h1, h2⟩ := toD_lay n a hl.1
        obtain ⟨h3, h4⟩ := ih hl.2
        simp only [List.map_cons, PyData.canLayAll0, PyData.depthAll, h1, h3, Bool.and_self, true_and]
        omega
    obtain ⟨k1, k2⟩ := key xs h
    simp only [toD, PyData.canLay0, PyData.depth]
    exact ⟨k1, by omega⟩
theorem toD_shaped {n : Nat} {x : PV} (h : PV.dat n x = true) (hn : n ≤ 60) : SeqAt.shaped (toD n x) = true := by
  obtain ⟨h1, h2⟩ := toD_lay n x h
  show (_ && decide _) = true
  rw [h1, decide_eq_true (by omega)]
  rfl
theorem toD_eqv : ∀ (n m : Nat) (x y : PV), PV.dat n x = true → PV.dat m y = true → PyData.eqv (toD n x) (toD m y) = PV.eqv x y := by
  intro n
  induction n with
  | zero =>
    intro m x y hx hy
    cases x <;> cases y <;> cases m <;> first
      | (simp [PV.dat] at hx; done) | (simp [PV.dat] at hy; done)
      | simp [toD, PyData.eqv, PV.eqv, beq_ofString]
  | succ n ih =>
    have keys : ∀ (m : Nat) (xs ys : List PV), xs.all (PV.dat n) = true → ys.all (PV.dat m) = true → PyData.eqvAll (xs.map (toD n)) (ys.map (toD m)) = PV.eqvs xs ys := by
      intro m xs
      induction xs with
      | nil => intro ys _ _; cases ys <;> simp [PyData.eqvAll, PV.eqvs]
      | cons a xs ihx =>
        intro ys h1 h2
        cases ys with
        | nil => simp [PyData.eqvAll, PV.eqvs]
        | cons b ys =>
          simp only [List.all_cons, Bool.and_eq_true] at h1 h2
          simp only [List.map_cons, PyData.eqvAll, PV.eqvs, ih m a b h1.1 h2.1, ihx ys h1.2 h2.2]
    intro m x y hx hy
    cases x <;> cases y <;> cases m <;> first
      | (simp [PV.dat] at hx; done) | (simp [PV.dat] at hy; done)
      | (simp only [toD, PyData.eqv, PV.eqv, beq_ofString]; done)
      | (simp only [PV.dat] at hx hy; simp only [toD, PyData.eqv, PV.eqv]; exact keys _ _ _ hx hy)
      | simp [toD, PyData.eqv, PV.eqv, beq_ofString]
section
variable {K : Frag} {F H : Hp}
mutual
theorem RepV.dp (s : Sub F H) : ∀ {n : Nat} {x : PV} {v : V}, RepV K F x v → PV.dat n x = true → Dp K H v (toD n x)
  | n, _, _, .non, _ => by cases n <;> exact .non
  | n, _, _, .bl b, _ => by cases n <;> exact .bl b
  | n, _, _, .int i, _ => by cases n <;> exact .int i
  | n, _, _, .str z, _ => by cases n <;> exact .str _
  | n, _, _, .ref a, h => by cases n <;> simp [PV.dat] at h
  | n, _, _, .rol _ _, h => by cases n <;> simp [PV.dat] at h
  | 0, _, _, .tup _ _, h => by simp [PV.dat] at h
  | 0, _, _, .lst _ _, h => by simp [PV.dat] at h
  | n + 1, _, _, .tup q r, h => .tup (sqT_sub s q) (RepVs.dps s r (by simpa [PV.dat] using h))
  | n + 1, _, _, .lst q r, h => .lst (.of (s _ _ q)) (RepVs.dps s r (by simpa [PV.dat] using h))
theorem RepVs.dps (s : Sub F H) : ∀ {n : Nat} {xs : List PV} {vs : List V}, RepVs K F xs vs → xs.all (PV.dat n) = true → DpAll K H vs (xs.map (toD n))
  | _, _, _, .nil, _ => .nil
  | n, _, _, .cons a r, h => by
    simp only [List.all_cons, Bool.and_eq_true] at h
    exact .cons (RepV.dp s a h.1) (RepVs.dps s r h.2)
end
end
end IB
end

section
set_option Elab.async false
set_option linter.all false
set_option maxRecDepth 100000
set_option maxHeartbeats 4000000
/-! S1: the store, the operations on values. -/
namespace IB
open PySem PySem.Spec PyProof.Rows L2
theorem line_eq : line = sizeLine := by rw [sizeLine_eq]; rfl
def RepFs (K : Frag) (F : Hp) : List (String × PV) → List (Str × V) → Prop := Paired fun p q => q.1 = Str.ofString p.1 ∧ RepV K F p.2 q.2
theorem RepFs.sub {K : Frag} {F F' : Hp} {fs : List (String × PV)} {gs : List (Str × V)} (s : Sub F F') (h : RepFs K F fs gs) : RepFs K F' fs gs := Paired.mapP h fun _ _ q => ⟨q.1, q.2.sub s⟩
/-- classes' places; the tables of code objects -/
structure Tn where
  cls : String → Option Addr
  tab : List (Addr × Str)
/-- an object of the store at its place -/
inductive RepO (K : Frag) (cA : Tn) (F H : Hp) : MO → Addr → Prop
  | lst {a : Addr} {xs : List PV} {vs : List V} : H a = some (.lst vs) → RepVs K F xs vs → RepO K cA F H (.lst xs) a
  | ins {a C dx : Addr} {c : String} {fs : List (String × PV)} {gs : List (Str × V)} : cA.cls c = some C → H a = some (.ins C dx gs) → RepFs K F fs gs → RepO K cA F H (.ins c fs) a
structure Sto (K : Frag) (cA : Tn) (R F H : Hp) (M : MM) : Prop where
  sub : Sub F H
  mem : ∀ a o, M a = some o → F a = none ∧ RepO K cA F H o a
  /-- what is kept for others -/
  res : ∀ a o, R a = some o → H a = some o ∧ F a = none ∧ M a = none
  tab : LamX.Tabs cA.tab H
  ft : ∀ a ps, F a ≠ some (.tbl ps)
  rl : ∀ a o, R a = some o → ∃ xs, o = .lst xs
section
variable {K : Frag} {cA : Tn} {R F F' H H' : Hp} {M : MM} {a p : Addr}
/-- what is neither a table nor a code object is written: the tables stay -/
theorem tabs_write {T : List (Addr × Str)} {u o : HO} (t : LamX.Tabs T H) (e : H a = some u) (n1 : ∀ ps, u ≠ .tbl ps) (n2 : ∀ φ, u ≠ .ext φ) : LamX.Tabs T (L2.upd H a o) := fun p hp => by
  obtain ⟨ps, h1, h2, h3⟩ := t p hp
  refine ⟨ps, by rw [upd_ne (fun z => n1 ps (by rw [z, e] at h1; exact Option.some.inj h1))]; exact h1, h2, fun pos cv hc => ?_⟩
  obtain ⟨c, e1, e2⟩ := h3 pos cv hc
  refine ⟨c, e1, ?_⟩
  rw [upd_ne (fun z => ?_)]
  · exact e2
  · rw [z, e] at e2
    exact n2 _ (Option.some.inj e2)
theorem tabs_new {T : List (Addr × Str)} {o : HO} (t : LamX.Tabs T H) (n : H p = none) : LamX.Tabs T (L2.upd H p o) := t.ext fun b u e => by rw [upd_ne (ne_of_none e n)]; exact e
theorem RepO.kind {o : MO} (h : RepO K cA F H o a) : ∃ u, H a = some u ∧ (∀ ps, u ≠ .tbl ps) ∧ ∀ φ, u ≠ .ext φ := by
  cases h with
  | lst h _ => exact ⟨_, h, fun _ z => (by cases z), fun _ z => (by cases z)⟩
  | ins _ h _ => exact ⟨_, h, fun _ z => (by cases z), fun _ z => (by cases z)⟩
theorem RepO.there {o : MO} (h : RepO K cA F H o a) : ∃ u, H a = some u := by
  cases h with
  | lst h _ => exact ⟨_, h⟩
  | ins _ h _ => exact ⟨_, h⟩
theorem RepO.keep {o : MO} (h : RepO K cA F H o a) (s : Sub F F') (e : ∀ u, H a = some u → H' a = some u) : RepO K cA F' H' o a := by
  cases h with
  | lst h r => exact .lst (e _ h) (r.sub s)
  | ins c h r => exact .ins c (e _ h) (r.sub s)
theorem Sto.fr (t : Sto K cA R F H M) (n : H p = none) : F p = none ∧ M p = none := by
  constructor
  · cases e : F p with
    | none => rfl
    | some o => have := t.sub _ _ e; rw [n] at this; cases this
  · cases e : M p with
    | none => rfl
    | some o =>
      obtain ⟨u, hu⟩ := (t.mem _ _ e).2.there
      rw [n] at hu; cases hu
/-- the heap grew -/
theorem Sto.more (t : Sto K cA R F H M) (s : Sub H H') : Sto K cA R F H' M := ⟨t.sub.trans s, fun a o e => ⟨(t.mem a o e).1, (t.mem a o e).2.keep (Sub.refl F) fun u q => s _ _ q⟩, fun a o e => ⟨s _ _ (t.res a o e).1, (t.res a o e).2⟩, t.tab.ext s, t.ft, t.rl⟩
/-- a new thing that never changes -/
theorem Sto.new {o : HO} (t : Sto K cA R F H M) (n : H p = none) (no : ∀ ps, o ≠ .tbl ps := by intro _ z; cases z) : Sto K cA R (L2.upd F p o) (L2.upd H p o) M := by
  obtain ⟨f, m⟩ := t.fr n
  refine ⟨t.sub.upd2, fun b u e => ?_, fun b u e => ?_, tabs_new t.tab n, fun b ps => ?_, t.rl⟩
  · have hb : b ≠ p := fun z => by rw [z, m] at e; cases e
    obtain ⟨h1, h2⟩ := t.mem b u e
    exact ⟨by rw [upd_ne hb]; exact h1, h2.keep (sub_upd f) fun v q => by rw [upd_ne hb]; exact q⟩
  · obtain ⟨h1, h2, h3⟩ := t.res b u e
    have hb : b ≠ p := ne_of_none h1 n
    exact ⟨by rw [upd_ne hb]; exact h1, by rw [upd_ne hb]; exact h2, h3⟩
  · by_cases hb : b = p
    · rw [hb, upd_same]; exact fun z => no ps (Option.some.inj z)
    · rw [upd_ne hb]; exact t.ft b ps
/-- a new thing of the store -/
theorem Sto.alloc {o : HO} {mo : MO} (t : Sto K cA R F H M) (n : H p = none) (r : RepO K cA F (L2.upd H p o) mo p) : Sto K cA R F (L2.upd H p o) (IB.upd M p mo) := by
  obtain ⟨f, m⟩ := t.fr n
  refine ⟨t.sub.upd f, fun b u e => ?_, fun b u e => ?_, tabs_new t.tab n, t.ft, t.rl⟩
  · by_cases hb : b = p
    · subst hb
      unfold IB.upd at e
      rw [if_pos rfl] at e
      cases e
      exact ⟨f, r⟩
    · unfold IB.upd at e
      rw [if_neg hb] at e
      obtain ⟨h1, h2⟩ := t.mem b u e
      exact ⟨h1, h2.keep (Sub.refl F) fun v q => by rw [upd_ne hb]; exact q⟩
  · obtain ⟨h1, h2, h3⟩ := t.res b u e
    have hb : b ≠ p := ne_of_none h1 n
    exact ⟨by rw [upd_ne hb]; exact h1, h2, by unfold IB.upd; rw [if_neg hb]; exact h3⟩
/-- a thing of the store is changed -/
theorem Sto.write {o : HO} {mo mo' : MO} (t : Sto K cA R F H M) (e : M p = some mo) (r : RepO K cA F (L2.upd H p o) mo' p) : Sto K cA R F (L2.upd H p o) (IB.upd M p mo') := by
  obtain ⟨f, q0⟩ := t.mem p mo e
  obtain ⟨u0, k1, k2, k3⟩ := q0.kind
  refine ⟨fun b u q => ?_, fun b u e => ?_, fun b u q => ?_, tabs_write t.tab k1 k2 k3, t.ft, t.rl⟩
  · have hb : b ≠ p := fun z => by rw [z, f] at q; cases q
    rw [upd_ne hb]; exact t.sub _ _ q
  · by_cases hb : b = p
    · subst hb
      unfold IB.upd at e
      rw [if_pos rfl] at e
      cases e
      exact ⟨f, r⟩
    · unfold IB.upd at e
      rw [if_neg hb] at e
      obtain ⟨h1, h2⟩ := t.mem b u e
      exact ⟨h1, h2.keep (Sub.refl F) fun v q => by rw [upd_ne hb]; exact q⟩
  · obtain ⟨h1, h2, h3⟩ := t.res b u q
    have hb : b ≠ p := fun z => by rw [z, e] at h3; cases h3
    exact ⟨by rw [upd_ne hb]; exact h1, h2, by unfold IB.upd; rw [if_neg hb]; exact h3⟩
/-- a value with what it holds to be read in the heap -/
def Top (K : Frag) (F H : Hp) : PV → V → Prop
  | .tup xs, v => ∃ a vs, v = .ref a ∧ SqT K H a vs ∧ RepVs K F xs vs
  | .lst xs, v => ∃ a vs, v = .ref a ∧ H a = some (.lst vs) ∧ RepVs K F xs vs
  | p, v => RepV K F p v
theorem RepV.top (s : Sub F H) {x : PV} {v : V} (r : RepV K F x v) : Top K F H x v := by
  cases r with
  | non => exact .non
  | bl b => exact .bl b
  | int i => exact .int i
  | str z => exact .str z
  | ref a => exact .ref a
  | tup h r => exact ⟨_, _, rfl, sqT_sub s h, r⟩
  | lst h r => exact ⟨_, _, rfl, s _ _ h, r⟩
  | rol h r => exact .rol h r
theorem Sto.rd (t : Sto K cA R F H M) {x : PV} {v : V} (r : RepV K F x v) : Top K F H (rd M x) v := by
  cases x with
  | ref a =>
    cases r
    cases e : M a with
    | none => show Top K F H (match M a with | some (.lst xs) => .lst xs | _ => .ref a) _; rw [e]; exact .ref a
    | some o =>
      obtain ⟨_, q⟩ := t.mem a o e
      show Top K F H (match M a with | some (.lst xs) => .lst xs | _ => .ref a) _
      rw [e]
      cases q with
      | lst h r => exact ⟨_, _, rfl, h, r⟩
      | ins c h r => exact .ref a
  | non => exact r.top t.sub
  | bl b => exact r.top t.sub
  | int b => exact r.top t.sub
  | str b => exact r.top t.sub
  | tup b => exact r.top t.sub
  | lst b => exact r.top t.sub
  | rol b => exact r.top t.sub
/-- a sequence whose items are read -/
theorem Sto.items (t : Sto K cA R F H M) {x : PV} {v : V} {xs : List PV} (r : RepV K F x v) (e : itemsOf M x = some xs) :
    ∃ a vs, v = .ref a ∧ RepVs K F xs vs ∧ (H a = some (.lst vs) ∨ SqT K H a vs) := by
  have q := t.rd r
  unfold itemsOf at e
  cases h : IB.rd M x with
  | tup ys =>
    rw [h] at e q
    obtain rfl : ys = xs := Option.some.inj e
    obtain ⟨a, vs, e1, e2, e3⟩ := q
    exact ⟨a, vs, e1, e3, .inr e2⟩
  | lst ys =>
    rw [h] at e q
    obtain rfl : ys = xs := Option.some.inj e
    obtain ⟨a, vs, e1, e2, e3⟩ := q
    exact ⟨a, vs, e1, e3, .inl e2⟩
  | non => rw [h] at e; cases e
  | bl b => rw [h] at e; cases e
  | int b => rw [h] at e; cases e
  | str b => rw [h] at e; cases e
  | ref b => rw [h] at e; cases e
  | rol b => rw [h] at e; cases e
theorem Sto.itemsR (t : Sto K cA R F H M) {x : PV} {v : V} {xs : List PV} (r : RepV K F x v) (e : itemsR M x = some xs) :
    ∃ a vs, v = .ref a ∧ RepVs K F xs vs ∧ (SqL K H a vs ∨ SqT K H a vs) := by
  cases r with
  | ref a =>
    have e : (match M a with | some (.lst xs) => some xs | _ => none) = some xs := e
    cases h : M a with
    | none => rw [h] at e; cases e
    | some o =>
      rw [h] at e
      obtain ⟨_, q⟩ := t.mem a o h
      cases q with
      | lst h r => obtain rfl := Option.some.inj e; exact ⟨_, _, rfl, r, .inl (.inl (.inl h))⟩
      | ins c h r => cases e
  | tup h r => obtain rfl := Option.some.inj e; exact ⟨_, _, rfl, r, .inr (sqT_sub t.sub h)⟩
  | lst h r => obtain rfl := Option.some.inj e; exact ⟨_, _, rfl, r, .inl (.inl (.inl (t.sub _ _ h)))⟩
  | rol h r => obtain rfl := Option.some.inj e; exact ⟨_, _, rfl, r, .inl (sqL_sub t.sub h)⟩
  | non => cases e
  | bl b => cases e
  | int b => cases e
  | str b => cases e
end
/-- what comes behind, in both worlds -/
def Kont (K : Frag) (cA : Tn) (R F : Hp) (QQ : PV → MM → Prop) (Q : VK) : Prop :=
  ∀ (F' H' : Hp) (M' : MM) (p : PV) (v : V), Sub F F' → Sto K cA R F' H' M' → RepV K F' p v → QQ p M' → Q v H'
theorem Kont.sub {K : Frag} {cA : Tn} {R F F1 : Hp} {QQ : PV → MM → Prop} {Q : VK} (h : Kont K cA R F QQ Q) (s : Sub F F1) : Kont K cA R F1 QQ Q :=
  fun F' H' M' p v s' => h F' H' M' p v (s.trans s')
section
variable {K : Frag} {cA : Tn} {R F H : Hp} {M : MM} {QQ : PV → MM → Prop} {Q : VK}
theorem Kont.newL (k : Kont K cA R F QQ Q) (t : Sto K cA R F H M) {xs : List PV} {vs : List V} (r : RepVs K F xs vs) (q : QQ (.lst xs) M) : ∀ p, H p = none → Q (.ref p) (L2.upd H p (.lst vs)) := fun p n =>
  k _ _ M (.lst xs) _ (sub_upd (t.fr n).1) (t.new n) (.lst upd_same (r.sub (sub_upd (t.fr n).1))) q
theorem Kont.newT (k : Kont K cA R F QQ Q) (t : Sto K cA R F H M) {xs : List PV} {vs : List V} (r : RepVs K F xs vs) (q : QQ (.tup xs) M) : ∀ p, H p = none → Q (.ref p) (L2.upd H p (.tup vs)) := fun p n =>
  k _ _ M (.tup xs) _ (sub_upd (t.fr n).1) (t.new n) (.tup (.of upd_same) (r.sub (sub_upd (t.fr n).1))) q
theorem Kont.at (k : Kont K cA R F QQ Q) (t : Sto K cA R F H M) {x : PV} {v : V} (r : RepV K F x v) (q : QQ x M) : Q v H := k F H M x v (Sub.refl F) t r q
end
end IB
end

section
set_option Elab.async false
set_option linter.all false
set_option maxRecDepth 100000
set_option maxHeartbeats 4000000
/-! S2: Core's operations on values are the model's. -/
namespace IB
open PySem PySem.Spec PyProof.Rows L2
/-! ### tuple * 1 -/
theorem tupTimes1 (l : Addr) (items : Array Value) (n : Nat) (dd : Option Addr) (sl : Array (Option Value)) (u : Tok) :
    Meets (Builtin.«tuple.__mul__» ⟨[.ref l, .int 1 u], []⟩) (fun _ R s => s.heap.get? l = some { cls := .type "tuple", dict := dd, data := .seq items n, slots := sl } ∧ R (.ok (.ret (Value.ref l))) s) :=
  .of_wp fun prog w A R s h => by
    obtain ⟨hp, g, d, tk, os⟩ := s
    obtain ⟨hl, h⟩ := h
    have f1 := AutoSeq1.idx_int
    wp_walk using wpAny_loadPart' hl
    exact ⟨_, rfl, h⟩
section
variable {X : Cx}
theorem op_tup1 : OpR X (binaryOp .Mult) (fun x y H Q => ∃ l xs, x = .ref l ∧ y = .int 1 ∧ SqT X.K H l xs ∧ Q (.ref l) H) := by
  rintro pins s σ H x y v u Q I rx ry ⟨l, xs, rfl, rfl, hT, q⟩
  cases rx
  obtain ⟨t, rfl⟩ := ry
  obtain ⟨its, r, ⟨⟨cls, dd, data, sl⟩, ho, hc, n, hd⟩, hs⟩ := I.tuple hT
  simp only at hc hd
  subst hc hd
  refine wpAny_binaryOp_repeat_ref (T := "tuple") (U := "int") (by decide) ⟨_, ho, rfl⟩ (fun s' => typeIs_int s' 1 t) noFill_tuple_mul F.fills_int_mul F.slot_int_rmul repeat_tuple F.slot_int_index.lookup
    (call_meets F.slot_int_rmul (typeIs_int s 1 t) F.entry_int_rmul (F.args_int_rmul_2 _ _) (int_rmul_tuple 1 t l its.toArray n dd sl) ⟨ho, rfl, ⟨_, ho, rfl⟩, ?_⟩)
  exact call_meets F.slot_tuple_mul ⟨_, ho, rfl⟩ F.entry_tuple_mul (F.args_tuple_mul_2 _ _) (tupTimes1 l its.toArray n dd sl t) ⟨ho, .ref l, H, I, rfl, q⟩
end

/-! ### binary operators -/
def opOf : BOp → Operator
  | .add => .Add | .sub => .Sub | .mul => .Mult | .fdiv => .FloorDiv | .mod => .Mod | .pow => .Pow
def rBin (K : Frag) (cA : Tn) (op : BOp) : R2 := fun v1 v2 H Q => ∃ R F M x y QQ XX, Sto K cA R F H M ∧ RepV K F x v1 ∧ RepV K F y v2 ∧ wBin op x y M QQ XX ∧ Kont K cA R F QQ Q
theorem Top.int {K : Frag} {F H : Hp} {i : Int} {v : V} (h : Top K F H (.int i) v) : v = .int i := by
  cases (show RepV K F (.int i) v from h); rfl
theorem rd_tup {M : MM} {x : PV} {xs : List PV} (h : IB.rd M x = .tup xs) : x = .tup xs := by
  cases x with
  | ref a =>
    have h : (match M a with | some (.lst xs) => PV.lst xs | _ => .ref a) = .tup xs := h
    split at h <;> cases h
  | _ => exact h
section
variable {X : Cx} {cA : Tn}
theorem bin_ok (op : BOp) : OpR X (binaryOp (opOf op)) (rBin X.K cA op) := by
  rintro pins s σ H v1 v2 u1 u2 Q I r1 r2 ⟨R, F, M, x, y, QQ, XX, t, h1, h2, w, k⟩
  have t1 := t.rd h1
  have t2 := t.rd h2
  have e1 := @rd_tup M x
  have e2 := @rd_tup M y
  unfold wBin at w
  generalize IB.rd M x = x' at w t1 e1
  generalize IB.rd M y = y' at w t2 e2
  cases op
  case add =>
    cases x' <;> cases y' <;> first | exact w.elim | skip
    · obtain rfl := t1.int; obtain rfl := t2.int
      exact op_add pins s σ H _ _ u1 u2 Q I r1 r2 ⟨_, _, rfl, rfl, k.at t (.int _) w⟩
    · rename_i xs ys
      obtain rfl := e1 rfl
      obtain rfl := e2 rfl
      obtain ⟨a, vs, rfl, ha, ra⟩ := t1
      obtain ⟨b, ws, rfl, hb, rb⟩ := t2
      obtain ⟨w1, w2⟩ := w
      have l1 := ra.length
      have l2 := rb.length
      refine op_catA pins s σ H _ _ u1 u2 Q I r1 r2 ⟨a, b, vs, ws, rfl, rfl, ha, hb, by rw [← line_eq]; omega, fun e => ?_, fun e e2 => ?_, fun e e2 => ?_⟩
      · subst e
        obtain rfl : xs = [] := List.eq_nil_of_length_eq_zero l1
        exact k.at t h2 w2
      · subst e2
        obtain rfl : ys = [] := List.eq_nil_of_length_eq_zero l2
        rw [List.append_nil] at w2
        exact k.at t h1 w2
      · exact k.newT t (ra.app rb) w2
    · obtain ⟨a, vs, rfl, ha, ra⟩ := t1
      obtain ⟨b, ws, rfl, hb, rb⟩ := t2
      obtain ⟨w1, w2⟩ := w
      have l1 := ra.length
      have l2 := rb.length
      exact op_cat pins s σ H _ _ u1 u2 Q I r1 r2 ⟨a, b, vs, ws, rfl, rfl, ha, hb, by rw [← line_eq]; omega, k.newL t (ra.app rb) w2⟩
  case sub =>
    cases x' <;> cases y' <;> first | exact w.elim | skip
    obtain rfl := t1.int; obtain rfl := t2.int
    exact op_sub pins s σ H _ _ u1 u2 Q I r1 r2 ⟨_, _, rfl, rfl, k.at t (.int _) w⟩
  case mul =>
    cases x' <;> cases y' <;> first | exact w.elim | skip
    · obtain rfl := t1.int; obtain rfl := t2.int
      exact op_mul pins s σ H _ _ u1 u2 Q I r1 r2 ⟨_, _, rfl, rfl, w.1, k.at t (.int _) w.2⟩
    · rename_i xs n
      obtain rfl := e1 rfl
      obtain rfl := t2.int
      obtain ⟨a, vs, rfl, ha, ra⟩ := t1
      obtain ⟨⟨w1, w2, w3, w4⟩, w5⟩ := w
      have l1 := ra.length
      by_cases h : n = 1
      · subst h
        refine op_tup1 pins s σ H _ _ u1 u2 Q I r1 r2 ⟨a, vs, rfl, rfl, ha, ?_⟩
        have e : (List.replicate (1 : Int).toNat xs).flatten = xs := by simp
        rw [e] at w5
        exact k.at t h1 w5
      · refine op_repT pins s σ H _ _ u1 u2 Q I r1 r2 ⟨a, n, vs, rfl, rfl, ha, fun z => ?_, by omega, w3, by omega, k.newT t (ra.flat n.toNat) w5⟩
        subst z
        exact w1 (List.eq_nil_of_length_eq_zero l1)
    · rename_i xs n
      obtain rfl := t2.int
      obtain ⟨a, vs, rfl, ha, ra⟩ := t1
      obtain ⟨⟨w1, w2, w3⟩, w5⟩ := w
      have l1 := ra.length
      exact op_rep pins s σ H _ _ u1 u2 Q I r1 r2 ⟨a, n, vs, rfl, rfl, ha, by omega, by omega, by rw [← line_eq, ← l1]; exact w1, k.newL t (ra.flat n.toNat) w5⟩
  case fdiv =>
    cases x' <;> cases y' <;> first | exact w.elim | skip
    obtain rfl := t1.int; obtain rfl := t2.int
    exact op_fdivN pins s σ H _ _ u1 u2 Q I r1 r2 ⟨_, _, rfl, rfl, w.1, k.at t (.int _) w.2⟩
  case mod =>
    cases x' <;> cases y' <;> first | exact w.elim | skip
    obtain rfl := t1.int; obtain rfl := t2.int
    exact op_mod pins s σ H _ _ u1 u2 Q I r1 r2 ⟨_, _, rfl, rfl, w.1, k.at t (.int _) w.2⟩
  case pow =>
    cases x' <;> cases y' <;> first | exact w.elim | skip
    obtain rfl := t1.int; obtain rfl := t2.int
    exact op_pow pins s σ H _ _ u1 u2 Q I r1 r2 ⟨_, _, rfl, rfl, w.1, k.at t (.int _) w.2⟩
end
end IB
end

section
set_option Elab.async false
set_option linter.all false
set_option maxRecDepth 100000
set_option maxHeartbeats 4000000
/-! S3: comparisons, subscripts, slices. -/
namespace IB
open PySem PySem.Spec PyProof.Rows L2
def cmpOf : COp → CmpOp
  | .eq => .Eq | .ne => .NotEq | .lt => .Lt | .le => .LtE | .gt => .Gt | .ge => .GtE | .isin => .In | .notin => .NotIn | .is => .Is | .isnot => .IsNot
def KontB (K : Frag) (cA : Tn) (R F : Hp) (QQ : Bool → MM → Prop) (Q : VK) : Prop :=
  ∀ (F' H' : Hp) (M' : MM) (b : Bool), Sub F F' → Sto K cA R F' H' M' → QQ b M' → Q (.bl b) H'
theorem KontB.at {K : Frag} {cA : Tn} {R F H : Hp} {M : MM} {QQ : Bool → MM → Prop} {Q : VK} (k : KontB K cA R F QQ Q) (t : Sto K cA R F H M) {b : Bool} (q : QQ b M) : Q (.bl b) H := k F H M b (Sub.refl F) t q
def rCmp (K : Frag) (cA : Tn) (op : COp) : R2 := fun v1 v2 H Q => ∃ R F M x y QQ XX, Sto K cA R F H M ∧ RepV K F x v1 ∧ RepV K F y v2 ∧ wCmp op x y M QQ XX ∧ KontB K cA R F QQ Q
section
variable {K : Frag} {cA : Tn} {R F H : Hp} {M : MM}
theorem Top.dp {x : PV} {v : V} (t : Sto K cA R F H M) {n : Nat} (h : Top K F H x v) (d : PV.dat n x = true) : Dp K H v (toD n x) := by
  cases x with
  | tup xs =>
    obtain ⟨a, vs, rfl, ha, r⟩ := h
    cases n with
    | zero => simp [PV.dat] at d
    | succ n => exact .tup ha (r.dps t.sub (by simpa [PV.dat] using d))
  | lst xs =>
    obtain ⟨a, vs, rfl, ha, r⟩ := h
    cases n with
    | zero => simp [PV.dat] at d
    | succ n => exact .lst (.of ha) (r.dps t.sub (by simpa [PV.dat] using d))
  | non => exact (show RepV K F _ v from h).dp t.sub d
  | bl b => exact (show RepV K F _ v from h).dp t.sub d
  | int b => exact (show RepV K F _ v from h).dp t.sub d
  | str b => exact (show RepV K F _ v from h).dp t.sub d
  | ref b => exact (show RepV K F _ v from h).dp t.sub d
  | rol b => exact (show RepV K F _ v from h).dp t.sub d
/-- flat values -/
theorem RepV.flat {x : PV} {v : V} (r : RepV K F x v) (d : PV.dat 0 x = true) : flatV v = true := by
  cases r <;> first | rfl | (simp [PV.dat] at d; done)
theorem RepVs.allFlat : ∀ {xs : List PV} {vs : List V}, RepVs K F xs vs → xs.all (PV.dat 0) = true → vs.all flatV = true
  | _, _, .nil, _ => rfl
  | _, _, .cons a r, h => by
    simp only [List.all_cons, Bool.and_eq_true] at h ⊢
    exact ⟨a.flat h.1, RepVs.allFlat r h.2⟩
theorem eqV_rep {x y : PV} {v w : V} (r1 : RepV K F x v) (r2 : RepV K F y w) (d1 : PV.dat 0 x = true) (d2 : PV.dat 0 y = true) : eqV v w = PV.eqv x y := by
  cases r1 <;> cases r2 <;> first
    | rfl
    | (simp [PV.dat] at d1; done)
    | (simp [PV.dat] at d2; done)
    | simp only [eqV, PV.eqv, beq_ofString]
theorem inV_rep {x : PV} {v : V} (r : RepV K F x v) (d : PV.dat 0 x = true) : ∀ {xs : List PV} {vs : List V}, RepVs K F xs vs → xs.all (PV.dat 0) = true → inV v vs = xs.any fun z => PV.eqv z x
  | _, _, .nil, _ => rfl
  | _, _, .cons a r2, h => by
    simp only [List.all_cons, Bool.and_eq_true] at h
    have ih := inV_rep r d r2 h.2
    unfold inV at ih ⊢
    rw [List.any_cons, List.any_cons, ih, eqV_rep a r h.1 d]
end
theorem any_toD {n m : Nat} {x : PV} (d : PV.dat n x = true) : ∀ ys : List PV, ys.all (PV.dat m) = true → ((ys.map (toD m)).any fun z => PyData.eqv z (toD n x)) = ys.any fun z => PV.eqv z x
  | [], _ => rfl
  | y :: ys, h => by
    simp only [List.all_cons, Bool.and_eq_true] at h
    rw [List.map_cons, List.any_cons, List.any_cons, any_toD d ys h.2, toD_eqv m n y x h.1 d]
section
variable {X : Cx} {cA : Tn}
theorem isTrue_ok {i : Nat} : True := trivial
theorem eq_ok (hu : X.A.units + 65 < cLine) : OpR X (compareOp .Eq) (rCmp X.K cA .eq) := by
  rintro pins s σ H v1 v2 u1 u2 Q I r1 r2 ⟨R, F, M, x, y, QQ, XX, t, h1, h2, w, k⟩
  obtain ⟨d1, d2, q⟩ := w
  refine op_eqD (by omega) pins s σ H _ _ u1 u2 Q I r1 r2 ⟨_, _, (t.rd h1).dp t d1, (t.rd h2).dp t d2, toD_shaped d1 (by decide), toD_shaped d2 (by decide), ?_⟩
  rw [toD_eqv _ _ _ _ d1 d2]
  exact k.at t q
theorem ne_ok (hu : X.A.units + 65 < cLine) : OpR X (compareOp .NotEq) (rCmp X.K cA .ne) := by
  rintro pins s σ H v1 v2 u1 u2 Q I r1 r2 ⟨R, F, M, x, y, QQ, XX, t, h1, h2, w, k⟩
  obtain ⟨d1, d2, q⟩ := w
  refine op_neD (by omega) pins s σ H _ _ u1 u2 Q I r1 r2 ⟨_, _, (t.rd h1).dp t d1, (t.rd h2).dp t d2, toD_shaped d1 (by decide), toD_shaped d2 (by decide), ?_⟩
  rw [toD_eqv _ _ _ _ d1 d2]
  exact k.at t q
theorem cmp_ok (op : COp) (hu : X.A.units + 65 < cLine) : OpR X (compareOp (cmpOf op)) (rCmp X.K cA op) := by
  cases op
  case eq => exact eq_ok hu
  case ne => exact ne_ok hu
  case lt =>
    rintro pins s σ H v1 v2 u1 u2 Q I r1 r2 ⟨R, F, M, x, y, QQ, XX, t, h1, h2, w, k⟩
    unfold wCmp at w
    cases h1 <;> cases h2 <;> first | exact w.elim | skip
    exact op_lt pins s σ H _ _ u1 u2 Q I r1 r2 ⟨_, _, rfl, rfl, k.at t w⟩
  case le =>
    rintro pins s σ H v1 v2 u1 u2 Q I r1 r2 ⟨R, F, M, x, y, QQ, XX, t, h1, h2, w, k⟩
    unfold wCmp at w
    cases h1 <;> cases h2 <;> first | exact w.elim | skip
    exact op_le pins s σ H _ _ u1 u2 Q I r1 r2 ⟨_, _, rfl, rfl, k.at t w⟩
  case gt =>
    rintro pins s σ H v1 v2 u1 u2 Q I r1 r2 ⟨R, F, M, x, y, QQ, XX, t, h1, h2, w, k⟩
    unfold wCmp at w
    cases h1 <;> cases h2 <;> first | exact w.elim | skip
    exact op_gt pins s σ H _ _ u1 u2 Q I r1 r2 ⟨_, _, rfl, rfl, k.at t w⟩
  case ge =>
    rintro pins s σ H v1 v2 u1 u2 Q I r1 r2 ⟨R, F, M, x, y, QQ, XX, t, h1, h2, w, k⟩
    unfold wCmp at w
    cases h1 <;> cases h2 <;> first | exact w.elim | skip
    exact op_ge pins s σ H _ _ u1 u2 Q I r1 r2 ⟨_, _, rfl, rfl, k.at t w⟩
  case isin =>
    rintro pins s σ H v1 v2 u1 u2 Q I r1 r2 ⟨R, F, M, x, y, QQ, XX, t, h1, h2, w, k⟩
    have w : wIn x y M QQ := w
    have t2 := t.rd h2
    unfold wIn at w
    cases e : IB.rd M y <;> rw [e] at w t2 <;> first | exact w.elim | skip
    · obtain ⟨d1, d2, q⟩ := w
      obtain ⟨a, vs, rfl, ha, ra⟩ := t2
      refine op_in_seq pins s σ H _ _ u1 u2 Q I r1 r2 ⟨a, vs, rfl, .inr ha, h1.flat d1, ra.allFlat d2, ?_⟩
      rw [if_neg Bool.false_ne_true, inV_rep h1 d1 ra d2]
      exact k.at t q
    · obtain ⟨d1, d2, q⟩ := w
      obtain ⟨a, vs, rfl, ha, ra⟩ := t2
      refine op_inD (by omega) pins s σ H _ _ u1 u2 Q I r1 r2 ⟨_, _, h1.dp t.sub d1, .lst (.of ha) (ra.dps t.sub d2), toD_shaped d1 (by decide), ?_, ?_⟩
      · rename_i ys
        exact toD_shaped (n := 50) (x := .lst ys) (by simpa [PV.dat] using d2) (by decide)
      · rw [any_toD d1 _ d2]
        exact k.at t q
  case notin =>
    rintro pins s σ H v1 v2 u1 u2 Q I r1 r2 ⟨R, F, M, x, y, QQ, XX, t, h1, h2, w, k⟩
    have w : wIn x y M (fun b => QQ (!b)) := w
    have t2 := t.rd h2
    unfold wIn at w
    cases e : IB.rd M y <;> rw [e] at w t2 <;> first | exact w.elim | skip
    · obtain ⟨d1, d2, q⟩ := w
      obtain ⟨a, vs, rfl, ha, ra⟩ := t2
      refine op_notIn_seq pins s σ H _ _ u1 u2 Q I r1 r2 ⟨a, vs, rfl, .inr ha, h1.flat d1, ra.allFlat d2, ?_⟩
      rw [if_pos rfl, inV_rep h1 d1 ra d2]
      exact k.at t q
    · obtain ⟨d1, d2, q⟩ := w
      obtain ⟨a, vs, rfl, ha, ra⟩ := t2
      refine op_notInD (by omega) pins s σ H _ _ u1 u2 Q I r1 r2 ⟨_, _, h1.dp t.sub d1, .lst (.of ha) (ra.dps t.sub d2), toD_shaped d1 (by decide), ?_, ?_⟩
      · rename_i ys
        exact toD_shaped (n := 50) (x := .lst ys) (by simpa [PV.dat] using d2) (by decide)
      · rw [any_toD d1 _ d2]
        exact k.at t q
  case is =>
    rintro pins s σ H v1 v2 u1 u2 Q I r1 r2 ⟨R, F, M, x, y, QQ, XX, t, h1, h2, w, k⟩
    unfold wCmp at w
    cases h2 <;> first | exact w.elim | skip
    · refine op_isN pins s σ H _ _ u1 u2 Q I r1 r2 ⟨rfl, ?_⟩
      cases h1 <;> exact k.at t w
    · rename_i b
      cases b
      · exact w.elim
      · cases h1 <;> first | exact w.elim | skip
        rename_i c
        refine op_isBl pins s σ H _ _ u1 u2 Q I r1 r2 ⟨c, true, rfl, rfl, ?_⟩
        have e : decide (c = true) = c := by cases c <;> rfl
        rw [e]
        exact k.at t w
  case isnot =>
    rintro pins s σ H v1 v2 u1 u2 Q I r1 r2 ⟨R, F, M, x, y, QQ, XX, t, h1, h2, w, k⟩
    unfold wCmp at w
    cases h2 <;> first | exact w.elim | skip
    · refine op_notN pins s σ H _ _ u1 u2 Q I r1 r2 ⟨rfl, ?_⟩
      cases h1 <;> exact k.at t w
theorem Sto.listOf {K : Frag} {R F H : Hp} {M : MM} (t : Sto K cA R F H M) {x : PV} {v : V} {xs : List PV} (r : RepV K F x v) (e : listOf M x = some xs) :
    ∃ a vs, v = .ref a ∧ RepVs K F xs vs ∧ H a = some (.lst vs) := by
  have q := t.rd r
  unfold IB.listOf at e
  cases h : IB.rd M x <;> rw [h] at e q <;> first | cases e | skip
  obtain ⟨a, vs, e1, e2, e3⟩ := q
  exact ⟨a, vs, e1, e3, e2⟩
/-! ### subscripts, slices -/
def rSub (K : Frag) (cA : Tn) : R2 := fun v1 v2 H Q => ∃ R F M x y QQ XX, Sto K cA R F H M ∧ RepV K F x v1 ∧ RepV K F y v2 ∧ wSub x y M QQ XX ∧ Kont K cA R F QQ Q
theorem sub_ok : IxR X (rSub X.K cA) := by
  rintro value slice pins s σ H v1 v2 u1 u2 Q I r1 r2 ⟨R, F, M, x, y, QQ, XX, t, h1, h2, w, k⟩ hs
  unfold wSub at w
  cases e : IB.itemsR M x with
  | none => rw [e] at w; exact w.elim
  | some xs =>
    rw [e] at w
    cases h2 <;> first | exact w.elim | skip
    rename_i i
    have w : (match (idx? xs.length i).bind (xs[·]?) with | some v => QQ v M | none => False) := w
    cases e2 : (idx? xs.length i).bind (xs[·]?) with
    | none => rw [e2] at w; exact w.elim
    | some z =>
      rw [e2] at w
      obtain ⟨a, vs, rfl, ra, hq⟩ := t.itemsR h1 e
      have hl := ra.length
      obtain ⟨j, e3, e4⟩ := Option.bind_eq_some_iff.mp e2
      obtain ⟨v, e5, rv⟩ := ra.get e4
      have e6 : atI vs i = some v := by
        unfold atI
        have : ixN vs.length i = some j := by rw [← hl]; exact e3
        rw [this]; exact e5
      rcases hq with hq | hq
      · exact ix_list value slice pins s σ H _ _ u1 u2 Q I r1 r2 ⟨a, vs, i, v, rfl, rfl, hq, e6, k.at t rv w⟩ hs
      · exact ix_tup value slice pins s σ H _ _ u1 u2 Q I r1 r2 ⟨a, vs, i, v, rfl, rfl, hq, e6, k.at t rv w⟩ hs
def rSli (K : Frag) (cA : Tn) : V → Option Int → Option Int → Hp → VK → Prop := fun v lo hi H Q => ∃ R F M x QQ XX, Sto K cA R F H M ∧ RepV K F x v ∧ wSli x lo hi M QQ XX ∧ Kont K cA R F QQ Q
theorem slice_cut {xs : List PV} {lo hi : Option Int} : sliceOf xs lo hi = (xs.drop (HT.sIx xs.length 0 lo)).take (HT.sIx xs.length xs.length hi - HT.sIx xs.length 0 lo) := by
  cases lo <;> cases hi <;> rfl
theorem slice_rep {K : Frag} {F : Hp} {xs : List PV} {vs : List V} (r : RepVs K F xs vs) (lo hi : Option Int) : RepVs K F (sliceOf xs lo hi) (cutV vs lo hi) := by
  rw [slice_cut]
  unfold cutV
  rw [← r.length]
  exact (r.drop _).take _
theorem slice_whole {xs : List PV} {lo hi : Option Int} (h : HT.sIx xs.length 0 lo = 0 ∧ HT.sIx xs.length xs.length hi = xs.length) : sliceOf xs lo hi = xs := by
  rw [slice_cut, h.1, h.2]
  simp
theorem sli_ok : SlR X (rSli X.K cA) := by
  rintro pins s σ H v u vl vu lo hi sl Q I rv hs p1 p2 ⟨R, F, M, x, QQ, XX, t, h1, w, k⟩
  unfold wSli at w
  have other : (match IB.itemsR M x with | some xs => QQ (.lst (sliceOf xs lo hi)) M | none => False) → (∀ xs, x ≠ .tup xs) → ∃ T id, typeLookup (.type T) "__getitem__" = pure (some (.builtin id)) ∧ s.TypeIs u T ∧ wpAny (model X.prog X.w) X.A (getItem u (.ref sl)) (EP X pins σ Q) X.xe s := by
    intro w nt
    cases e : IB.itemsR M x with
    | none => rw [e] at w; exact w.elim
    | some xs =>
      rw [e] at w
      have hL : ∃ a vs, v = .ref a ∧ RepVs X.K F xs vs ∧ SqL X.K H a vs := by
        cases h1 with
        | ref a =>
          have e : (match M a with | some (.lst xs) => some xs | _ => none) = some xs := e
          cases h : M a with
          | none => rw [h] at e; cases e
          | some o =>
            rw [h] at e
            obtain ⟨_, q⟩ := t.mem a o h
            cases q with
            | lst h r => obtain rfl := Option.some.inj e; exact ⟨_, _, rfl, r, .inl (.inl h)⟩
            | ins c h r => cases e
        | tup h r => exact absurd rfl (nt _)
        | lst h r => obtain rfl := Option.some.inj e; exact ⟨_, _, rfl, r, .inl (.inl (t.sub _ _ h))⟩
        | rol h r => obtain rfl := Option.some.inj e; exact ⟨_, _, rfl, r, sqL_sub t.sub h⟩
        | non => cases e
        | bl b => cases e
        | int b => cases e
        | str b => cases e
      obtain ⟨a, vs, rfl, ra, hq⟩ := hL
      exact sl_list pins s σ H _ u vl vu lo hi sl Q I rv hs p1 p2 ⟨a, vs, rfl, hq, k.newL t (slice_rep ra lo hi) w⟩
  cases x with
  | tup xs =>
    have w : QQ (.tup (sliceOf xs lo hi)) M := w
    obtain ⟨a, vs, rfl, ha, ra⟩ := h1.top t.sub
    refine sl_tupA pins s σ H _ u vl vu lo hi sl Q I rv hs p1 p2 ⟨a, vs, rfl, ha, fun e => ?_, fun _ => k.newT t (slice_rep ra lo hi) w⟩
    rw [← ra.length] at e
    rw [slice_whole e] at w
    exact k.at t h1 w
  | non => exact other w (fun _ z => nomatch z)
  | bl b => exact other w (fun _ z => nomatch z)
  | int b => exact other w (fun _ z => nomatch z)
  | str b => exact other w (fun _ z => nomatch z)
  | lst b => exact other w (fun _ z => nomatch z)
  | ref b => exact other w (fun _ z => nomatch z)
  | rol b => exact other w (fun _ z => nomatch z)
/-! ### built-in functions -/
def rBi (K : Frag) (cA : Tn) (b : Bi) : List V → Hp → VK → Prop := fun vs H Q => ∃ R F M xs QQ XX, Sto K cA R F H M ∧ RepVs K F xs vs ∧ wBi b xs M QQ XX ∧ Kont K cA R F QQ Q
theorem sum_tup (hc : X.calm = true) : CallR X (.builtin "sum") (fun vs H Q => ∃ (a : Addr) (ns : List Int), vs = [V.ref a] ∧ SqT X.K H a (ns.map V.int) ∧ Q (.int ns.sum) H) := by
  rintro pins s σ H vs us Q I r ⟨a, ns, rfl, hs, q⟩
  obtain ⟨its, rv, ht, _⟩ := I.tuple hs
  rw [Vals.ref1 r]
  have hi := rv.ints
  obtain ⟨xs, e⟩ := hi.allInts.items
  have hn : numsOf (intItems xs).toList = ns := by rw [← e]; exact hi.numsOf
  rw [nums_intItems] at hn
  have ht : s.heap.IsTuple a (intItems xs) := by rw [← e]; exact ht
  refine PySem.W.ktm_sumG (I.ok.hd hc) ht fun h' tk t' hk => ?_
  rw [preSum_eq, List.take_of_length_le (by simp), hn]
  exact ⟨.int _, H, I.kept hk, ⟨_, rfl⟩, q⟩
def biV : Bi → Value
  | .len => .builtin "len" | .sum => .builtin "sum" | .int => .type "int" | .abs => .builtin "abs" | .min => .builtin "min" | .max => .builtin "max" | .tuple => .type "tuple"
  | .all => .builtin "all" | .any => .builtin "any" | .divmod => .builtin "divmod" | .str => .type "str"
theorem rep1 {K : Frag} {F : Hp} {x : PV} {vs : List V} (r : RepVs K F [x] vs) : ∃ v, vs = [v] ∧ RepV K F x v := by
  cases r with
  | cons a b => cases b; exact ⟨_, rfl, a⟩
theorem rep2 {K : Frag} {F : Hp} {x y : PV} {vs : List V} (r : RepVs K F [x, y] vs) : ∃ v w, vs = [v, w] ∧ RepV K F x v ∧ RepV K F y w := by
  cases r with
  | cons a b =>
    obtain ⟨w, rfl, rw'⟩ := rep1 b
    exact ⟨_, _, rfl, a, rw'⟩
theorem bi_ok (b : Bi) (hc : X.calm = true) : CallR X (biV b) (rBi X.K cA b) := by
  rintro pins s σ H vs us Q I r ⟨R, F, M, xs, QQ, XX, t, h, w, k⟩
  unfold wBi at w
  cases b
  case len =>
    match xs, h, w with
    | [], _, w => exact w.elim
    | [x], h, w =>
      obtain ⟨v, rfl, rv⟩ := rep1 h
      have w : (match IB.itemsR M x with | some ys => QQ (.int ys.length) M | none => False) := w
      cases e : IB.itemsR M x with
      | none => rw [e] at w; exact w.elim
      | some ys =>
        rw [e] at w
        obtain ⟨a, vs, rfl, ra, hq⟩ := t.itemsR rv e
        refine call_len_seq pins s σ H _ us Q I r ⟨a, vs, rfl, hq, ?_⟩
        rw [← ra.length]
        exact k.at t (.int _) w
    | _ :: _ :: _, _, w => exact w.elim
  case sum =>
    match xs, h, w with
    | [], _, w => exact w.elim
    | [x], h, w =>
      obtain ⟨v, rfl, rv⟩ := rep1 h
      have w : (match (itemsOf M x).bind ints? with | some ys => QQ (.int ys.sum) M | none => False) := w
      cases e : itemsOf M x with
      | none => rw [e] at w; exact w.elim
      | some ys =>
        rw [e, Option.bind_some] at w
        cases e2 : ints? ys with
        | none => rw [e2] at w; exact w.elim
        | some ns =>
          rw [e2] at w
          obtain ⟨a, vs, rfl, ra, hq⟩ := t.items rv e
          obtain ⟨e3, _⟩ := ra.ints e2
          subst e3
          rcases hq with hq | hq
          · exact cr_sum hc pins s σ H _ us Q I r ⟨a, ns, rfl, .of hq, k.at t (.int _) w⟩
          · exact sum_tup hc pins s σ H _ us Q I r ⟨a, ns, rfl, hq, k.at t (.int _) w⟩
    | _ :: _ :: _, _, w => exact w.elim
  case int =>
    match xs, h, w with
    | [.int i], h, w =>
      obtain ⟨v, rfl, rv⟩ := rep1 h
      cases rv
      exact call_int1 pins s σ H _ us Q I r (.inl ⟨i, rfl, k.at t (.int _) w⟩)
    | [.bl i], h, w =>
      obtain ⟨v, rfl, rv⟩ := rep1 h
      cases rv
      exact call_int1 pins s σ H _ us Q I r (.inr ⟨i, rfl, k.at t (.int _) w⟩)
    | [], _, w => exact w.elim
    | [.non], _, w => exact w.elim
    | [.str _], _, w => exact w.elim
    | [.tup _], _, w => exact w.elim
    | [.lst _], _, w => exact w.elim
    | [.ref _], _, w => exact w.elim
    | [.rol _], _, w => exact w.elim
    | _ :: _ :: _, _, w => simp at w
  case abs =>
    match xs, h, w with
    | [.int i], h, w =>
      obtain ⟨v, rfl, rv⟩ := rep1 h
      cases rv
      exact call_abs pins s σ H _ us Q I r ⟨i, rfl, k.at t (.int _) w⟩
    | [], _, w => exact w.elim
    | [.non], _, w => exact w.elim
    | [.bl _], _, w => exact w.elim
    | [.str _], _, w => exact w.elim
    | [.tup _], _, w => exact w.elim
    | [.lst _], _, w => exact w.elim
    | [.ref _], _, w => exact w.elim
    | [.rol _], _, w => exact w.elim
    | _ :: _ :: _, _, w => simp at w
  case tuple =>
    match xs, h, w with
    | [], _, w => exact w.elim
    | [x], h, w =>
      obtain ⟨v, rfl, rv⟩ := rep1 h
      have w : (match itemsOf M x with | some ys => QQ (.tup ys) M | none => False) := w
      cases e : itemsOf M x with
      | none => rw [e] at w; exact w.elim
      | some ys =>
        rw [e] at w
        obtain ⟨a, vs, rfl, ra, hq⟩ := t.items rv e
        refine call_tuple_of pins s σ H _ us Q I r ⟨a, vs, rfl, ?_⟩
        rcases hq with hq | hq
        · exact .inl ⟨.of hq, k.newT t ra w⟩
        · refine .inr ⟨hq, ?_⟩
          unfold itemsOf at e
          cases e4 : IB.rd M x <;> rw [e4] at e <;> first | cases e | skip
          · obtain rfl := rd_tup e4
            exact k.at t rv w
          · -- a list is no tuple
            have q := t.rd rv
            rw [e4] at q
            obtain ⟨b, ws, e5, hb, _⟩ := q
            cases e5
            exact absurd hq (fun hq => by
              obtain ⟨its, _, ⟨o, ho, hcl, _⟩, _⟩ := I.tuple hq
              obtain ⟨its', n', _, ho', _⟩ := I.lst hb
              rw [ho] at ho'
              cases ho'
              exact absurd hcl (by simp))
    | _ :: _ :: _, _, w => exact w.elim
  case all =>
    match xs, h, w with
    | [], _, w => exact w.elim
    | [x], h, w =>
      obtain ⟨v, rfl, rv⟩ := rep1 h
      have w : (match (listOf M x).bind bools? with | some ys => QQ (.bl (ys.all id)) M | none => False) := w
      cases e : listOf M x with
      | none => rw [e] at w; exact w.elim
      | some ys =>
        rw [e, Option.bind_some] at w
        cases e2 : bools? ys with
        | none => rw [e2] at w; exact w.elim
        | some ns =>
          rw [e2] at w
          obtain ⟨a, vs, rfl, ra, hq⟩ := t.listOf rv e
          obtain ⟨e3, _⟩ := ra.bools e2
          subst e3
          exact cr_all hc pins s σ H _ us Q I r ⟨a, ns, rfl, .of hq, k.at t (.bl _) w⟩
    | _ :: _ :: _, _, w => exact w.elim
  case any =>
    match xs, h, w with
    | [], _, w => exact w.elim
    | [x], h, w =>
      obtain ⟨v, rfl, rv⟩ := rep1 h
      have w : (match (listOf M x).bind bools? with | some ys => QQ (.bl (ys.any id)) M | none => False) := w
      cases e : listOf M x with
      | none => rw [e] at w; exact w.elim
      | some ys =>
        rw [e, Option.bind_some] at w
        cases e2 : bools? ys with
        | none => rw [e2] at w; exact w.elim
        | some ns =>
          rw [e2] at w
          obtain ⟨a, vs, rfl, ra, hq⟩ := t.listOf rv e
          obtain ⟨e3, _⟩ := ra.bools e2
          subst e3
          exact cr_any hc pins s σ H _ us Q I r ⟨a, ns, rfl, .of hq, k.at t (.bl _) w⟩
    | _ :: _ :: _, _, w => exact w.elim
  case min =>
    have key : ∃ i j, xs = [.int i, .int j] ∧ QQ (.int (if j < i then j else i)) M := by
      match xs, w with
      | [.int i, .int j], w => exact ⟨i, j, rfl, w⟩
    obtain ⟨i, j, rfl, w⟩ := key
    obtain ⟨v, v', rfl, r1, r2⟩ := rep2 h
    cases r1; cases r2
    exact call_min2 hc pins s σ H _ us Q I r ⟨i, j, rfl, k.at t (.int _) w⟩
  case max =>
    have key : ∃ i j, xs = [.int i, .int j] ∧ QQ (.int (if j > i then j else i)) M := by
      match xs, w with
      | [.int i, .int j], w => exact ⟨i, j, rfl, w⟩
    obtain ⟨i, j, rfl, w⟩ := key
    obtain ⟨v, v', rfl, r1, r2⟩ := rep2 h
    cases r1; cases r2
    exact call_max2 hc pins s σ H _ us Q I r ⟨i, j, rfl, k.at t (.int _) w⟩
  case divmod =>
    have key : ∃ i j, xs = [.int i, .int j] ∧ (0 < j ∧ j < 1073741824) ∧ QQ (.tup [.int (i / j), .int (i % j)]) M := by
      match xs, w with
      | [.int i, .int j], w => exact ⟨i, j, rfl, w⟩
    obtain ⟨i, j, rfl, w1, w2⟩ := key
    obtain ⟨v, v', rfl, r1, r2⟩ := rep2 h
    cases r1; cases r2
    exact call_divmod pins s σ H _ us Q I r ⟨i, j, rfl, w1, k.newT t (.cons (.int _) (.cons (.int _) .nil)) w2⟩
  case str => exact (by match xs, w with | [], w => exact w.elim | [_], w => exact w.elim | _ :: _ :: _, w => exact w.elim)
end
end IB
end

section
set_option Elab.async false
set_option linter.all false
set_option maxRecDepth 100000
set_option maxHeartbeats 4000000
/-! S4: readings of Core's expressions, and how they are made of one another. -/
namespace IB
open PySem PySem.Spec PyProof.Rows L2
/-- what a body's reading leans on -/
structure Co where
  K : Frag
  cA : Tn
  eA : String → Option Addr
  G : Gl
  call : CallT
  Cl : Hp → Hp → SV → V → Prop
  W : WX
  mono : ∀ R F F' sv v, Sub F F' → Cl R F sv v → Cl R F' sv v
def RepS (C : Co) (R F : Hp) : SV → V → Prop
  | .pv p, v => RepV C.K F p v
  | sv, v => C.Cl R F sv v
theorem RepS.sub {C : Co} {R F F' : Hp} (s : Sub F F') : ∀ {sv : SV} {v : V}, RepS C R F sv v → RepS C R F' sv v
  | .pv _, _, h => RepV.sub s h
  | .fn _, _, h => C.mono _ _ _ _ _ s h
  | .clo _ _ _, _, h => C.mono _ _ _ _ _ s h
  | .exc _ _, _, h => C.mono _ _ _ _ _ s h
structure StS (C : Co) (R F : Hp) (σ : L2.St) (env : Env) : Prop where
  len : env.length = σ.length
  at_ : ∀ i sv, slot env i = some sv → ∃ v, σ[i]? = some (some v) ∧ RepS C R F sv v
theorem StS.sub {C : Co} {R F F' : Hp} {σ : L2.St} {env : Env} (h : StS C R F σ env) (s : Sub F F') : StS C R F' σ env :=
  ⟨h.len, fun i sv e => let ⟨v, h1, h2⟩ := h.at_ i sv e; ⟨v, h1, h2.sub s⟩⟩
/-- an exception in both worlds -/
structure ExR (C : Co) (F H : Hp) (cn : String) (fs : List (String × PV)) (cls : Value) (d : Option Addr) : Prop where
  ex : ∃ E dd gs, C.eA cn = some E ∧ cls = .ref E ∧ d = some dd ∧ H dd = some (.xd gs) ∧ RepFs C.K F fs gs
def KontX (C : Co) (R F : Hp) (σ : L2.St) (XX : XK) : Prop :=
  ∀ (F' H' : Hp) (M' : MM) (cn : String) (fs : List (String × PV)) (cls : Value) (d : Option Addr), Sub F F' → Sto C.K C.cA R F' H' M' → ExR C F' H' cn fs cls d → XX cn fs M' → C.W cls d σ H'
theorem KontX.sub {C : Co} {R F F' : Hp} {σ : L2.St} {XX : XK} (h : KontX C R F σ XX) (s : Sub F F') : KontX C R F' σ XX :=
  fun F1 H' M' cn fs cls d s' => h F1 H' M' cn fs cls d (s.trans s')
/-- an expression's reading by Core -/
def TX (C : Co) (c : CE) : TE := fun σ H Q => ∃ R F env M QQ XX, Sto C.K C.cA R F H M ∧ StS C R F σ env ∧ wE C.G C.call c env M QQ XX ∧ Kont C.K C.cA R F QQ Q ∧ KontX C R F σ XX
/-- a test's -/
def KontT (C : Co) (R F : Hp) (QQ : Bool → MM → Prop) (Q : Bool → Hp → Prop) : Prop := ∀ (F' H' : Hp) (M' : MM) (b : Bool), Sub F F' → Sto C.K C.cA R F' H' M' → QQ b M' → Q b H'
theorem KontT.sub {C : Co} {R F F1 : Hp} {QQ : Bool → MM → Prop} {Q : Bool → Hp → Prop} (h : KontT C R F QQ Q) (s : Sub F F1) : KontT C R F1 QQ Q := fun F' H' M' b s' => h F' H' M' b (s.trans s')
def TY (C : Co) (c : CE) : TT := fun σ H Q => ∃ R F env M QQ XX, Sto C.K C.cA R F H M ∧ StS C R F σ env ∧ wC C.G C.call c env M QQ XX ∧ KontT C R F QQ Q ∧ KontX C R F σ XX
/-- a list of values -/
def KontL (C : Co) (R F : Hp) (QQ : List PV → MM → Prop) (Q : List V → Hp → Prop) : Prop := ∀ (F' H' : Hp) (M' : MM) (xs : List PV) (vs : List V), Sub F F' → Sto C.K C.cA R F' H' M' → RepVs C.K F' xs vs → QQ xs M' → Q vs H'
theorem KontL.sub {C : Co} {R F F1 : Hp} {QQ : List PV → MM → Prop} {Q : List V → Hp → Prop} (h : KontL C R F QQ Q) (s : Sub F F1) : KontL C R F1 QQ Q := fun F' H' M' b vs s' => h F' H' M' b vs (s.trans s')
def TL (C : Co) (as : CAs) : TA := fun σ H Q => ∃ R F env M QQ XX, Sto C.K C.cA R F H M ∧ StS C R F σ env ∧ wD C.G C.call as env M QQ XX ∧ KontL C R F QQ Q ∧ KontX C R F σ XX
/-- a fresh list: where it stands is in none of both -/
def KontF (C : Co) (R F : Hp) (QQ : List PV → MM → Prop) (Q : VK) : Prop := ∀ (F' H' : Hp) (M' : MM) (xs : List PV) (vs : List V) (p : Addr), Sub F F' → Sto C.K C.cA R F' H' M' → RepVs C.K F' xs vs → QQ xs M' → H' p = none → Q (.ref p) (L2.upd H' p (.lst vs))
def TF (C : Co) (f : CF) : TE := fun σ H Q => ∃ R F env M QQ XX, Sto C.K C.cA R F H M ∧ StS C R F σ env ∧ wF C.G C.call f env M QQ XX ∧ KontF C R F QQ Q ∧ KontX C R F σ XX
section
variable {X : Cx} {C : Co} {e a b c : Expr} {ca cb cc : CE} {pos : Pos}
theorem _root_.L2.PE.imp {t t' : TE} (h : PE X e t) (i : ∀ σ H Q, t' σ H Q → t σ H Q) : PE X e t' := ⟨fun pins s σ H Q I q => h.run pins s σ H Q I (i σ H Q q)⟩
theorem _root_.L2.PT.imp {t t' : TT} (h : PT X e t) (i : ∀ σ H Q, t' σ H Q → t σ H Q) : PT X e t' := ⟨fun pins s σ H Q I q => h.run pins s σ H Q I (i σ H Q q)⟩
theorem _root_.L2.PW.imp {t t' : TT} (h : PW X e t) (i : ∀ σ H Q, t' σ H Q → t σ H Q) : PW X e t' := ⟨fun wh pins s σ H Q I q => h.run wh pins s σ H Q I (i σ H Q q)⟩
theorem _root_.L2.PA.imp {es : List Expr} {t t' : TA} (h : PA X es t) (i : ∀ σ H Q, t' σ H Q → t σ H Q) : PA X es t' := ⟨fun p pins s σ H Q I q => h.run p pins s σ H Q I (i σ H Q q)⟩
/-! ### constants and names -/
theorem g_non {j} : PE X (.Constant .none j pos) (TX C .non) := pe_non.imp fun σ H Q ⟨R, F, env, M, QQ, XX, t, st, w, k, kx⟩ => k.at t .non w
theorem g_bl {b j} : PE X (.Constant (.bool b) j pos) (TX C (.bl b)) := pe_bl.imp fun σ H Q ⟨R, F, env, M, QQ, XX, t, st, w, k, kx⟩ => k.at t (.bl b) w
theorem g_int {i j} : PE X (.Constant (.int i) j pos) (TX C (.int i)) := pe_int.imp fun σ H Q ⟨R, F, env, M, QQ, XX, t, st, w, k, kx⟩ => k.at t (.int i) w
theorem g_str {x : Str} {s : String} {j} (h : x = Str.ofString s) : PE X (.Constant (.str x) j pos) (TX C (.str s)) := by
  subst h
  exact pe_str.imp fun σ H Q ⟨R, F, env, M, QQ, XX, t, st, w, k, kx⟩ => k.at t (.str s) w
theorem g_var {i : Nat} {x : Str} (hN : X.N[i]? = some x) (hv : Vis X.env.scope x) (hd : (x == ("__debug__" : Str)) = false) (hcd : (x == ("__classdict__" : Str)) = false) : PE X (.Name x pos) (TX C (.var i)) := by
  refine (pe_var hN hv hd hcd).imp fun σ H Q ⟨R, F, env, M, QQ, XX, t, st, w, k, kx⟩ => ?_
  have w : (match slot env i with | some (.pv v) => QQ v M | _ => False) := w
  cases q : slot env i with
  | none => rw [q] at w; exact w.elim
  | some sv =>
    rw [q] at w
    cases sv with
    | pv p =>
      obtain ⟨v, h1, h2⟩ := st.at_ i _ q
      exact ⟨v, h1, k.at t h2 w⟩
    | fn f => exact w.elim
    | clo _ _ _ => exact w.elim
    | exc _ _ => exact w.elim
theorem g_glob {x : Str} {s : String} (hx : x = Str.ofString s) (hg : L2.Gl X x) (hm : ∀ p, C.G.consts s = some p → ∃ u v, X.mg x = some u ∧ RelV v u ∧ RepV C.K (fun _ => none) p v) (hd : (x == ("__debug__" : Str)) = false) : PE X (.Name x pos) (TX C (.glob s)) := by
  cases q : C.G.consts s with
  | none =>
    refine ⟨fun pins s' σ H Q I ⟨R, F, env, M, QQ, XX, t, st, w, k, kx⟩ => ?_⟩
    have w : (match C.G.consts s with | some v => QQ v M | none => False) := w
    rw [q] at w
    exact w.elim
  | some p =>
    obtain ⟨u, v, h1, h2, h3⟩ := hm p q
    refine (pe_glob hg h1 h2 hd).imp fun σ H Q ⟨R, F, env, M, QQ, XX, t, st, w, k, kx⟩ => ?_
    have w : (match C.G.consts s with | some v => QQ v M | none => False) := w
    rw [q] at w
    exact k.at t (h3.sub (fun _ _ e => by cases e)) w
/-! ### displays -/
theorem g_tup {es : List Expr} {as : CAs} {x1} (h : PA X es (TL C as)) : PE X (.Tuple es x1 pos) (TX C (.tup as)) := by
  refine (pe_tup h).imp fun σ H Q ⟨R, F, env, M, QQ, XX, t, st, w, k, kx⟩ => ?_
  refine ⟨R, F, env, M, _, XX, t, st, w, fun F1 H1 M1 xs vs s1 t1 r1 q1 => ⟨?_, (k.sub s1).newT t1 r1 q1.2⟩, kx⟩
  rw [← r1.length, ← line_eq]
  exact q1.1
theorem g_dis {es : List Expr} {as : CAs} (h : PA X es (TL C as)) : PE X (.List es pos) (TF C (.dis as)) := by
  refine (pe_lst h).imp fun σ H Q ⟨R, F, env, M, QQ, XX, t, st, w, k, kx⟩ => ?_
  refine ⟨R, F, env, M, _, XX, t, st, w, fun F1 H1 M1 xs vs s1 t1 r1 q1 => ⟨?_, fun p n => k F1 H1 M1 xs vs p s1 t1 r1 q1.2 n⟩, kx⟩
  rw [← r1.length, ← line_eq]
  exact q1.1
theorem g_frh {f : CF} {box : Bool} (h : PE X e (TF C f)) : PE X e (TX C (.frh box f)) := by
  refine h.imp fun σ H Q ⟨R, F, env, M, QQ, XX, t, st, w, k, kx⟩ => ?_
  refine ⟨R, F, env, M, _, XX, t, st, w, fun F1 H1 M1 xs vs p s1 t1 r1 q1 n => ?_, kx⟩
  cases box with
  | true =>
    have q1 : ∀ a, M1 a = none → QQ (.ref a) (IB.upd M1 a (.lst xs)) := q1
    exact k F1 _ _ (.ref p) _ s1 (t1.alloc n (.lst upd_same r1)) (.ref p) (q1 p (t1.fr n).2)
  | false => exact (k.sub s1).newL t1 r1 q1 p n
theorem l_nil : PA X [] (TL C .nil) := pa_nil.imp fun σ H Q ⟨R, F, env, M, QQ, XX, t, st, w, k, kx⟩ => k F H M [] [] (Sub.refl F) t .nil w
theorem star_false {es : List Expr} (h : ∀ z p, e ≠ .Starred z p) : ∀ env, starEach (e :: es) env = (false, eval e env) :: starEach es env := by
  intro env
  cases e <;> first | rfl | exact absurd rfl (h _ _)
theorem l_pos {es : List Expr} {r : CAs} (ns : ∀ z p, e ≠ .Starred z p) (ha : PE X e (TX C ca)) (hr : PA X es (TL C r)) : PA X (e :: es) (TL C (.pos ca r)) := by
  refine (pa_cons ha hr (star_false ns _)).imp fun σ H Q ⟨R, F, env, M, QQ, XX, t, st, w, k, kx⟩ => ?_
  refine ⟨R, F, env, M, _, XX, t, st, w, fun F1 H1 M1 x v s1 t1 r1 q1 => ?_, kx⟩
  refine ⟨R, F1, env, M1, _, XX, t1, st.sub s1, q1, fun F2 H2 M2 xs vs s2 t2 r2 q2 => ?_, kx.sub s1⟩
  exact k F2 H2 M2 _ _ (s1.trans s2) t2 (.cons (r1.sub s2) r2) q2
theorem l_star {es : List Expr} {r : CAs} {p : Pos} (ha : PE X e (TX C ca)) (hr : PA X es (TL C r)) (hK : X.K = C.K) : PA X (.Starred e p :: es) (TL C (.star ca r)) := by
  refine (StX.pa_star ha hr).imp fun σ H Q ⟨R, F, env, M, QQ, XX, t, st, w, k, kx⟩ => ?_
  refine ⟨R, F, env, M, _, XX, t, st, w, fun F1 H1 M1 x v s1 t1 r1 q1 => ?_, kx⟩
  have q1 : (match itemsOf M1 x with | some ys => wD C.G C.call r env M1 (fun xs M2 => QQ (ys ++ xs) M2) XX | none => False) := q1
  cases e1 : itemsOf M1 x with
  | none => rw [e1] at q1; exact q1.elim
  | some ys =>
    rw [e1] at q1
    obtain ⟨a, vs, rfl, ra, hq⟩ := t1.items r1 e1
    refine ⟨a, vs, rfl, ?_, R, F1, env, M1, _, XX, t1, st.sub s1, q1, fun F2 H2 M2 xs ws s2 t2 r2 q2 => ?_, kx.sub s1⟩
    · rw [hK]
      rcases hq with hq | hq
      · exact .inr (.of hq)
      · exact .inl hq
    · exact k F2 H2 M2 _ _ (s1.trans s2) t2 ((ra.sub s2).app r2) q2
/-! ### operators -/
theorem g_bin {op : BOp} (hK : X.K = C.K) (ha : PE X a (TX C ca)) (hb : PE X b (TX C cb)) : PE X (.BinOp a (opOf op) b pos) (TX C (.bin op ca cb)) := by
  refine (pe_op (bin_ok (cA := C.cA) op) ha hb).imp fun σ H Q ⟨R, F, env, M, QQ, XX, t, st, w, k, kx⟩ => ?_
  refine ⟨R, F, env, M, _, XX, t, st, w, fun F1 H1 M1 x v s1 t1 r1 q1 => ?_, kx⟩
  refine ⟨R, F1, env, M1, _, XX, t1, st.sub s1, q1, fun F2 H2 M2 y v2 s2 t2 r2 q2 => ?_, kx.sub s1⟩
  rw [hK]
  exact ⟨R, F2, M2, x, y, QQ, XX, t2, r1.sub s2, r2, q2, k.sub (s1.trans s2)⟩
theorem g_neg (ha : PE X a (TX C ca)) : PE X (.UnaryOp .USub a pos) (TX C (.neg ca)) := by
  refine (pe_un un_neg ha).imp fun σ H Q ⟨R, F, env, M, QQ, XX, t, st, w, k, kx⟩ => ?_
  refine ⟨R, F, env, M, _, XX, t, st, w, fun F1 H1 M1 x v s1 t1 r1 q1 => ?_, kx⟩
  cases r1 <;> first | exact q1.elim | skip
  rename_i i
  exact ⟨i, rfl, (k.sub s1).at t1 (.int _) q1⟩
theorem g_cmp {op : COp} (hK : X.K = C.K) (hu : X.A.units + 65 < cLine) (hm : behindInMarks (cmpOf op) b = false) (ha : PE X a (TX C ca)) (hb : PE X b (TX C cb)) : PE X (.Compare a [cmpOf op] [b] pos) (TX C (.cmp op ca cb)) := by
  refine (pe_cmpR (cmp_ok (cA := C.cA) op hu) ha hb hm).imp fun σ H Q ⟨R, F, env, M, QQ, XX, t, st, w, k, kx⟩ => ?_
  refine ⟨R, F, env, M, _, XX, t, st, w, fun F1 H1 M1 x v s1 t1 r1 q1 => ?_, kx⟩
  refine ⟨R, F1, env, M1, _, XX, t1, st.sub s1, q1, fun F2 H2 M2 y v2 s2 t2 r2 q2 => ?_, kx.sub s1⟩
  rw [hK]
  exact ⟨R, F2, M2, x, y, _, XX, t2, r1.sub s2, r2, q2, fun F3 H3 M3 c s3 t3 q3 => k F3 H3 M3 _ _ (s1.trans (s2.trans s3)) t3 (.bl c) q3⟩
theorem t_cmp {op : COp} (hK : X.K = C.K) (hu : X.A.units + 65 < cLine) (hm : behindInMarks (cmpOf op) b = false) (ha : PE X a (TX C ca)) (hb : PE X b (TX C cb)) : PT X (.Compare a [cmpOf op] [b] pos) (TY C (.cmp op ca cb)) := by
  refine (pt_cmpR (cmp_ok (cA := C.cA) op hu) ha hb hm).imp fun σ H Q ⟨R, F, env, M, QQ, XX, t, st, w, k, kx⟩ => ?_
  refine ⟨R, F, env, M, _, XX, t, st, w, fun F1 H1 M1 x v s1 t1 r1 q1 => ?_, kx⟩
  refine ⟨R, F1, env, M1, _, XX, t1, st.sub s1, q1, fun F2 H2 M2 y v2 s2 t2 r2 q2 => ?_, kx.sub s1⟩
  rw [hK]
  exact ⟨R, F2, M2, x, y, _, XX, t2, r1.sub s2, r2, q2, fun F3 H3 M3 c s3 t3 q3 => ⟨c, rfl, k F3 H3 M3 c (s1.trans (s2.trans s3)) t3 q3⟩⟩
theorem chn_rd {o1 o2 : COp} {σ : L2.St} {H : Hp} {Q : VK} (hK : X.K = C.K) (h : TX C (.chn ca o1 cb o2 cc) σ H Q) : tChain (rCmp X.K C.cA o1) (rCmp X.K C.cA o2) (TX C ca) (TX C cb) (TX C cc) σ H Q := by
  obtain ⟨R, F, env, M, QQ, XX, t, st, w, k, kx⟩ := h
  refine ⟨R, F, env, M, _, XX, t, st, w, fun F1 H1 M1 x v s1 t1 r1 q1 => ?_, kx⟩
  refine ⟨R, F1, env, M1, _, XX, t1, st.sub s1, q1, fun F2 H2 M2 y v2 s2 t2 r2 q2 => ?_, kx.sub s1⟩
  rw [hK]
  refine ⟨R, F2, M2, x, y, _, XX, t2, r1.sub s2, r2, q2, fun F3 H3 M3 c s3 t3 q3 => ⟨c, rfl, ?_⟩⟩
  cases c with
  | false => exact k F3 H3 M3 _ _ (s1.trans (s2.trans s3)) t3 (.bl false) q3
  | true =>
    have q3 : wE C.G C.call cc env M3 (fun z M4 => wCmp o2 y z M4 (fun k M5 => QQ (.bl k) M5) XX) XX := q3
    refine ⟨R, F3, env, M3, _, XX, t3, st.sub (s1.trans (s2.trans s3)), q3, fun F4 H4 M4 z v3 s4 t4 r4 q4 => ?_, kx.sub (s1.trans (s2.trans s3))⟩
    exact ⟨R, F4, M4, y, z, _, XX, t4, r2.sub (s3.trans s4), r4, q4, fun F5 H5 M5 c s5 t5 q5 => k F5 H5 M5 _ _ (s1.trans (s2.trans (s3.trans (s4.trans s5)))) t5 (.bl c) q5⟩
theorem g_chn {o1 o2 : COp} (hK : X.K = C.K) (hu : X.A.units + 65 < cLine) (hm : lastMarks [cmpOf o1, cmpOf o2] [b, c] = false) (ha : PE X a (TX C ca)) (hb : PE X b (TX C cb)) (hc : PE X c (TX C cc)) : PE X (.Compare a [cmpOf o1, cmpOf o2] [b, c] pos) (TX C (.chn ca o1 cb o2 cc)) :=
  (pe_chain (cmp_ok (cA := C.cA) o1 hu) (cmp_ok (cA := C.cA) o2 hu) ha hb hc hm).imp fun σ H Q h => chn_rd hK h
/-- what a test reads is a bool -/
theorem ty_tx {ca : CE} {σ : L2.St} {H : Hp} {Q : Bool → Hp → Prop} (h : TY C ca σ H Q) : TX C ca σ H fun x H' => ∃ k, x = .bl k ∧ Q k H' := by
  obtain ⟨R, F, env, M, QQ, XX, t, st, w, k, kx⟩ := h
  refine ⟨R, F, env, M, _, XX, t, st, w, fun F1 H1 M1 x v s1 t1 r1 q1 => ?_, kx⟩
  cases r1 <;> first | exact q1.elim | skip
  exact ⟨_, rfl, k F1 H1 M1 _ s1 t1 q1⟩
theorem t_chn {o1 o2 : COp} (hK : X.K = C.K) (hu : X.A.units + 65 < cLine) (hm : lastMarks [cmpOf o1, cmpOf o2] [b, c] = false) (ha : PE X a (TX C ca)) (hb : PE X b (TX C cb)) (hc : PE X c (TX C cc)) : PT X (.Compare a [cmpOf o1, cmpOf o2] [b, c] pos) (TY C (.chn ca o1 cb o2 cc)) :=
  (pt_chain (cmp_ok (cA := C.cA) o1 hu) (cmp_ok (cA := C.cA) o2 hu) ha hb hc hm).imp fun σ H Q h => chn_rd hK (ty_tx h)
/-- a plain expression as a test -/
theorem t_val (he : ∀ whole, isTrue e X.env whole = (do let v ← whole; standAt e.pos; holding [v] (truthy v))) (h : PE X e (TX C ca)) : PT X e (TY C ca) :=
  (pt_val h he).imp fun σ H Q q => ty_tx q
/-! ### and, or, not, if -/
variable {rest : List Expr}
theorem g_and (ha : PE X a (TX C ca)) (hb : PE X (.BoolOp .And (b :: rest) pos) (TX C cb)) : PE X (.BoolOp .And (a :: b :: rest) pos) (TX C (.and ca cb)) := by
  refine (pe_and ha hb).imp fun σ H Q ⟨R, F, env, M, QQ, XX, t, st, w, k, kx⟩ => ?_
  refine ⟨R, F, env, M, _, XX, t, st, w, fun F1 H1 M1 x v s1 t1 r1 q1 => ?_, kx⟩
  cases r1 <;> first | exact q1.elim | skip
  rename_i c
  refine ⟨c, rfl, ?_⟩
  cases c with
  | false => exact (k.sub s1).at t1 (.bl false) q1
  | true => exact ⟨R, F1, env, M1, QQ, XX, t1, st.sub s1, q1, k.sub s1, kx.sub s1⟩
theorem g_or (ha : PE X a (TX C ca)) (hb : PE X (.BoolOp .Or (b :: rest) pos) (TX C cb)) : PE X (.BoolOp .Or (a :: b :: rest) pos) (TX C (.or ca cb)) := by
  refine (pe_or ha hb).imp fun σ H Q ⟨R, F, env, M, QQ, XX, t, st, w, k, kx⟩ => ?_
  refine ⟨R, F, env, M, _, XX, t, st, w, fun F1 H1 M1 x v s1 t1 r1 q1 => ?_, kx⟩
  cases r1 <;> first | exact q1.elim | skip
  rename_i c
  refine ⟨c, rfl, ?_⟩
  cases c with
  | true => exact (k.sub s1).at t1 (.bl true) q1
  | false => exact ⟨R, F1, env, M1, QQ, XX, t1, st.sub s1, q1, k.sub s1, kx.sub s1⟩
theorem g_not (ha : PE X a (TX C ca)) : PE X (.UnaryOp .Not a pos) (TX C (.not ca)) := by
  refine (pe_not ha).imp fun σ H Q ⟨R, F, env, M, QQ, XX, t, st, w, k, kx⟩ => ?_
  refine ⟨R, F, env, M, _, XX, t, st, w, fun F1 H1 M1 x v s1 t1 r1 q1 => ?_, kx⟩
  cases r1 <;> first | exact q1.elim | skip
  exact ⟨_, rfl, (k.sub s1).at t1 (.bl _) q1⟩
theorem w_and (ha : PT X a (TY C ca)) (hb : PW X (.BoolOp .And (b :: rest) pos) (TY C cb)) : PW X (.BoolOp .And (a :: b :: rest) pos) (TY C (.and ca cb)) := by
  refine (pw_and ha hb).imp fun σ H Q ⟨R, F, env, M, QQ, XX, t, st, w, k, kx⟩ => ?_
  have w : wE C.G C.call ca env M (fun x M1 => match x with | .bl true => wE C.G C.call cb env M1 (fun v M' => match v with | .bl b => QQ b M' | _ => False) XX | .bl false => QQ false M1 | _ => False) XX := w
  refine ⟨R, F, env, M, (fun c M1 => if c = true then wC C.G C.call cb env M1 QQ XX else QQ false M1), XX, t, st, ?_, fun F1 H1 M1 c s1 t1 q1 => ?_, kx⟩
  · have e : (fun (x : PV) (M1 : MM) => match x with | .bl true => wE C.G C.call cb env M1 (fun v M' => match v with | .bl b => QQ b M' | _ => False) XX | .bl false => QQ false M1 | _ => False) =
      (fun v M' => match v with | .bl c => (if c = true then wC C.G C.call cb env M' QQ XX else QQ false M') | _ => False) := by
      funext x M1
      cases x <;> first | rfl | skip
      rename_i c
      cases c <;> rfl
    rw [e] at w
    exact w
  · cases c with
    | false => exact k F1 H1 M1 false s1 t1 q1
    | true => exact ⟨R, F1, env, M1, QQ, XX, t1, st.sub s1, q1, k.sub s1, kx.sub s1⟩
theorem w_or (ha : PT X a (TY C ca)) (hb : PW X (.BoolOp .Or (b :: rest) pos) (TY C cb)) : PW X (.BoolOp .Or (a :: b :: rest) pos) (TY C (.or ca cb)) := by
  refine (pw_or ha hb).imp fun σ H Q ⟨R, F, env, M, QQ, XX, t, st, w, k, kx⟩ => ?_
  have w : wE C.G C.call ca env M (fun x M1 => match x with | .bl false => wE C.G C.call cb env M1 (fun v M' => match v with | .bl b => QQ b M' | _ => False) XX | .bl true => QQ true M1 | _ => False) XX := w
  refine ⟨R, F, env, M, (fun c M1 => if c = true then QQ true M1 else wC C.G C.call cb env M1 QQ XX), XX, t, st, ?_, fun F1 H1 M1 c s1 t1 q1 => ?_, kx⟩
  · have e : (fun (x : PV) (M1 : MM) => match x with | .bl false => wE C.G C.call cb env M1 (fun v M' => match v with | .bl b => QQ b M' | _ => False) XX | .bl true => QQ true M1 | _ => False) =
      (fun v M' => match v with | .bl c => (if c = true then QQ true M' else wC C.G C.call cb env M' QQ XX) | _ => False) := by
      funext x M1
      cases x <;> first | rfl | skip
      rename_i c
      cases c <;> rfl
    rw [e] at w
    exact w
  · cases c with
    | true => exact k F1 H1 M1 true s1 t1 q1
    | false => exact ⟨R, F1, env, M1, QQ, XX, t1, st.sub s1, q1, k.sub s1, kx.sub s1⟩
theorem t_not (ha : PT X a (TY C ca)) : PT X (.UnaryOp .Not a pos) (TY C (.not ca)) := by
  refine (pt_not ha).imp fun σ H Q ⟨R, F, env, M, QQ, XX, t, st, w, k, kx⟩ => ?_
  have w : wE C.G C.call ca env M (fun x M1 => match x with | .bl b => QQ (!b) M1 | _ => False) XX := by
    have w' : wE C.G C.call ca env M (fun x M1 => match x with | .bl b => (match PV.bl (!b) with | .bl c => QQ c M1 | _ => False) | _ => False) XX := w
    exact w'
  exact ⟨R, F, env, M, (fun c M1 => QQ (!c) M1), XX, t, st, w, fun F1 H1 M1 c s1 t1 q1 => k F1 H1 M1 _ s1 t1 q1, kx⟩
/-- a test read as one -/
theorem tx_ty {ca : CE} {R F : Hp} {σ : L2.St} {H : Hp} {env : Env} {M : MM} {B : Bool → MM → Prop} {XX : XK} {Q : Bool → Hp → Prop} (t : Sto C.K C.cA R F H M) (st : StS C R F σ env)
    (w : wE C.G C.call ca env M (fun x M1 => match x with | .bl k => B k M1 | _ => False) XX) (k : KontT C R F B Q) (kx : KontX C R F σ XX) : TY C ca σ H Q := ⟨R, F, env, M, B, XX, t, st, w, k, kx⟩
theorem g_ife (hc : PT X c (TY C cc)) (ha : PE X a (TX C ca)) (hb : PE X b (TX C cb)) : PE X (.IfExp c a b pos) (TX C (.ife cc ca cb)) := by
  refine (pe_ifExp hc ha hb).imp fun σ H Q ⟨R, F, env, M, QQ, XX, t, st, w, k, kx⟩ => ?_
  refine tx_ty (B := fun d M1 => if d = true then wE C.G C.call ca env M1 QQ XX else wE C.G C.call cb env M1 QQ XX) t st w (fun F1 H1 M1 d s1 t1 q1 => ?_) kx
  cases d with
  | true => exact ⟨R, F1, env, M1, QQ, XX, t1, st.sub s1, q1, k.sub s1, kx.sub s1⟩
  | false => exact ⟨R, F1, env, M1, QQ, XX, t1, st.sub s1, q1, k.sub s1, kx.sub s1⟩
theorem t_ife (hc : PT X c (TY C cc)) (ha : PT X a (TY C ca)) (hb : PT X b (TY C cb)) : PT X (.IfExp c a b pos) (TY C (.ife cc ca cb)) := by
  refine ⟨fun pins s σ H Q I ⟨R, F, env, M, QQ, XX, t, st, w, k, kx⟩ => ?_⟩
  have h : TY C cc σ H fun d H1 => if d = true then TY C ca σ H1 Q else TY C cb σ H1 Q := by
    refine tx_ty (B := fun d M1 => if d = true then wC C.G C.call ca env M1 QQ XX else wC C.G C.call cb env M1 QQ XX) t st w (fun F1 H1 M1 d s1 t1 q1 => ?_) kx
    cases d with
    | true => exact ⟨R, F1, env, M1, QQ, XX, t1, st.sub s1, q1, k.sub s1, kx.sub s1⟩
    | false => exact ⟨R, F1, env, M1, QQ, XX, t1, st.sub s1, q1, k.sub s1, kx.sub s1⟩
  show wpAny _ _ (do if ← isTrue c X.env (eval c X.env) then isTrue a X.env (eval a X.env) else isTrue b X.env (eval b X.env)) _ _ s
  refine wpAny_bind (thn (hc.run pins s σ H _ I h) fun d s1 ⟨H1, I1, q1⟩ => ?_)
  cases d with
  | true => exact ha.run pins s1 σ H1 Q I1 q1
  | false => exact hb.run pins s1 σ H1 Q I1 q1
/-! ### subscripts, slices, built-ins -/
theorem g_sub (hK : X.K = C.K) (hs : PlainIx b) (ha : PE X a (TX C ca)) (hb : PE X b (TX C cb)) : PE X (.Subscript a b pos) (TX C (.sub ca cb)) := by
  refine (pe_ix (sub_ok (cA := C.cA)) ha hb hs).imp fun σ H Q ⟨R, F, env, M, QQ, XX, t, st, w, k, kx⟩ => ?_
  refine ⟨R, F, env, M, _, XX, t, st, w, fun F1 H1 M1 x v s1 t1 r1 q1 => ?_, kx⟩
  refine ⟨R, F1, env, M1, _, XX, t1, st.sub s1, q1, fun F2 H2 M2 y v2 s2 t2 r2 q2 => ?_, kx.sub s1⟩
  rw [hK]
  exact ⟨R, F2, M2, x, y, QQ, XX, t2, r1.sub s2, r2, q2, k.sub (s1.trans s2)⟩
/-- a part of a slice, in both worlds -/
def PartOk (X : Cx) (C : Co) (o : Option Expr) (c : CE) : Prop := match o with
  | none => c = .non
  | some e => isNon c = false ∧ PE X e (TX C c)
/-- a part's reading by Core -/
def TP' (C : Co) (c : CE) : L2.St → Hp → (Option Int → Hp → Prop) → Prop := fun σ H Q => ∃ (R F : Hp) (env : Env) (M : MM) (QQ : Option Int → MM → Prop) (XX : XK), Sto C.K C.cA R F H M ∧ StS C R F σ env ∧ wE C.G C.call c env M (fun l M2 => match bound? (isNon c) l with | some l' => QQ l' M2 | none => False) XX ∧
  (∀ (F' H' : Hp) (M' : MM) (l : Option Int), Sub F F' → Sto C.K C.cA R F' H' M' → QQ l M' → Q l H') ∧ KontX C R F σ XX
theorem po_part {o : Option Expr} {cl : CE} (h : PartOk X C o cl) : PO X o (TP' C cl) := by
  cases o with
  | none =>
    obtain rfl : cl = .non := h
    refine ⟨fun pins s σ H Q I ⟨R, F, env, M, QQ, XX, t, st, w, k, kx⟩ => ?_⟩
    exact po_none.run pins s σ H Q I (k F H M none (Sub.refl F) t w)
  | some e =>
    obtain ⟨n, h⟩ := h
    refine ⟨fun pins s σ H Q I ⟨R, F, env, M, QQ, XX, t, st, w, k, kx⟩ => ?_⟩
    refine (po_some h).run pins s σ H Q I ⟨R, F, env, M, _, XX, t, st, w, fun F1 H1 M1 x v s1 t1 r1 q1 => ?_, kx⟩
    rw [n] at q1
    cases r1 <;> first | exact q1.elim | skip
    exact ⟨_, rfl, k F1 H1 M1 _ s1 t1 q1⟩
theorem g_sli {lo hi : Option Expr} {cl ch : CE} {p2 : Pos} (hK : X.K = C.K) (ha : PE X a (TX C ca)) (hl : PartOk X C lo cl) (hh : PartOk X C hi ch) : PE X (.Subscript a (.Slice lo hi none p2) pos) (TX C (.sli ca cl ch)) := by
  refine (pe_slice (sli_ok (cA := C.cA)) ha (po_part hl) (po_part hh)).imp fun σ H Q ⟨R, F, env, M, QQ, XX, t, st, w, k, kx⟩ => ?_
  refine ⟨R, F, env, M, _, XX, t, st, w, fun F1 H1 M1 x v s1 t1 r1 q1 => ?_, kx⟩
  refine ⟨R, F1, env, M1, fun l' M2 => wE C.G C.call ch env M2 (fun h M3 => match bound? (isNon ch) h with | some h' => wSli x l' h' M3 QQ XX | none => False) XX, XX, t1, st.sub s1, q1, fun F2 H2 M2 l s2 t2 q2 => ?_, kx.sub s1⟩
  refine ⟨R, F2, env, M2, fun h' M3 => wSli x l h' M3 QQ XX, XX, t2, st.sub (s1.trans s2), q2, fun F3 H3 M3 h s3 t3 q3 => ?_, kx.sub (s1.trans s2)⟩
  rw [hK]
  exact ⟨R, F3, M3, x, QQ, XX, t3, r1.sub (s2.trans s3), q3, k.sub (s1.trans (s2.trans s3))⟩
/-- a call of a built-in function -/
theorem g_bi {b : Bi} {as : CAs} {x : Str} {p : Pos} {es : List Expr} (hK : X.K = C.K) (hc : X.calm = true) (hx : x = Str.ofString (match b with | .len => "len" | .sum => "sum" | .int => "int" | .abs => "abs" | .min => "min" | .max => "max" | .tuple => "tuple" | .all => "all" | .any => "any" | .divmod => "divmod" | .str => "str"))
    (hg : L2.Gl X x) (hm : X.mg x = none) (hs : ∀ z p, e ≠ .Starred z p) (hpl : ∀ env, (backTo pos (starEach es env)).any (·.1) = false) (ha : PA X (e :: es) (TL C as)) : PE X (.Call (.Name x p) (e :: es) [] pos) (TX C (.bi b as)) := by
  have fin : ∀ σ H Q, TX C (.bi b as) σ H Q → tCB (rBi X.K C.cA b) (TL C as) σ H Q := fun σ H Q ⟨R, F, env, M, QQ, XX, t, st, w, k, kx⟩ => by
    refine ⟨R, F, env, M, _, XX, t, st, w, fun F1 H1 M1 xs vs s1 t1 r1 q1 => ?_, kx⟩
    rw [hK]
    exact ⟨R, F1, M1, xs, QQ, XX, t1, r1, q1, k.sub s1⟩
  subst hx
  have hb := bi_ok (X := X) (cA := C.cA) b hc
  cases b
  case len => exact (pe_callB hb hg hm (by decide +kernel) ha (by decide) (by decide) (star_false hs _) (hpl _)).imp fin
  case sum => exact (pe_callB hb hg hm (by decide +kernel) ha (by decide) (by decide) (star_false hs _) (hpl _)).imp fin
  case abs => exact (pe_callB hb hg hm (by decide +kernel) ha (by decide) (by decide) (star_false hs _) (hpl _)).imp fin
  case min => exact (pe_callB hb hg hm (by decide +kernel) ha (by decide) (by decide) (star_false hs _) (hpl _)).imp fin
  case max => exact (pe_callB hb hg hm (by decide +kernel) ha (by decide) (by decide) (star_false hs _) (hpl _)).imp fin
  case all => exact (pe_callB hb hg hm (by decide +kernel) ha (by decide) (by decide) (star_false hs _) (hpl _)).imp fin
  case any => exact (pe_callB hb hg hm (by decide +kernel) ha (by decide) (by decide) (star_false hs _) (hpl _)).imp fin
  case divmod => exact (pe_callB hb hg hm (by decide +kernel) ha (by decide) (by decide) (star_false hs _) (hpl _)).imp fin
  case int => exact (pe_callTy hb hg hm (by decide +kernel) ha (by decide) (by decide) (star_false hs _) (hpl _)).imp fin
  case tuple => exact (pe_callTy hb hg hm (by decide +kernel) ha (by decide) (by decide) (star_false hs _) (hpl _)).imp fin
  case str => exact (pe_callTy hb hg hm (by decide +kernel) ha (by decide) (by decide) (star_false hs _) (hpl _)).imp fin
end
end IB
end

section
set_option Elab.async false
set_option linter.all false
set_option maxRecDepth 100000
set_option maxHeartbeats 4000000
/-! S5: targets, and what is walked. -/
namespace IB
open PySem PySem.Spec PyProof.Rows L2
/-! ### enumerate over a tuple -/
section
variable {prog : Program} {w : World} {A : Around} {E : Value → Shared → Prop} {s : Shared}
theorem newEnumT (tp : Addr) (vals : Array Value) : Meets (Builtin.«enumerate.__new__» ⟨[.type "enumerate", .ref tp], []⟩) (fun _ R s => s.heap.IsTuple tp vals ∧
      R (.ok (.ret (.ref (s.heap.objs.size + 1)))) { s with heap := (s.heap.push { cls := .type "tuple_iterator", data := .fields #[.ref tp, .int 0 0] }).push { cls := .type "enumerate", data := .fields #[.none, .bool false, .ref s.heap.objs.size, rawInt 0, .none, .none] } }) :=
  .of_wp fun prog w A R s h => by
    obtain ⟨hp, gg, dd, tk, oo⟩ := s
    obtain ⟨ht, h⟩ := h
    have hsub := sub_enumerate
    have zz : (hp.push { cls := .type "tuple_iterator", data := .fields #[.ref tp, .int 0 0] }).objs.size = hp.objs.size + 1 := Heap.size_push ..
    have step : ∀ {A' : Around} {E : Value → Shared → Prop} {Q : Value → Shared → Prop}, Q (.ref hp.objs.size) ⟨hp.push { cls := .type "tuple_iterator", data := .fields #[.ref tp, .int 0 0] }, gg, dd, tk, oo⟩ → wpAny (model prog w) A' (pyIter (.ref tp)) Q E ⟨hp, gg, dd, tk, oo⟩ :=
      fun q => wpAny_pyIter_tuple ht q
    wp_walk
    refine wpAny_stack_any fun st => wpAny_pure ?_
    rw [← zz] at h
    split
    · rename_i c _ _ _ _ _
      cases (c == Value.type "enumerate")
      · wp_walk using step
        exact ⟨_, rfl, h⟩
      · wp_walk using step
        exact ⟨_, rfl, h⟩
    · wp_walk using step
      exact ⟨_, rfl, h⟩
theorem callEnumT {tp : Addr} {vals : Array Value} {Q : Value → Shared → Prop} (ht : s.heap.IsTuple tp vals)
    (h : ∀ h', IsEnum h' (s.heap.objs.size + 1) s.heap.objs.size 0 .none → h'.IsTupleIter s.heap.objs.size tp 0 → (∀ b o, s.heap.get? b = some o → h'.get? b = some o) → Q (.ref (s.heap.objs.size + 1)) { s with heap := h' }) :
    wpAny (model prog w) A (call (.type "enumerate") [.ref tp]) Q E s := by
  refine callType_new F.called_enumerate (by decide) (F.typeCall_enumerate_1 _) (F.newCall_enumerate_1 _) (fun obj => F.args_object_init_2 obj _) F.entry_enumerate_new (newEnumT tp vals) ⟨ht, ?_⟩
  have zz : (s.heap.push { cls := .type "tuple_iterator", data := .fields #[.ref tp, .int 0 0] }).objs.size = s.heap.objs.size + 1 := Heap.size_push ..
  have en := Heap.get?_push_size (s.heap.push { cls := .type "tuple_iterator", data := .fields #[.ref tp, .int 0 0] }) (o := { cls := .type "enumerate", data := .fields #[.none, .bool false, .ref s.heap.objs.size, rawInt 0, .none, .none] }) rfl
  rw [zz] at en
  exact ⟨⟨_, en, rfl⟩, h _ en ⟨_, Heap.get?_push_of_some _ (Heap.get?_push_size _ rfl), rfl, rfl⟩ fun b o x => Heap.get?_push_of_some _ (Heap.get?_push_of_some _ x)⟩
end
/-- the tuple at a, each item in a new pair -/
def IteT (K : Frag) (a : Addr) : It :=
  ⟨fun i H => ∃ (xs : List V) (x : V), SqT K H a xs ∧ xs[i]? = some x, fun i H v H' => ∃ T x, v = .ref T ∧ H T = none ∧ H' = L2.upd H T (.tup [.int (i : Nat), x]) ∧ ∀ xs, SqT K H a xs → xs[i]? = some x, fun i H => ∃ xs : List V, SqT K H a xs ∧ xs.length ≤ i⟩
theorem turn_enumT {P : Program} {w : World} {K : Frag} {elts : List Expr} {kk : Nat} {tpos : Pos} (a e it : Addr) :
    Turn P w K (.Tuple elts kk tpos) (IteT K a) [e, it] e (fun i h => (∃ old, IsEnum h e it ((i : Nat) : Int) old) ∧ h.IsTupleIter it a i ∧ e ≠ it) where
  mem := by simp
  obj := fun i h st b hb => by
    obtain ⟨⟨old, he⟩, ⟨o, ho, hc, hd⟩, _⟩ := st
    have cs : b = e ∨ b = it := by simpa using hb
    rcases cs with z | z
    · refine ⟨_, by rw [z]; exact he, fun v q => ?_⟩
      have q : Data.fields _ = Data.cell v := q
      cases q
    · exact ⟨o, by rw [z]; exact ho, fun v q => by rw [hd] at q; cases q⟩
  keep := fun i h h' st k => by
    obtain ⟨⟨old, he⟩, hi, hne⟩ := st
    exact ⟨⟨old, k e (by simp) _ he⟩, hi.at fun o q => k it (by simp) o q, hne⟩
  item := by
    intro X hP hw hK hc i pins s σ H E I hf st hg
    subst hP hw hK
    obtain ⟨⟨old, he⟩, hit, hne⟩ := st
    obtain ⟨xs, x, hq, hx⟩ := hg
    obtain ⟨its, rv, p, hz⟩ := I.tuple hq
    obtain ⟨u, hu, ru⟩ := rv.get hx
    have hel : e < s.heap.objs.size := Heap.lt_size he
    have hil : it < s.heap.objs.size := by obtain ⟨_, q, _⟩ := hit; exact Heap.lt_size q
    have hae : a ≠ e := fun z => by
      obtain ⟨o, ho, hcl, _⟩ := p
      rw [z, he] at ho; cases ho; exact absurd hcl (by simp)
    have hai : a ≠ it := fun z => by
      obtain ⟨o, ho, hcl, _⟩ := p
      obtain ⟨o', ho', hcl', _⟩ := hit
      rw [z, ho'] at ho; cases ho; rw [hcl'] at hcl; exact absurd hcl (by simp)
    have hsz : i < its.toArray.size := by
      have := (List.getElem?_eq_some_iff.mp hu).1
      simpa using this
    have D := Draws.tuple (prog := X.prog) (w := X.w) (A := X.A.in1) (I.ok.hd hc) it a hai its.toArray
    refine wpAny_pyNext_enum_itemD D he ⟨hit, p⟩ hsz hne (by simp [hne, Ne.symm hae]) fun y h' tk hP ho hst hT _ hk => ?_
    have ey : y = u := by
      have h1 : its.toArray[i]? = some u := by simpa using hu
      exact Option.some.inj (hP.symm.trans h1)
    subst ey
    refine ⟨_, rfl, wpAny_letOwnedTupleGo_enum (s := { s with heap := h', toks := tk + 1 }) ho fun h'' he' sb => ?_⟩
    have hT2 : h''.get? s.heap.objs.size = some { cls := .type "tuple", data := .seq #[.int i tk, y] } := (sb.2 _ (Nat.ne_of_gt hel)).trans hT
    have new : ObjOk X.prog X.w (L2.upd H s.heap.objs.size (.tup [.int (i : Nat), x])) h'' s.heap.objs.size (.tup [.int (i : Nat), x]) :=
      ⟨by show 2 ≤ sizeLine; decide, [.int i tk, y], .cons ⟨_, rfl⟩ (.cons ru .nil), ⟨_, hT2, rfl, _, rfl⟩⟩
    have I1 : Inv X pins σ (L2.upd H s.heap.objs.size (.tup [.int (i : Nat), x])) { s with heap := h'', toks := tk + 1 } :=
      I.turnedNew (ch := [e, it]) (fun b ob hb q => (sb.2 b (fun z => hb (by simp [z]))).trans (hk b ob (fun z => hb (by simp [z])) (fun z => hb (by simp [z])) q)) hf (Nat.le_refl _) new
    refine ⟨.ref s.heap.objs.size, _, I1, rfl, ⟨_, x, rfl, I.hok.fresh (Nat.le_refl _), rfl, fun ys hy => by rw [I.tuple_inj hy hq]; exact hx⟩, ⟨⟨y, ?_⟩, hst.1.at fun o q => (sb.2 it (Ne.symm hne)).trans q, hne⟩, fun b hb => ?_⟩
    · have e1 : ((i + 1 : Nat) : Int) = (i : Int) + 1 := by omega
      rw [e1]
      exact he'
    · have cs : b = e ∨ b = it := by simpa using hb
      have lt : b < s.heap.objs.size := by rcases cs with z | z <;> rw [z] <;> assumption
      rw [upd_ne (Nat.ne_of_lt lt)]
      exact (hf b hb).1
  done := by
    intro X hP hw hK hc i pins s σ H E I hf st hg
    subst hP hw hK
    obtain ⟨⟨old, he⟩, hit, hne⟩ := st
    obtain ⟨xs, hq, hx⟩ := hg
    obtain ⟨its, rv, p, hz⟩ := I.tuple hq
    obtain ⟨f0, f1, f2, f3, f4, f5⟩ := hf it (by simp)
    have hl := rv.length
    have hT : s.TypeIs (.ref e) "enumerate" := ⟨_, he, rfl⟩
    unfold pyNext
    refine wpAny_bind (wpAny_attempt (wpAny_callSpecial?_slot (name := Str.ofString "__next__") hT F.slot_enumerate_next (wpAny_call_entry F.slot_enumerate_next hT F.entry_enumerate_next ?_ (F.args_enumerate_next_1 _))))
    show wpAny _ _ (field (.ref e) 2 >>= _) _ _ _
    refine wpAny_bind (wpAny_field he rfl (x := .ref it) rfl ?_)
    refine wpAny_bind (wpAny_nextOf_tuple_end (I.ok.hd hc) hit p (by simp; omega) fun h' x he' hx' => ?_)
    obtain ⟨o, ho, hcc⟩ := hx'
    refine wpAny_bind (wpAny_isInstance (T := "StopIteration") (b := true) ⟨o, ho, hcc⟩ isSubtype_stop ?_)
    exact wpAny_pure ⟨rfl, I.turned (t' := s.toks) (fun b o hb q => he' b o hb q) f0 f1 f3 f4 f5⟩
  self := fun A i s Q E st h => by
    obtain ⟨⟨_, he⟩, _⟩ := st
    exact wpAny_pyIter_enum he h
/-! ### a list or a tuple walked; enumerate over one -/
def iSeq (K : Frag) (te : TE) : TI := fun σ H R => te σ H fun x H1 => ∃ a, x = .ref a ∧ (((∃ xs, SqL K H1 a xs) ∧ R (Itl K a) H1) ∨ ((∃ xs, SqT K H1 a xs) ∧ R (Itt K a) H1))
def iEnu (K : Frag) (ta : TA) : TI := fun σ H R => ta σ H fun vs H1 => ∃ a, vs = [.ref a] ∧ (((∃ xs, SqL K H1 a xs) ∧ R (Ite K a) H1) ∨ ((∃ xs, SqT K H1 a xs) ∧ R (IteT K a) H1))
section
variable {X : Cx} {e : Expr} {te : TE} {tg : Expr}
theorem fresh1 {pins : List (Addr × Obj)} {σ : L2.St} {H : Hp} {s : Shared} (I : Inv X pins σ H s) : ∀ b ∈ [s.heap.objs.size], FpOk X pins H b := fun b hb => by
  obtain rfl : b = s.heap.objs.size := by simpa using hb
  exact I.fpOk (Nat.le_refl _) (I.hok.fresh (Nat.le_refl _))
theorem pi_seq (h : PE X e te) : PI X tg e (iSeq X.K te) := by
  refine ⟨fun pins s σ H R I hw => thn (h.run pins s σ H _ I hw) fun v s1 ⟨x, H1, I1, r1, a, ex, q⟩ => ?_⟩
  subst ex
  cases r1
  rcases q with ⟨⟨xs, hq⟩, q⟩ | ⟨⟨xs, hq⟩, q⟩
  · obtain ⟨its, rv, p, hz⟩ := I1.list hq
    exact wpAny_pyIter_list p.isList ⟨s1.heap.objs.size, [s1.heap.objs.size], _, _, H1, rfl, I1.kept (t' := s1.toks) fun b o e => Heap.get?_push_of_some _ e, turn_list a _, ⟨_, Heap.get?_push_size _ rfl, rfl, rfl⟩, fresh1 I1, q⟩
  · obtain ⟨its, rv, p, hz⟩ := I1.tuple hq
    exact wpAny_pyIter_tuple (show s1.heap.IsTuple a its.toArray from p) ⟨s1.heap.objs.size, [s1.heap.objs.size], _, _, H1, rfl, I1.kept (t' := s1.toks) fun b o e => Heap.get?_push_of_some _ e, turn_tuple a _, ⟨_, Heap.get?_push_size _ rfl, rfl, rfl⟩, fresh1 I1, q⟩
theorem fresh2 {pins : List (Addr × Obj)} {σ : L2.St} {H : Hp} {s : Shared} (I : Inv X pins σ H s) : ∀ b ∈ [s.heap.objs.size + 1, s.heap.objs.size], FpOk X pins H b := fun b hb => by
  have hle : s.heap.objs.size ≤ b := by
    have cs : b = s.heap.objs.size + 1 ∨ b = s.heap.objs.size := by simpa using hb
    omega
  exact I.fpOk hle (I.hok.fresh hle)
theorem pi_enu {ta : TA} {elts : List Expr} {kk : Nat} {tpos p pos : Pos} (hg : L2.Gl X "enumerate") (hm : X.mg "enumerate" = none) (hs : ∀ z p, e ≠ .Starred z p) (h : PA X [e] ta) : PI X (.Tuple elts kk tpos) (.Call (.Name "enumerate" p) [e] [] pos) (iEnu X.K ta) := by
  have hse : starEach [e] X.env = [(false, eval e X.env)] := star_false hs X.env
  refine ⟨fun pins s σ H R I hw => ?_⟩
  refine Call_ (ld_blt I hg hm boot_enumerate (PyProof.Rows.callWith_type1 (thn (h.run pos pins s σ H _ I hw) fun us s1 ⟨vs, H1, I1, r1, a, ex, q⟩ => ?_) hse rfl))
  subst ex
  obtain ⟨u, rfl, ru⟩ := r1.one
  cases ru
  rcases q with ⟨⟨xs, hq⟩, q⟩ | ⟨⟨xs, hq⟩, q⟩
  · obtain ⟨its, rv, p', hz⟩ := I1.list hq
    refine call_enumerate_list p'.isList fun h' he hit hsz hk => wpAny_pyIter_enum he ?_
    exact ⟨s1.heap.objs.size + 1, [s1.heap.objs.size + 1, s1.heap.objs.size], _, _, H1, rfl, I1.kept (t' := s1.toks) hk, turn_enum a _ _, ⟨⟨.none, he⟩, hit, Nat.succ_ne_self _⟩, fresh2 I1, q⟩
  · obtain ⟨its, rv, p', hz⟩ := I1.tuple hq
    refine callEnumT (show s1.heap.IsTuple a its.toArray from p') fun h' he hit hk => wpAny_pyIter_enum he ?_
    exact ⟨s1.heap.objs.size + 1, [s1.heap.objs.size + 1, s1.heap.objs.size], _, _, H1, rfl, I1.kept (t' := s1.toks) hk, turn_enumT a _ _, ⟨⟨.none, he⟩, hit, Nat.succ_ne_self _⟩, fresh2 I1, q⟩
/-! ### readings by Core -/
variable {C : Co}
/-- an iterator that hands out these items -/
structure ItOk (C : Co) (F : Hp) (xs : List PV) (g : MM → Prop) (J : It) : Prop where
  go : ∀ R i F1 H1 M1, i < xs.length → Sub F F1 → Sto C.K C.cA R F1 H1 M1 → g M1 → J.go i H1
  yld : ∀ R i F1 H1 M1 v H2, i < xs.length → Sub F F1 → Sto C.K C.cA R F1 H1 M1 → g M1 → J.yld i H1 v H2 → ∃ F2 x, Sub F1 F2 ∧ Sto C.K C.cA R F2 H2 M1 ∧ xs[i]? = some x ∧ RepV C.K F2 x v
  stop : ∀ R i F1 H1 M1, xs.length ≤ i → Sub F F1 → Sto C.K C.cA R F1 H1 M1 → g M1 → J.stop i H1
def TI' (C : Co) (it : CI) : TI := fun σ H Y => ∃ (R F : Hp) (env : Env) (M : MM) (QQ : List PV → (MM → Prop) → MM → Prop) (XX : XK), Sto C.K C.cA R F H M ∧ StS C R F σ env ∧ wI C.G C.call it env M QQ XX ∧
  (∀ (F' H' : Hp) (M' : MM) (xs : List PV) (g : MM → Prop) (J : It), Sub F F' → Sto C.K C.cA R F' H' M' → ItOk C F' xs g J → QQ xs g M' → Y J H') ∧ KontX C R F σ XX
theorem itl_ok {F H : Hp} {M : MM} {a : Addr} {xs : List PV} {vs : List V} {g : MM → Prop} (rs : RepVs C.K F xs vs) (h : ∀ R F1 H1 M1, Sub F F1 → Sto C.K C.cA R F1 H1 M1 → g M1 → ∃ ws, H1 a = some (.lst ws) ∧ RepVs C.K F1 xs ws) : ItOk C F xs g (Itl C.K a) where
  go := fun R i F1 H1 M1 hi s t gg => by
    obtain ⟨ws, hw, rw'⟩ := h R F1 H1 M1 s t gg
    obtain ⟨v, hv, rv⟩ := rw'.get (List.getElem?_eq_getElem hi)
    exact ⟨ws, v, .of hw, hv⟩
  yld := fun R i F1 H1 M1 v H2 hi s t gg y => by
    obtain ⟨rfl, y⟩ := y
    obtain ⟨ws, hw, rw'⟩ := h R F1 _ M1 s t gg
    obtain ⟨v', hv, rv⟩ := rw'.get (List.getElem?_eq_getElem hi)
    have e := y ws (.of hw)
    rw [hv] at e
    cases e
    exact ⟨F1, _, Sub.refl F1, t, List.getElem?_eq_getElem hi, rv⟩
  stop := fun R i F1 H1 M1 hi s t gg => by
    obtain ⟨ws, hw, rw'⟩ := h R F1 H1 M1 s t gg
    exact ⟨ws, .of hw, by rw [← rw'.length]; exact hi⟩
theorem itt_ok {F : Hp} {a : Addr} {xs : List PV} {vs : List V} {g : MM → Prop} (rs : RepVs C.K F xs vs) (h : SqT C.K F a vs) : ItOk C F xs g (Itt C.K a) where
  go := fun R i F1 H1 M1 hi s t gg => by
    obtain ⟨v, hv, rv⟩ := rs.get (List.getElem?_eq_getElem hi)
    exact ⟨vs, v, sqT_sub (s.trans t.sub) h, hv⟩
  yld := fun R i F1 H1 M1 v H2 hi s t gg y => by
    obtain ⟨rfl, y⟩ := y
    obtain ⟨v', hv, rv⟩ := rs.get (List.getElem?_eq_getElem hi)
    have e := y vs (sqT_sub (s.trans t.sub) h)
    rw [hv] at e
    cases e
    exact ⟨F1, _, Sub.refl F1, t, List.getElem?_eq_getElem hi, rv.sub s⟩
  stop := fun R i F1 H1 M1 hi s t gg => ⟨vs, sqT_sub (s.trans t.sub) h, by rw [← rs.length]; exact hi⟩
/-- what a list or a tuple is, to be walked -/
theorem seq_cases {R F H : Hp} {M : MM} {x : PV} {v : V} {QQ : List PV → (MM → Prop) → MM → Prop} {f : List PV → List PV} (t : Sto C.K C.cA R F H M) (r : RepV C.K F x v)
    (w : seqQ f x M QQ) :
    ∃ a xs vs g, v = .ref a ∧ QQ (f xs) g M ∧ RepVs C.K F xs vs ∧ ((SqT C.K F a vs) ∨ (H a = some (.lst vs) ∧ ∀ R F1 H1 M1, Sub F F1 → Sto C.K C.cA R F1 H1 M1 → g M1 → ∃ ws, H1 a = some (.lst ws) ∧ RepVs C.K F1 xs ws)) := by
  unfold seqQ at w
  cases r <;> first | exact w.elim | skip
  · rename_i a
    have w : (match M a with | some (.lst xs) => QQ (f xs) (fun M' => M' a = some (.lst xs)) M | _ => False) := w
    cases e : M a with
    | none => rw [e] at w; exact w.elim
    | some o =>
      rw [e] at w
      obtain ⟨_, q⟩ := t.mem a o e
      cases q with
      | lst h rs =>
        refine ⟨_, _, _, _, rfl, w, rs, .inr ⟨h, fun R F1 H1 M1 s t1 gg => ?_⟩⟩
        obtain ⟨_, q1⟩ := t1.mem a _ gg
        cases q1 with
        | lst h1 r1 => exact ⟨_, h1, r1⟩
      | ins c h rs => exact w.elim
  · rename_i h rs
    exact ⟨_, _, _, _, rfl, w, rs, .inl h⟩
  · rename_i a xs vs h rs
    exact ⟨_, _, _, _, rfl, w, rs, .inr ⟨t.sub _ _ h, fun R F1 H1 M1 s t1 gg => ⟨vs, t1.sub _ _ (s _ _ h), rs.sub s⟩⟩⟩
variable {ca : CE}
theorem i_seq (hK : X.K = C.K) (h : PE X e (TX C ca)) : PI X tg e (TI' C (.seq ca)) := by
  refine ⟨fun pins s σ H Y I ⟨R, F, env, M, QQ, XX, t, st, w, k, kx⟩ => ?_⟩
  refine (pi_seq h).run pins s σ H Y I ⟨R, F, env, M, _, XX, t, st, w, fun F1 H1 M1 x v s1 t1 r1 q1 => ?_, kx⟩
  obtain ⟨a, xs, vs, g, rfl, q, rs, cs⟩ := seq_cases (f := id) t1 r1 q1
  rw [hK]
  refine ⟨a, rfl, ?_⟩
  rcases cs with cs | ⟨c1, c2⟩
  · exact .inr ⟨⟨vs, sqT_sub t1.sub cs⟩, k F1 H1 M1 xs g _ s1 t1 (itt_ok rs cs) q⟩
  · exact .inl ⟨⟨vs, .of c1⟩, k F1 H1 M1 xs g _ s1 t1 (itl_ok (H := H1) (M := M1) rs c2) q⟩
theorem pairUp_get {xs : List PV} {i : Nat} (hi : i < xs.length) : (pairUp xs)[i]? = some (.tup [.int i, xs[i]]) := by
  unfold pairUp
  rw [List.getElem?_map, List.getElem?_zipIdx, List.getElem?_eq_getElem hi]
  simp
theorem pairUp_len (xs : List PV) : (pairUp xs).length = xs.length := by
  unfold pairUp
  rw [List.length_map, List.length_zipIdx]
theorem pair_new {R F1 H1 : Hp} {M1 : MM} {T : Addr} {i : Nat} {z : PV} {v : V} (t : Sto C.K C.cA R F1 H1 M1) (n : H1 T = none) (r : RepV C.K F1 z v) :
    ∃ F2, Sub F1 F2 ∧ Sto C.K C.cA R F2 (L2.upd H1 T (.tup [.int (i : Nat), v])) M1 ∧ RepV C.K F2 (.tup [.int (i : Nat), z]) (.ref T) :=
  ⟨_, sub_upd (t.fr n).1, t.new n, .tup (.of upd_same) (.cons (.int _) (.cons (r.sub (sub_upd (t.fr n).1)) .nil))⟩
theorem ite_ok {F H : Hp} {M : MM} {a : Addr} {xs : List PV} {vs : List V} {g : MM → Prop} (rs : RepVs C.K F xs vs) (h : ∀ R F1 H1 M1, Sub F F1 → Sto C.K C.cA R F1 H1 M1 → g M1 → ∃ ws, H1 a = some (.lst ws) ∧ RepVs C.K F1 xs ws) : ItOk C F (pairUp xs) g (Ite C.K a) where
  go := fun R i F1 H1 M1 hi s t gg => by
    rw [pairUp_len] at hi
    obtain ⟨ws, hw, rw'⟩ := h R F1 H1 M1 s t gg
    obtain ⟨v, hv, rv⟩ := rw'.get (List.getElem?_eq_getElem hi)
    exact ⟨ws, v, .of hw, hv⟩
  yld := fun R i F1 H1 M1 v H2 hi s t gg y => by
    rw [pairUp_len] at hi
    obtain ⟨T, x, rfl, nT, rfl, y⟩ := y
    obtain ⟨ws, hw, rw'⟩ := h R F1 _ M1 s t gg
    obtain ⟨v', hv, rv⟩ := rw'.get (List.getElem?_eq_getElem hi)
    have e := y ws (.of hw)
    rw [hv] at e
    cases e
    obtain ⟨F2, e1, e2, e3⟩ := pair_new (i := i) t nT rv
    exact ⟨F2, _, e1, e2, pairUp_get hi, e3⟩
  stop := fun R i F1 H1 M1 hi s t gg => by
    rw [pairUp_len] at hi
    obtain ⟨ws, hw, rw'⟩ := h R F1 H1 M1 s t gg
    exact ⟨ws, .of hw, by rw [← rw'.length]; exact hi⟩
theorem iteT_ok {F : Hp} {a : Addr} {xs : List PV} {vs : List V} {g : MM → Prop} (rs : RepVs C.K F xs vs) (h : SqT C.K F a vs) : ItOk C F (pairUp xs) g (IteT C.K a) where
  go := fun R i F1 H1 M1 hi s t gg => by
    rw [pairUp_len] at hi
    obtain ⟨v, hv, rv⟩ := rs.get (List.getElem?_eq_getElem hi)
    exact ⟨vs, v, sqT_sub (s.trans t.sub) h, hv⟩
  yld := fun R i F1 H1 M1 v H2 hi s t gg y => by
    rw [pairUp_len] at hi
    obtain ⟨T, x, rfl, nT, rfl, y⟩ := y
    obtain ⟨v', hv, rv⟩ := rs.get (List.getElem?_eq_getElem hi)
    have e := y vs (sqT_sub (s.trans t.sub) h)
    rw [hv] at e
    cases e
    obtain ⟨F2, e1, e2, e3⟩ := pair_new (i := i) t nT (rv.sub s)
    exact ⟨F2, _, e1, e2, pairUp_get hi, e3⟩
  stop := fun R i F1 H1 M1 hi s t gg => by
    rw [pairUp_len] at hi
    exact ⟨vs, sqT_sub (s.trans t.sub) h, by rw [← rs.length]; exact hi⟩
theorem i_enum {elts : List Expr} {kk : Nat} {tpos p pos : Pos} {x : Str} (hx : x = Str.ofString "enumerate") (hK : X.K = C.K) (hg : L2.Gl X x) (hm : X.mg x = none) (hs : ∀ z p, e ≠ .Starred z p) (h : PE X e (TX C ca)) :
    PI X (.Tuple elts kk tpos) (.Call (.Name x p) [e] [] pos) (TI' C (.enum ca)) := by
  subst hx
  refine ⟨fun pins s σ H Y I ⟨R, F, env, M, QQ, XX, t, st, w, k, kx⟩ => ?_⟩
  refine (pi_enu hg hm hs (pa_cons h pa_nil (star_false hs _))).run pins s σ H Y I ⟨R, F, env, M, _, XX, t, st, w, fun F1 H1 M1 x v s1 t1 r1 q1 => ?_, kx⟩
  obtain ⟨a, xs, vs, g, rfl, q, rs, cs⟩ := seq_cases (f := pairUp) t1 r1 q1
  rw [hK]
  refine ⟨a, rfl, ?_⟩
  rcases cs with cs | ⟨c1, c2⟩
  · exact .inr ⟨⟨vs, sqT_sub t1.sub cs⟩, k F1 H1 M1 _ g _ s1 t1 (iteT_ok rs cs) q⟩
  · exact .inl ⟨⟨vs, .of c1⟩, k F1 H1 M1 _ g _ s1 t1 (ite_ok (H := H1) (M := M1) rs c2) q⟩
theorem upTo_get {lo : Int} {n i : Nat} (hi : i < n) : (upTo lo n)[i]? = some (.int (lo + i)) := by
  unfold upTo
  rw [List.getElem?_map, List.getElem?_range hi]
  rfl
theorem itr_ok {F : Hp} {lo : Int} {n : Nat} : ItOk C F (upTo lo n) (fun _ => True) (Itr lo n) where
  go := fun R i F1 H1 M1 hi s t gg => by rw [upTo_len] at hi; exact hi
  yld := fun R i F1 H1 M1 v H2 hi s t gg y => by
    rw [upTo_len] at hi
    obtain ⟨rfl, rfl⟩ := y
    exact ⟨F1, _, Sub.refl F1, t, upTo_get hi, .int _⟩
  stop := fun R i F1 H1 M1 hi s t gg => by rw [upTo_len] at hi; exact hi
variable {b : Expr} {cb : CE}
theorem i_rng1 {x : Str} {p pos : Pos} (hx : x = Str.ofString "range") (hg : L2.Gl X x) (hm : X.mg x = none) (hs : ∀ z p, e ≠ .Starred z p) (h : PE X e (TX C ca)) : PI X tg (.Call (.Name x p) [e] [] pos) (TI' C (.rng1 ca)) := by
  subst hx
  refine ⟨fun pins s σ H Y I ⟨R, F, env, M, QQ, XX, t, st, w, k, kx⟩ => ?_⟩
  refine (pi_range1 hg hm (pa_cons h pa_nil (star_false hs _)) (star_false hs _)).run pins s σ H Y I ⟨R, F, env, M, _, XX, t, st, w, fun F1 H1 M1 x v s1 t1 r1 q1 => ?_, kx⟩
  cases r1 <;> first | exact q1.elim | skip
  rename_i j
  exact ⟨j, rfl, q1.1.1, q1.1.2, k F1 H1 M1 _ _ _ s1 t1 itr_ok q1.2⟩
theorem i_rng2 {x : Str} {p pos : Pos} (hx : x = Str.ofString "range") (hg : L2.Gl X x) (hm : X.mg x = none) (hs : ∀ z p, e ≠ .Starred z p) (hs2 : ∀ z p, b ≠ .Starred z p) (h : PE X e (TX C ca)) (h2 : PE X b (TX C cb)) : PI X tg (.Call (.Name x p) [e, b] [] pos) (TI' C (.rng2 ca cb)) := by
  subst hx
  refine ⟨fun pins s σ H Y I ⟨R, F, env, M, QQ, XX, t, st, w, k, kx⟩ => ?_⟩
  refine (pi_range2 hg hm (pa_cons h (pa_cons h2 pa_nil (star_false hs2 _)) (star_false hs _)) (by rw [star_false hs, star_false hs2] <;> rfl) (star_false hs2 _)).run pins s σ H Y I ⟨R, F, env, M, _, XX, t, st, w, fun F1 H1 M1 x v s1 t1 r1 q1 => ?_, kx⟩
  refine ⟨R, F1, env, M1, _, XX, t1, st.sub s1, q1, fun F2 H2 M2 y v2 s2 t2 r2 q2 => ?_, kx.sub s1⟩
  cases r1 <;> cases r2 <;> first | exact q2.elim | skip
  rename_i i j
  exact ⟨i, j, rfl, ⟨q2.1.1, q2.1.2, q2.2.1.1, q2.2.1.2⟩, k F2 H2 M2 _ _ _ (s1.trans s2) t2 itr_ok q2.2.2⟩
theorem byStep_get {lo k : Int} {n i : Nat} (hi : i < n) : (byStep lo k n)[i]? = some (.int (lo + (i : Nat) * k)) := by
  unfold byStep
  rw [List.getElem?_map, List.getElem?_range hi]
  rfl
theorem itc_ok {F : Hp} {lo k : Int} {n : Nat} : ItOk C F (byStep lo k n) (fun _ => True) (Itc lo k n) where
  go := fun R i F1 H1 M1 hi s t gg => by rw [byStep_len] at hi; exact hi
  yld := fun R i F1 H1 M1 v H2 hi s t gg y => by
    rw [byStep_len] at hi
    obtain ⟨rfl, rfl⟩ := y
    exact ⟨F1, _, Sub.refl F1, t, byStep_get hi, .int _⟩
  stop := fun R i F1 H1 M1 hi s t gg => by rw [byStep_len] at hi; exact hi
theorem rgc_of {i j k : Int} (h1 : 0 < k) (h2 : k ≤ 1000) (h3 : mid i) (h4 : mid j) : RgC i j k (stepN i j k) := by
  have e : Builtin.Range.rangeSize i j k = (stepN i j k : Nat) := by
    unfold Builtin.Range.rangeSize stepN
    rw [if_pos h1]
    split
    · have : 0 ≤ (j - i - 1) / k := Int.ediv_nonneg (by omega) (by omega)
      omega
    · rfl
  have hb : (stepN i j k : Int) * k ≤ 3000000 ∧ (stepN i j k : Int) ≤ 3000000 := by
    unfold stepN
    unfold mid at h3 h4
    split
    · have q0 : 0 ≤ (j - i - 1) / k := Int.ediv_nonneg (by omega) (by omega)
      have q1 : (j - i - 1) / k * k ≤ j - i - 1 := Int.ediv_mul_le _ (by omega)
      have q2 : (((j - i - 1) / k + 1).toNat : Int) = (j - i - 1) / k + 1 := by omega
      rw [q2, Int.add_mul]
      have q3 : (j - i - 1) / k ≤ j - i - 1 := Int.ediv_le_self _ (by omega)
      omega
    · simp
  refine ⟨by omega, by omega, ?_, e⟩
  unfold Builtin.Range.small
  rw [e]
  unfold mid at h3 h4
  simp only [Builtin.Range.rangeFitsLong, Bool.and_eq_true, Bool.or_eq_true, decide_eq_true_eq, beq_iff_eq, show k > 0 from h1, if_true]
  obtain ⟨b1, b2⟩ := hb
  have b3 : 0 ≤ (stepN i j k : Int) := Int.natCast_nonneg _
  refine ⟨⟨⟨⟨?_, ?_⟩, ?_⟩, ?_⟩, .inr ?_⟩ <;> omega
theorem i_rng3 {c : Expr} {cc : CE} {x : Str} {p pos : Pos} (hx : x = Str.ofString "range") (hg : L2.Gl X x) (hm : X.mg x = none) (hs : ∀ z p, e ≠ .Starred z p) (hs2 : ∀ z p, b ≠ .Starred z p) (hs3 : ∀ z p, c ≠ .Starred z p) (h : PE X e (TX C ca)) (h2 : PE X b (TX C cb)) (h3 : PE X c (TX C cc)) : PI X tg (.Call (.Name x p) [e, b, c] [] pos) (TI' C (.rng3 ca cb cc)) := by
  subst hx
  refine ⟨fun pins s σ H Y I ⟨R, F, env, M, QQ, XX, t, st, w, k, kx⟩ => ?_⟩
  refine (pi_range3 hg hm (pa_cons h (pa_cons h2 (pa_cons h3 pa_nil (star_false hs3 _)) (star_false hs2 _)) (star_false hs _)) (star_false hs _) (by rw [star_false hs2, star_false hs3] <;> rfl)).run pins s σ H Y I ⟨R, F, env, M, _, XX, t, st, w, fun F1 H1 M1 x v s1 t1 r1 q1 => ?_, kx⟩
  refine ⟨R, F1, env, M1, _, XX, t1, st.sub s1, q1, fun F2 H2 M2 y v2 s2 t2 r2 q2 => ?_, kx.sub s1⟩
  refine ⟨R, F2, env, M2, _, XX, t2, (st.sub s1).sub s2, q2, fun F3 H3 M3 z v3 s3 t3 r3 q3 => ?_, (kx.sub s1).sub s2⟩
  cases r1 <;> cases r2 <;> cases r3 <;> first | exact q3.elim | skip
  rename_i i j k'
  exact ⟨i, j, k', _, rfl, rgc_of q3.1.1.1 q3.1.1.2 q3.1.2.1 q3.1.2.2, k F3 H3 M3 _ _ _ (s1.trans (s2.trans s3)) t3 itc_ok q3.2⟩
/-! ### stores -/
mutual
def tgVars : CT → List Nat
  | .var i => [i]
  | .tup ts => tgsVars ts
  | _ => []
def tgsVars : CTs → List Nat
  | .nil => []
  | .cons t r => tgVars t ++ tgsVars r
end
/-- alike but at some slots -/
structure Alike (vs : List Nat) (σ σ' : L2.St) : Prop where
  len : σ'.length = σ.length
  at_ : ∀ j, j ∉ vs → σ'[j]? = σ[j]?
theorem Alike.refl {vs : List Nat} {σ : L2.St} : Alike vs σ σ := ⟨rfl, fun _ _ => rfl⟩
theorem Alike.trans {vs ws : List Nat} {σ σ1 σ2 : L2.St} (a : Alike vs σ σ1) (b : Alike ws σ1 σ2) : Alike (vs ++ ws) σ σ2 :=
  ⟨b.len.trans a.len, fun j h => (b.at_ j fun z => h (List.mem_append_right _ z)).trans (a.at_ j fun z => h (List.mem_append_left _ z))⟩
def KontE (C : Co) (R F : Hp) (vs : List Nat) (σ : L2.St) (QQ : Env → MM → Prop) (Q : L2.St → Hp → Prop) : Prop :=
  ∀ (F' H' : Hp) (M' : MM) (σ' : L2.St) (env' : Env), Sub F F' → Sto C.K C.cA R F' H' M' → StS C R F' σ' env' → Alike vs σ σ' → QQ env' M' → Q σ' H'
def TG' (C : Co) (ct : CT) : TG := fun v σ H Q => ∃ R F env M p QQ XX, Sto C.K C.cA R F H M ∧ StS C R F σ env ∧ RepV C.K F p v ∧ wT C.G C.call ct p env M QQ XX ∧ KontE C R F (tgVars ct) σ QQ Q
def TGs' (C : Co) (cts : CTs) : TGs := fun vs σ H Q => ∃ R F env M ps QQ XX, Sto C.K C.cA R F H M ∧ StS C R F σ env ∧ RepVs C.K F ps vs ∧ wTs C.G C.call cts ps env M QQ XX ∧ KontE C R F (tgsVars cts) σ QQ Q
theorem slot_set {env : Env} {i j : Nat} {x : Option SV} : slot (env.set i x) j = if i = j ∧ j < env.length then x else slot env j := by
  unfold slot
  by_cases h : i = j
  · subst h
    by_cases hl : i < env.length
    · rw [List.getElem?_set_self hl, if_pos ⟨rfl, hl⟩]
      cases x <;> rfl
    · rw [if_neg (fun z => hl z.2), List.set_eq_of_length_le (by omega)]
  · rw [List.getElem?_set_ne h, if_neg (fun z => h z.1)]
theorem StS.set {R F : Hp} {σ : L2.St} {env : Env} {i : Nat} {p : PV} {v : V} (st : StS C R F σ env) (r : RepV C.K F p v) : StS C R F (σ.set i (some v)) (env.set i (some (.pv p))) := by
  refine ⟨by rw [List.length_set, List.length_set, st.len], fun j sv e => ?_⟩
  rw [slot_set] at e
  by_cases h : i = j ∧ j < env.length
  · rw [if_pos h] at e
    cases e
    obtain ⟨rfl, h2⟩ := h
    exact ⟨v, List.getElem?_set_self (by rw [← st.len]; exact h2), r⟩
  · rw [if_neg h] at e
    obtain ⟨w, h1, h2⟩ := st.at_ j sv e
    refine ⟨w, ?_, h2⟩
    have hj : j < σ.length := (List.getElem?_eq_some_iff.mp h1).1
    have : i ≠ j := fun z => h ⟨z, by rw [st.len]; exact hj⟩
    rw [List.getElem?_set_ne this]
    exact h1
theorem s_var {i : Nat} {x : Str} {pos : Pos} (hN : X.N.Nodup) (hi : X.N[i]? = some x) (hx : Loc X.env.scope x) (hf : X.fn x = true ∨ X.env.scope.names.lookup x = some .local) : PG X (.Name x pos) (TG' C (.var i)) := by
  refine ⟨fun pins s σ H v u Q I r ⟨R, F, env, M, p, QQ, XX, t, st, rp, w, k⟩ => ?_⟩
  exact (pg_name hN hi hx hf).run pins s σ H v u Q I r (k F H M _ _ (Sub.refl F) t (st.set rp) ⟨List.length_set .., fun j h => List.getElem?_set_ne (fun z => h (by rw [z]; exact List.mem_singleton.mpr rfl))⟩ w)
theorem wStore_inv {o i v : PV} {M : MM} {Q : MM → Prop} (w : wStore o i v M Q) : ∃ a xs k n, o = .ref a ∧ i = .int k ∧ M a = some (.lst xs) ∧ idx? xs.length k = some n ∧ Q (IB.upd M a (.lst (xs.set n v))) := by
  unfold wStore at w
  split at w <;> first | exact w.elim | skip
  split at w <;> first | exact w.elim | skip
  rename_i e
  split at w <;> first | exact w.elim | skip
  rename_i e2
  exact ⟨_, _, _, _, rfl, rfl, e, e2, w⟩
theorem noX_ok {R F : Hp} {σ : L2.St} : KontX C R F σ noX := fun _ _ _ _ _ _ _ _ _ _ z => z.elim
theorem s_sub {a i : Expr} {ca ci : CE} {pos : Pos} (ha : PE X a (TX C ca)) (hi : PE X i (TX C ci)) (hs : ∀ v, assign (.Subscript a i pos) X.env v = (do
      let ov ← holding [v] (eval a X.env)
      let iv ← holding [v, ov] (eval i X.env)
      standAt pos
      holding [v, ov, iv] (setItem ov iv v)
      release [v, ov, iv] [])) : PG X (.Subscript a i pos) (TG' C (.sub ca ci)) := by
  refine ⟨fun pins s σ H v u Q I r ⟨R, F, env, M, p, QQ, XX, t, st, rp, w, k⟩ => ?_⟩
  refine (pg_sub ha hi set_list hs).run pins s σ H v u Q I r ⟨R, F, env, M, _, noX, t, st, w, fun F1 H1 M1 x v1 s1 t1 r1 q1 => ?_, noX_ok⟩
  refine ⟨R, F1, env, M1, _, noX, t1, st.sub s1, q1, fun F2 H2 M2 y v2 s2 t2 r2 q2 => ?_, noX_ok⟩
  obtain ⟨l, xs, k', n, rfl, rfl, e, e3, q2⟩ := wStore_inv q2
  cases r1
  cases r2
  obtain ⟨_, q⟩ := t2.mem l _ e
  cases q with
  | lst h rs =>
    rename_i vs
    have e4 : ixN vs.length k' = some n := by rw [← rs.length]; exact e3
    refine ⟨l, vs, k', n, rfl, rfl, h, e4, ?_⟩
    have s02 := s1.trans s2
    have t3 := t2.write (o := .lst (vs.set n v)) (mo' := .lst (xs.set n p)) e (.lst upd_same (rs.set (rp.sub s02) n))
    exact k F2 _ _ _ _ s02 t3 (st.sub s02) .refl q2
theorem ss_nil : PGs X [] (TGs' C .nil) := by
  refine ⟨fun pins s σ H vs us Q I r ⟨R, F, env, M, ps, QQ, XX, t, st, rp, w, k⟩ => ?_⟩
  cases rp with
  | nil => exact pgs_nil.run pins s σ H [] us Q I r ⟨rfl, k F H M σ env (Sub.refl F) t st .refl w⟩
  | cons _ _ => exact (show False from w).elim
theorem assignEach_cons {es : List Expr} (hs : ∀ z p, e ≠ .Starred z p) : ∀ env, (assignEach (e :: es) env).map (·.2) = assign e env :: (assignEach es env).map (·.2) := by
  intro env
  cases e <;> first | rfl | exact absurd rfl (hs _ _)
theorem ss_cons {es : List Expr} {ct : CT} {cts : CTs} (hs : ∀ z p, e ≠ .Starred z p) (h1 : PG X e (TG' C ct)) (h2 : PGs X es (TGs' C cts)) : PGs X (e :: es) (TGs' C (.cons ct cts)) := by
  refine ⟨fun pins s σ H vs us Q I r ⟨R, F, env, M, ps, QQ, XX, t, st, rp, w, k⟩ => ?_⟩
  cases rp with
  | nil => exact (show False from w).elim
  | cons rp1 rp2 =>
    refine (pgs_cons h1 h2 (assignEach_cons hs _)).run pins s σ H _ us Q I r ⟨_, _, rfl, R, F, env, M, _, _, XX, t, st, rp1, w, fun F1 H1 M1 σ1 env1 s1 t1 st1 a1 q1 => ?_⟩
    exact ⟨R, F1, env1, M1, _, QQ, XX, t1, st1, rp2.sub s1, q1, fun F2 H2 M2 σ2 env2 s2 t2 st2 a2 q2 => k F2 H2 M2 σ2 env2 (s1.trans s2) t2 st2 (a1.trans a2) q2⟩
theorem lst_not_tup {pins : List (Addr × Obj)} {σ : L2.St} {H : Hp} {s : Shared} {a : Addr} {xs ys : List V} (I : Inv X pins σ H s) (h : H a = some (.lst xs)) (h' : SqT X.K H a ys) : False := by
  obtain ⟨its, _, ⟨o, ho, hcl, _⟩, _⟩ := I.tuple h'
  obtain ⟨its', n', _, ho', _⟩ := I.lst h
  rw [ho] at ho'
  cases ho'
  exact absurd hcl (by simp)
/-- a tuple or a list taken apart -/
theorem s_tup {es : List Expr} {k : Nat} {pos : Pos} {cts : CTs} (hK : X.K = C.K) (hc : X.calm = true) (h : PGs X es (TGs' C cts)) (hst : ∀ env, (assignEach es env).findIdx? (·.1) = none) (hn : ∀ env, (assignEach es env).length = tgLen cts) :
    PG X (.Tuple es k pos) (TG' C (.tup cts)) := by
  refine ⟨fun pins s σ H v u Q I r ⟨R, F, env, M, p, QQ, XX, t, st, rp, w, kk⟩ => ?_⟩
  have w : (match itemsOf M p with | some xs => xs.length = tgLen cts ∧ wTs C.G C.call cts xs env M QQ XX | none => False) := w
  cases e : itemsOf M p with
  | none => rw [e] at w; exact w.elim
  | some xs =>
    rw [e] at w
    obtain ⟨a, vs, rfl, rs, hq⟩ := t.items rp e
    rcases hq with hq | hq
    · exact (pg_lst hc h (hn _) (hst _)).run pins s σ H _ u Q I r ⟨a, vs, rfl, .of hq, by rw [← rs.length]; exact w.1, R, F, env, M, xs, QQ, XX, t, st, rs, w.2, kk⟩
    · exact (pg_tup hc h (hn _) (hst _)).run pins s σ H _ u Q I r ⟨a, vs, rfl, by rw [hK]; exact hq, by rw [← rs.length]; exact w.1, R, F, env, M, xs, QQ, XX, t, st, rs, w.2, kk⟩
end
end IB
end

section
set_option Elab.async false
set_option linter.all false
set_option maxRecDepth 100000
set_option maxHeartbeats 4000000
/-! S6: list comprehensions. -/
namespace IB
open PySem PySem.Spec PyProof.Rows L2
/-- in a block: no exception leaves it, no function among its slots -/
def blkCo (C : Co) : Co := { C with Cl := fun _ _ _ _ => False, W := fun _ _ _ _ => False, mono := fun _ _ _ _ _ _ z => z }
def off (H : Hp) (D : Addr) : Hp := fun b => if b = D then none else H b
theorem off_same {H : Hp} {D : Addr} : off H D D = none := if_pos rfl
theorem off_ne {H : Hp} {D b : Addr} (h : b ≠ D) : off H D b = H b := if_neg h
theorem upd_off {H : Hp} {D : Addr} {o o' : HO} (h : H D = some o) : L2.upd H D o' = L2.upd (off H D) D o' := by
  funext b
  by_cases e : b = D
  · subst e; rw [upd_same, upd_same]
  · rw [upd_ne e, upd_ne e, off_ne e]
theorem upd_off_self {H : Hp} {D : Addr} {o : HO} (h : H D = some o) : H = L2.upd (off H D) D o := by
  funext b
  by_cases e : b = D
  · subst e; rw [upd_same, h]
  · rw [upd_ne e, off_ne e]
section
variable {K : Frag} {cA : Tn} {R F H : Hp} {M : MM} {D : Addr} {o : HO}
/-- a new thing is kept apart -/
theorem Sto.reserve (t : Sto K cA R F H M) (n : H D = none) (no : ∃ xs, o = .lst xs := by exact ⟨_, rfl⟩) : Sto K cA (L2.upd R D o) F (L2.upd H D o) M := by
  obtain ⟨f, m⟩ := t.fr n
  refine ⟨t.sub.upd f, fun b u e => ?_, fun b u e => ?_, tabs_new t.tab n, t.ft, fun b u e => ?_⟩
  · obtain ⟨h1, h2⟩ := t.mem b u e
    have hb : b ≠ D := fun z => by rw [z, m] at e; cases e
    exact ⟨h1, h2.keep (Sub.refl F) fun v q => by rw [upd_ne hb]; exact q⟩
  · by_cases hb : b = D
    · subst hb
      rw [upd_same] at e ⊢
      exact ⟨e, f, m⟩
    · rw [upd_ne hb] at e
      obtain ⟨h1, h2, h3⟩ := t.res b u e
      exact ⟨by rw [upd_ne hb]; exact h1, h2, h3⟩
  · by_cases hb : b = D
    · rw [hb, upd_same] at e
      rw [← Option.some.inj e]
      exact no
    · rw [upd_ne hb] at e
      exact t.rl b u e
/-- it is let go -/
theorem Sto.off (t : Sto K cA (L2.upd R D o) F H M) (n : R D = none) (n1 : ∀ ps, o ≠ .tbl ps) (n2 : ∀ φ, o ≠ .ext φ) : Sto K cA R F (off H D) M := by
  obtain ⟨e1, e2, e3⟩ := t.res D o upd_same
  refine ⟨fun b u e => ?_, fun b u e => ?_, fun b u e => ?_, fun p hp => ?_, t.ft, fun b u e => t.rl b u (by rw [upd_ne (fun z => by rw [z, n] at e; cases e)]; exact e)⟩
  · have hb : b ≠ D := fun z => by rw [z, e2] at e; cases e
    rw [off_ne hb]; exact t.sub _ _ e
  · have hb : b ≠ D := fun z => by rw [z, e3] at e; cases e
    obtain ⟨h1, h2⟩ := t.mem b u e
    exact ⟨h1, h2.keep (Sub.refl F) fun v q => by rw [off_ne hb]; exact q⟩
  · have hb : b ≠ D := fun z => by rw [z, n] at e; cases e
    obtain ⟨h1, h2, h3⟩ := t.res b u (by rw [upd_ne hb]; exact e)
    exact ⟨by rw [off_ne hb]; exact h1, h2, h3⟩
  · obtain ⟨ps, h1, h2, h3⟩ := t.tab p hp
    refine ⟨ps, by rw [off_ne (fun z => n1 ps (by rw [z, e1] at h1; exact Option.some.inj h1))]; exact h1, h2, fun pos cv hc => ?_⟩
    obtain ⟨c, q1, q2⟩ := h3 pos cv hc
    refine ⟨c, q1, ?_⟩
    rw [off_ne (fun z => ?_)]
    · exact q2
    · rw [z, e1] at q2
      exact n2 _ (Option.some.inj q2)
end
/-! ### the block's slots -/
theorem slot_none {env : Env} {vs : List Nat} : ∀ {i : Nat} {sv : SV}, slot (wipeE env vs) i = some sv → slot env i = some sv ∧ i ∉ vs := by
  induction vs with
  | nil => intro i sv h; exact ⟨h, by simp⟩
  | cons v vs ih =>
    intro i sv h
    have h : slot ((wipeE env vs).set v none) i = some sv := h
    rw [slot_set] at h
    by_cases c : v = i ∧ i < (wipeE env vs).length
    · rw [if_pos c] at h; cases h
    · rw [if_neg c] at h
      obtain ⟨h1, h2⟩ := ih h
      refine ⟨h1, ?_⟩
      simp only [List.mem_cons, not_or]
      refine ⟨fun z => c ⟨z.symm, ?_⟩, h2⟩
      unfold slot at h
      cases e : (wipeE env vs)[i]? with
      | none => rw [e] at h; cases h
      | some x => exact (List.getElem?_eq_some_iff.mp e).1
theorem wipeE_len (env : Env) : ∀ vs : List Nat, (wipeE env vs).length = env.length
  | [] => rfl
  | v :: vs => by
    show ((wipeE env vs).set v none).length = env.length
    rw [List.length_set, wipeE_len env vs]
theorem slot_clean {env : Env} {i : Nat} {sv : SV} (h : slot (clean env) i = some sv) : ∃ p, sv = .pv p ∧ slot env i = some (.pv p) := by
  unfold slot clean at h
  rw [List.getElem?_map] at h
  cases e : env[i]? with
  | none => rw [e] at h; cases h
  | some x =>
    rw [e] at h
    cases x with
    | none => cases h
    | some y =>
      cases y with
      | pv p =>
        obtain rfl := Option.some.inj h
        exact ⟨p, rfl, by unfold slot; rw [e]; rfl⟩
      | fn f => cases h
      | clo _ _ _ => cases h
      | exc _ _ => cases h
theorem wipe_get {σ : L2.St} {i : Nat} {v : V} : ∀ {vs : List Nat}, σ[i]? = some (some v) → i ∉ vs → (wipe σ vs)[i]? = some (some v)
  | [], h, _ => h
  | w :: vs, h, n => by
    simp only [List.mem_cons, not_or] at n
    show ((wipe σ vs).set w none)[i]? = _
    rw [List.getElem?_set_ne (fun z => n.1 z.symm)]
    exact wipe_get h n.2
theorem StS.blk {C : Co} {R F : Hp} {σ : L2.St} {env : Env} (st : StS C R F σ env) (vs : List Nat) : StS (blkCo C) R F (wipe σ vs) (clean (wipeE env vs)) := by
  refine ⟨?_, fun i sv h => ?_⟩
  · unfold clean
    rw [List.length_map, wipeE_len, wipe_length, st.len]
  · obtain ⟨p, rfl, h2⟩ := slot_clean h
    obtain ⟨h3, h4⟩ := slot_none h2
    obtain ⟨v, h5, h6⟩ := st.at_ i _ h3
    exact ⟨v, wipe_get h5 h4, h6⟩
theorem wipe_out2 {σ σ' : L2.St} (vs : List Nat) (h : Alike vs σ σ') : wipe σ' vs = wipe σ vs := by
  have key : ∀ (ws : List Nat) (τ : L2.St) (j : Nat), (wipe τ ws)[j]? = if j ∈ ws ∧ j < τ.length then some none else τ[j]? := by
    intro ws τ
    induction ws with
    | nil => intro j; simp [wipe]
    | cons w ws ih =>
      intro j
      show ((wipe τ ws).set w none)[j]? = _
      by_cases c : w = j
      · subst c
        by_cases hl : w < τ.length
        · rw [List.getElem?_set_self (by rw [wipe_length]; exact hl), if_pos ⟨List.mem_cons_self, hl⟩]
        · rw [if_neg fun z => hl z.2, List.getElem?_eq_none (by rw [List.length_set, wipe_length]; omega), List.getElem?_eq_none (by omega)]
      · rw [List.getElem?_set_ne c, ih]
        by_cases d : j ∈ ws ∧ j < τ.length
        · rw [if_pos d, if_pos ⟨List.mem_cons_of_mem _ d.1, d.2⟩]
        · rw [if_neg d, if_neg]
          rintro ⟨z1, z2⟩
          rcases List.mem_cons.mp z1 with z | z
          · exact c z.symm
          · exact d ⟨z, z2⟩
  apply List.ext_getElem?
  intro j
  rw [key, key, h.len]
  by_cases c : j ∈ vs ∧ j < σ.length
  · rw [if_pos c, if_pos c]
  · rw [if_neg c, if_neg c]
    by_cases d : j ∈ vs
    · have : ¬ j < σ.length := fun z => c ⟨d, z⟩
      rw [List.getElem?_eq_none (by rw [h.len]; omega), List.getElem?_eq_none (by omega)]
    · exact h.at_ j d
theorem wipe_twice (σ : L2.St) (vs : List Nat) : wipe (wipe σ vs) vs = wipe σ vs := by
  refine wipe_out2 vs ⟨wipe_length _ _, fun j h => ?_⟩
  induction vs with
  | nil => rfl
  | cons v vs ih =>
    simp only [List.mem_cons, not_or] at h
    show ((wipe σ vs).set v none)[j]? = _
    rw [List.getElem?_set_ne (fun z => h.1 z.symm)]
    exact ih h.2
section
variable {X : Cx} {C : Co}
theorem pts_none {X : Cx} : PTs X [] (TY C (.bl true)) := by
  refine ⟨fun pins s σ H Q I ⟨R, F, env, M, QQ, XX, t, st, w, k, kx⟩ => ?_⟩
  exact pts_nil.run pins s σ H Q I (k F H M true (Sub.refl F) t w)
theorem g_comp {elt tg iter : Expr} {ifs : List Expr} {scope : Scope} {own : List (Str × Nat)} {pos : Pos} {cel cc : CE} {ct : CT} {it : CI} (hc : X.calm = true) (hN : X.N.Nodup) (hi : PI X tg iter (TI' C it)) (ok : BlkOk X.N X.env.scope scope own)
    (hg : ∀ (s : Shared) (H : Hp) (A : Addr) (cl : List (Str × Addr)) (fp : List Addr), PG (X.blk s H scope (compEnvC scope cl A X.env) fp) tg (TG' (blkCo C) ct))
    (ht : ∀ (s : Shared) (H : Hp) (A : Addr) (cl : List (Str × Addr)) (fp : List Addr), PTs (X.blk s H scope (compEnvC scope cl A X.env) fp) ifs (TY (blkCo C) cc))
    (he : ∀ (s : Shared) (H : Hp) (A : Addr) (cl : List (Str × Addr)) (fp : List Addr), PE (X.blk s H scope (compEnvC scope cl A X.env) fp) elt (TX (blkCo C) cel))
    (hs : ∀ x, foldedSetIterable iter X.env x = pure x) (hv : ∀ i ∈ tgVars ct, i ∈ own.map (·.2)) : PE X (.ListComp elt [⟨tg, iter, ifs, 0⟩] scope pos) (TF C (.cmp cel ct it cc (own.map (·.2)))) := by
  refine (pe_lc hc hN hi ok hg ht he hs).imp fun σ H Q h => ?_
  exact comp_rd hv h
where
  comp_rd {ct : CT} {it : CI} {cc cel : CE} {vs : List Nat} {σ : L2.St} {H : Hp} {Q : VK} (hv : ∀ i ∈ tgVars ct, i ∈ vs) (h : TF C (.cmp cel ct it cc vs) σ H Q) : tLc (TI' C it) (TG' (blkCo C) ct) (TY (blkCo C) cc) (TX (blkCo C) cel) vs σ H Q := by
    obtain ⟨R, F, env, M, QQ, XX, t, st, w, k, kx⟩ := h
    refine ⟨R, F, env, M, _, XX, t, st, w, fun F1 H1 M1 xs g J s1 t1 jo q1 => fun D nD => ?_, kx⟩
    have rD : R D = none := by
      cases e : R D with
      | none => rfl
      | some o => have := (t1.res D o e).1; rw [nD] at this; cases this
    refine ⟨fun i m H => ∃ H' F2 M2 acc va, m = xs.length - i ∧ i ≤ xs.length ∧ H = L2.upd H' D (.lst va) ∧ H' D = none ∧ Sub F1 F2 ∧ Sto C.K C.cA R F2 H' M2 ∧ RepVs C.K F2 acc va ∧
        compL g (fun v env M Q => wT C.G C.call ct v env M Q noX) (fun env M Q => wE C.G C.call cc env M (fun v M' => match v with | .bl b => Q b M' | _ => False) noX) (fun env M Q => wE C.G C.call cel env M Q noX) (clean (wipeE env vs)) QQ (xs.drop i) acc M2,
      ⟨xs.length, H1, F1, M1, [], [], rfl, Nat.zero_le _, rfl, nD, Sub.refl F1, t1, .nil, q1⟩, ?_⟩
    rintro i m H2 ⟨H', F2, M2, acc, va, rfl, hi, rfl, nD', s2, t2, ra, cl⟩
    have t2' := t2.more (sub_upd (F := H') (p := D) (o := .lst va) nD')
    by_cases hlt : i < xs.length
    · rw [List.drop_eq_getElem_cons hlt] at cl
      obtain ⟨gg, cl⟩ := cl
      refine .inr ⟨jo.go R i F2 _ M2 hlt s2 t2' gg, fun H'' => ∃ H3 F3 M3 acc va, H'' = L2.upd H3 D (.lst va) ∧ H3 D = none ∧ Sub F1 F3 ∧ Sto C.K C.cA R F3 H3 M3 ∧ RepVs C.K F3 acc va ∧
        compL g (fun v env M Q => wT C.G C.call ct v env M Q noX) (fun env M Q => wE C.G C.call cc env M (fun v M' => match v with | .bl b => Q b M' | _ => False) noX) (fun env M Q => wE C.G C.call cel env M Q noX) (clean (wipeE env vs)) QQ (xs.drop (i + 1)) acc M3,
        fun H'' ⟨H3, F3, M3, acc, va, e1, e2, e3, e4, e5, e6⟩ => ⟨xs.length - (i + 1), by omega, H3, F3, M3, acc, va, rfl, hlt, e1, e2, e3, e4, e5, e6⟩, fun x H3 hy => ?_⟩
      have tR : Sto C.K C.cA (L2.upd R D (.lst va)) F2 (L2.upd H' D (.lst va)) M2 := t2.reserve nD'
      obtain ⟨F3, px, s3, t3, ex, rx⟩ := jo.yld _ i F2 _ M2 x H3 hlt s2 tR gg hy
      rw [List.getElem?_eq_getElem hlt] at ex
      obtain rfl := Option.some.inj ex
      have s13 := s1.trans (s2.trans s3)
      have stB : StS (blkCo C) (L2.upd R D (.lst va)) F3 (wipe σ vs) (clean (wipeE env vs)) := by
        have q := (st.sub s13).blk vs
        refine ⟨q.len, fun j sv e => ?_⟩
        obtain ⟨v, h1, h2⟩ := q.at_ j sv e
        refine ⟨v, h1, ?_⟩
        cases sv with
        | pv p => exact h2
        | fn f => exact h2.elim
        | clo _ _ _ => exact h2.elim
        | exc _ _ => exact h2.elim
      have back : ∀ {F4 H4 : Hp} {M4 : MM}, Sub F3 F4 → Sto C.K C.cA (L2.upd R D (.lst va)) F4 H4 M4 → H4 D = some (.lst va) ∧ Sto C.K C.cA R F4 (off H4 D) M4 := fun s t => ⟨(t.res D _ upd_same).1, t.off rD (fun _ z => by cases z) (fun _ z => by cases z)⟩
      refine ⟨_, F3, _, M2, _, _, noX, t3, stB, rx, cl, fun F4 H4 M4 σ4 env4 s4 t4 st4 a4 q4 => ?_⟩
      refine ⟨(wipe_out2 vs ⟨a4.len, fun j h => a4.at_ j fun z => h (hv j z)⟩).trans (wipe_twice σ vs), ?_⟩
      refine tx_ty (C := blkCo C) t4 st4 (B := fun b M2 => if b = true then wE C.G C.call cel env4 M2 (fun y M3 => acc.length < line ∧ compL g (fun v env M Q => wT C.G C.call ct v env M Q noX) (fun env M Q => wE C.G C.call cc env M (fun v M' => match v with | .bl b => Q b M' | _ => False) noX) (fun env M Q => wE C.G C.call cel env M Q noX) (clean (wipeE env vs)) QQ (xs.drop (i + 1)) (acc ++ [y]) M3) noX
        else compL g (fun v env M Q => wT C.G C.call ct v env M Q noX) (fun env M Q => wE C.G C.call cc env M (fun v M' => match v with | .bl b => Q b M' | _ => False) noX) (fun env M Q => wE C.G C.call cel env M Q noX) (clean (wipeE env vs)) QQ (xs.drop (i + 1)) acc M2) q4 (fun F5 H5 M5 b s5 t5 q5 => ?_) noX_ok
      cases b with
      | false =>
        obtain ⟨e1, e2⟩ := back (s4.trans s5) t5
        exact ⟨off H5 D, F5, M5, acc, va, upd_off_self e1, off_same, s2.trans (s3.trans (s4.trans s5)), e2, ra.sub (s3.trans (s4.trans s5)), q5⟩
      | true =>
        refine ⟨_, F5, env4, M5, _, noX, t5, st4.sub s5, q5, fun F6 H6 M6 y vy s6 t6 r6 q6 => ?_, noX_ok⟩
        obtain ⟨e1, e2⟩ := back (s4.trans (s5.trans s6)) t6
        refine ⟨va, e1, ?_, off H6 D, F6, M6, acc ++ [y], va ++ [vy], upd_off e1, off_same, s2.trans (s3.trans (s4.trans (s5.trans s6))), e2, (ra.sub (s3.trans (s4.trans (s5.trans s6)))).app (.cons r6 .nil), q6.2⟩
        rw [← ra.length, ← line_eq]
        exact q6.1
    · have e : i = xs.length := by omega
      subst e
      rw [List.drop_of_length_le (Nat.le_refl _)] at cl
      exact .inl ⟨jo.stop R _ F2 _ M2 (Nat.le_refl _) s2 t2' cl.1, k F2 H' M2 acc va D (s1.trans s2) t2 ra cl.2 nD'⟩
end
end IB
end

section
set_option Elab.async false
set_option linter.all false
set_option maxRecDepth 100000
set_option maxHeartbeats 4000000
/-! S7: calls. -/
namespace IB
open PySem PySem.Spec PyProof.Rows L2
/-! ### behind a call the new lists stand still -/
def frzH (F H : Hp) (M M' : MM) : Hp := fun a => match F a with
  | some o => some o
  | none => if (M a).isSome = true then none else match M' a with
    | some (.lst _) => H a
    | _ => none
section
variable {K : Frag} {cA : Tn} {R F H : Hp} {M M' : MM}
theorem frzH_sub : Sub F (frzH F H M M') := fun a o e => by unfold frzH; rw [e]
theorem frzH_at {a : Addr} {xs : List PV} (t : Sto K cA R F H M') (h : (M a).isSome = false) (e : M' a = some (.lst xs)) : ∃ vs, frzH F H M M' a = some (.lst vs) ∧ RepVs K F xs vs := by
  obtain ⟨f, q⟩ := t.mem a _ e
  cases q with
  | lst hh r =>
    refine ⟨_, ?_, r⟩
    unfold frzH
    rw [f, e]
    simp only [h, Bool.false_eq_true, if_false]
    exact hh
theorem Sto.behind (t : Sto K cA R F H M') : Sto K cA R (frzH F H M M') H (restr M M') := by
  refine ⟨fun a o e => ?_, fun a o e => ?_, fun a o e => ?_, t.tab, fun a ps e => ?_, t.rl⟩
  · unfold frzH at e
    cases q : F a with
    | some u => rw [q] at e; cases e; exact t.sub _ _ q
    | none =>
      rw [q] at e
      simp only at e
      split at e
      · cases e
      · split at e
        · exact e
        · cases e
  · unfold restr at e
    split at e
    · rename_i hm
      obtain ⟨h1, h2⟩ := t.mem a o e
      refine ⟨?_, h2.keep frzH_sub fun u q => q⟩
      unfold frzH
      rw [h1]
      simp only [hm, if_true]
    · cases e
  · obtain ⟨h1, h2, h3⟩ := t.res a o e
    refine ⟨h1, ?_, ?_⟩
    · unfold frzH
      rw [h2, h3]
      simp only
      split <;> rfl
    · unfold restr
      split
      · exact h3
      · rfl
  · unfold frzH at e
    cases q : F a with
    | some u => rw [q] at e; cases e; exact t.ft a ps q
    | none =>
      rw [q] at e
      simp only at e
      split at e
      · cases e
      · split at e
        · rename_i xs hx
          obtain ⟨_, k⟩ := t.mem a _ hx
          cases k with
          | lst hh r => rw [hh] at e; cases e
        · cases e
theorem frz_ref {n : Nat} {a : Nat} : frz M M' (n + 1) (.ref a) = if (M a).isSome then .ref a else match M' a with | some (.lst xs) => .lst (xs.map (frz M M' n)) | _ => .ref a := by rw [frz] <;> rfl
theorem frz_rep (t : Sto K cA R F H M') : ∀ (n : Nat) {p : PV} {v : V}, RepV K F p v → RepV K (frzH F H M M') (frz M M' n p) v := by
  intro n
  induction n with
  | zero =>
    intro p v r
    have e : frz M M' 0 p = p := by cases p <;> rw [frz]
    rw [e]
    exact r.sub frzH_sub
  | succ n ih =>
    have ihs : ∀ {xs : List PV} {vs : List V}, RepVs K F xs vs → RepVs K (frzH F H M M') (xs.map (frz M M' n)) vs := by
      intro xs
      induction xs with
      | nil => intro vs r; cases r; exact .nil
      | cons x xs ihx => intro vs r; cases r with | cons a b => exact .cons (ih a) (ihx b)
    intro p v r
    cases r with
    | non => rw [frz]; exact .non; all_goals (intros; contradiction)
    | bl b => rw [frz]; exact .bl b; all_goals (intros; contradiction)
    | int i => rw [frz]; exact .int i; all_goals (intros; contradiction)
    | str z => rw [frz]; exact .str z; all_goals (intros; contradiction)
    | rol h r => rw [frz]; exact .rol (sqL_sub frzH_sub h) (r.sub frzH_sub); all_goals (intros; contradiction)
    | lst h r => rw [frz]; exact .lst (frzH_sub _ _ h) (r.sub frzH_sub); all_goals (intros; contradiction)
    | tup h r => rw [frz]; exact .tup (sqT_sub frzH_sub h) (ihs r)
    | ref a =>
      rw [frz_ref]
      split
      · exact .ref a
      · rename_i hm
        split
        · rename_i xs e
          obtain ⟨vs, h1, h2⟩ := frzH_at (M := M) t (by simpa using hm) e
          exact .lst h1 (ihs h2)
        · exact .ref a
theorem frzFs_rep (t : Sto K cA R F H M') {fs : List (String × PV)} {gs : List (Str × V)} (h : RepFs K F fs gs) : RepFs K (frzH F H M M') (fs.map fun p => (p.1, frz M M' 4 p.2)) gs := by
  unfold RepFs at h ⊢
  induction h with
  | nil => exact .nil
  | cons a b ih => exact .cons ⟨a.1, frz_rep t 4 a.2⟩ ih
end
/-- a lambda's code object is known from now on -/
theorem Sto.lam {K : Frag} {cA : Tn} {R F H H1 : Hp} {M : MM} {c' : Addr} {q : Str} (t : Sto K cA R F H M) (e : LamX.ExtN H H1) (T : LamX.Tabs cA.tab H1) (h : H1 c' = some (LamX.CodeO c' q)) : ∃ F1, Sub F F1 ∧ Sto K cA R F1 H1 M ∧ F1 c' = some (LamX.CodeO c' q) := by
  have fc : ∀ o, F c' = some o → o = LamX.CodeO c' q := fun o z => by
    have := e c' o (t.sub _ _ z) fun ps k => t.ft c' ps (by rw [z, k])
    rw [h] at this
    exact (Option.some.inj this).symm
  refine ⟨L2.upd F c' (LamX.CodeO c' q), fun a o z => ?_, ⟨fun a o z => ?_, fun a o z => ?_, fun a o z => ?_, T, fun a ps z => ?_, t.rl⟩, upd_same⟩
  · by_cases hb : a = c'
    · subst hb; rw [upd_same, fc o z]
    · rw [upd_ne hb]; exact z
  · by_cases hb : a = c'
    · subst hb; rw [upd_same] at z; rw [← z]; exact h
    · rw [upd_ne hb] at z
      exact e _ _ (t.sub _ _ z) fun ps k => t.ft a ps (by rw [z, k])
  · obtain ⟨h1, h2⟩ := t.mem a o z
    obtain ⟨u, k1, k2, k3⟩ := h2.kind
    have hb : a ≠ c' := fun q => by
      have := e a u k1 k2
      rw [q, h] at this
      exact k3 _ (Option.some.inj this).symm
    exact ⟨by rw [upd_ne hb]; exact h1, h2.keep (fun b o z => by
      by_cases hb : b = c'
      · subst hb; rw [upd_same, fc o z]
      · rw [upd_ne hb]; exact z) fun v q => e a v q fun ps k => by rw [k1] at q; cases q; exact k2 ps k⟩
  · obtain ⟨h1, h2, h3⟩ := t.res a o z
    obtain ⟨xs, rfl⟩ := t.rl a o z
    have q1 := e a _ h1 fun ps k => by cases k
    have hb : a ≠ c' := fun q => by
      rw [q, h] at q1
      unfold LamX.CodeO at q1
      cases q1
    exact ⟨q1, by rw [upd_ne hb]; exact h2, h3⟩
  · by_cases hb : a = c'
    · subst hb; rw [upd_same] at z; unfold LamX.CodeO at z; cases z
    · rw [upd_ne hb] at z; exact t.ft a ps z
/-! ### functions as values -/
/-- what the program's text says of its defs: where they stand -/
structure FnT where
  at_ : String → Option Addr
/-- a lambda's object in the heap; its cells, what they hold -/
inductive FnV (chk : Nat → List Str → List Str → Arguments → Scope → Expr → CE → Bool) (K : Frag) (fA : String → Option Addr) (s : Shared) (H : Hp) (outer : List PySem.Env) : Hp → Hp → SV → V → Prop
  | fn {R F : Hp} {name : String} {f : Addr} (h : fA name = some f) : FnV chk K fA s H outer R F (.fn name) (.ref f)
  | clo {R F : Hp} {np m : Nat} {body : CE} {caps : List (Option SV)} {f c' : Addr} {qual : Str} {params : Arguments} {lbody : Expr} {scope : Scope} {cl : List (Str × Addr)} {pm ctv : Value} {ps fr : List Str}
      (obj : s.heap.get? f = some (PySem.W.kla_obj "<lambda>" qual params lbody scope cl pm c' ctv)) (hf : H f = none) (ho : f ∉ frs outer) (code : F c' = some (LamX.CodeO c' qual))
      (ck : chk m ps fr params scope lbody body = true) (hps : ps.length = np) (hfr : fr.length = caps.length)
      (hcl : ∀ y ∈ scope.names, y.2 = .free → ∃ c, cl.lookup y.1 = some c) (inj : ∀ x y c, cl.lookup x = some c → cl.lookup y = some c → x = y)
      (cell : ∀ y c, cl.lookup y = some c → H c = none ∧ ∃ v, s.heap.IsCell c v)
      (cap : ∀ (i : Nat) (y : Str) (c : Addr) (sv : SV), fr[i]? = some y → caps[i]? = some (some sv) → cl.lookup y = some c → ∃ u v, s.heap.IsCell c (some u) ∧ RelV v u ∧ (match sv with | .pv p => RepV K F p v | sv => False)) :
      FnV chk K fA s H outer R F (.clo np body caps) (.ref f)
section
variable {chk : Nat → List Str → List Str → Arguments → Scope → Expr → CE → Bool} {K : Frag} {fA : String → Option Addr} {s : Shared} {H R F F' : Hp} {outer : List PySem.Env} {sv : SV} {v : V}
theorem FnV.sub (h : FnV chk K fA s H outer R F sv v) (q : Sub F F') : FnV chk K fA s H outer R F' sv v := by
  cases h with
  | fn h => exact .fn h
  | clo obj hf ho code ck hps hfr hcl inj cell cap =>
    refine .clo obj hf ho (q _ _ code) ck hps hfr hcl inj cell fun i y c sv e1 e2 e3 => ?_
    obtain ⟨u, v, h1, h2, h3⟩ := cap i y c sv e1 e2 e3
    refine ⟨u, v, h1, h2, ?_⟩
    cases sv with
    | pv p => exact RepV.sub q h3
    | fn f => exact h3
    | clo _ _ _ => exact h3
    | exc _ _ => exact h3
/-- later, in the same body, or at a call from it -/
theorem FnV.later {X : Cx} {pins : List (Addr × Obj)} {σ : L2.St} {H1 : Hp} {s1 : Shared} (h : FnV chk K fA X.s_0 X.H_0 X.outer R F sv v) (hex : X.ex = []) (I : Inv X pins σ H1 s1) : FnV chk K fA s1 H1 X.stack R F sv v := by
  cases h with
  | fn h => exact .fn h
  | clo obj hf ho code ck hps hfr hcl inj cell cap =>
    have old : ∀ {b : Addr} {o : Obj}, X.s_0.heap.get? b = some o → b ∉ frs X.outer → b ∉ frs X.stack := fun e n z => by
      rcases List.mem_cons.mp (I.stkSub _ z) with q | q
      · rw [q] at e
        exact absurd (Nat.lt_of_lt_of_le (Heap.lt_size e) I.ok.above) (Nat.lt_irrefl _)
      · exact n q
    have kp : ∀ {b : Addr} {o : Obj}, X.s_0.heap.get? b = some o → X.H_0 b = none → b ∉ frs X.outer → s1.heap.get? b = some o ∧ H1 b = none := fun {b o} e n z =>
      ⟨I.base.keep b o e n z (by rw [hex]; simp), I.base.free b o e n (by rw [hex]; simp)⟩
    have cellK : ∀ {c : Addr} {v : Option Value}, X.s_0.heap.IsCell c v → X.H_0 c = none → s1.heap.IsCell c v ∧ H1 c = none := fun ⟨o, e, d⟩ n => by
      obtain ⟨sl, q⟩ := I.base.any e n (by rw [hex]; simp)
      exact ⟨⟨_, q, d⟩, I.base.free _ o e n (by rw [hex]; simp)⟩
    refine .clo (kp obj hf ho).1 (kp obj hf ho).2 (old obj ho) code ck hps hfr hcl inj (fun y c e => ?_) fun i y c sv e1 e2 e3 => ?_
    · obtain ⟨h2, v, h3⟩ := cell y c e
      exact ⟨(cellK h3 h2).2, v, (cellK h3 h2).1⟩
    · obtain ⟨u, v, h1, h2, h3⟩ := cap i y c sv e1 e2 e3
      obtain ⟨n2, _⟩ := cell y c e3
      exact ⟨u, v, (cellK h1 n2).1, h2, h3⟩
end
end IB
end

section
set_option Elab.async false
set_option linter.all false
set_option maxRecDepth 100000
set_option maxHeartbeats 4000000
/-! S8: calls of defs. -/
namespace IB
open PySem PySem.Spec PyProof.Rows L2
abbrev Chk := Nat → List Str → List Str → Arguments → Scope → Expr → CE → Bool
/-- a value that is handed over: data, or a function -/
def RepF (chk : Chk) (K : Frag) (fA : String → Option Addr) (s : Shared) (H : Hp) (outer : List PySem.Env) (R F : Hp) : SV → V → Prop
  | .pv p, v => RepV K F p v
  | sv, v => FnV chk K fA s H outer R F sv v
abbrev RepFL (chk : Chk) (K : Frag) (fA : String → Option Addr) (s : Shared) (H : Hp) (outer : List PySem.Env) (R F : Hp) : List SV → List V → Prop := Paired (RepF chk K fA s H outer R F)
theorem RepF.sub {chk : Chk} {K : Frag} {fA : String → Option Addr} {s : Shared} {H R F F' : Hp} {outer : List PySem.Env} (q : Sub F F') : ∀ {sv : SV} {v : V}, RepF chk K fA s H outer R F sv v → RepF chk K fA s H outer R F' sv v
  | .pv _, _, h => RepV.sub q h
  | .fn _, _, h => FnV.sub h q
  | .clo _ _ _, _, h => FnV.sub h q
  | .exc _ _, _, h => FnV.sub h q
/-- keywords: names and values -/
def KwR (K : Frag) (F : Hp) : List (String × PV) → List (Str × V) → Prop := Paired fun p q => q.1 = Str.ofString p.1 ∧ RepV K F p.2 q.2
/-- a call of Core is the model's -/
def CallOk (chk : Chk) (P : Program) (w : World) (K : Frag) (mg : Str → Option Value) (base : Heap) (cA : Tn) (eA fA : String → Option Addr) (n : Nat) (call : CallT) : Prop :=
  ∀ (sv : SV) (as : Args) (M : MM) (QQ : PV → MM → Prop) (XX : XK), call sv as M QQ XX → ∀ (A : Around) (outer : List PySem.Env) (s : Shared) (H R F : Hp) (v : V) (u : Value) (vs : List V) (us : List Value) (zs : List (Str × V)) (ws : List Value) (Q : VK) (E : L2.XK),
    Room n A → Env0 P w K mg base A outer s H → Sto K cA R F H M → FnV chk K fA s H outer R F sv v → RelV v u → RepFL chk K fA s H outer R F as.pos vs → Vals vs us → RepFs K F as.kw zs → Vals (zs.map (·.2)) ws → Kont K cA R F QQ Q →
    (∀ (F' H' : Hp) (M' : MM) (cn : String) (fs : List (String × PV)) (C : Addr) (dd : Addr) (gs : List (Str × V)), Sub F F' → Sto K cA R F' H' M' → eA cn = some C → H' dd = some (.xd gs) → RepFs K F' fs gs → XX cn fs M' → E (.ref C) (some dd) H') →
    codeAny (model P w) A (.call u ⟨us, (zs.map (·.1)).zip ws⟩) (CR (L2.CX P w) outer P w H s Q E) s
/-- room for a call, a step above it too -/
structure RoomS (k : Nat) (A : Around) : Prop where
  hd : A.handled = none
  dp : A.depth + 3 * k + 6 < recursionLimit
  un : A.units + 16 * k + 204 < cLine
theorem RoomS.r {k : Nat} {A : Around} (r : RoomS k A) : Room k A := ⟨r.hd, by have := r.dp; omega, by have := r.un; omega⟩
theorem RoomS.in1 {k : Nat} {A : Around} (r : RoomS k A) : Room k A.in1 := ⟨r.hd, by have := r.dp; show A.depth + 3 * k + 5 < _; omega, by have := r.un; show A.units + 1 + 16 * k + 200 < _; omega⟩
theorem RoomS.make {k : Nat} {A : Around} (r : RoomS k A) (C : Addr) (us : List Value) (kw : List (Str × Value)) : Room k (A.under (.builtin "type.__call__" ⟨.ref C :: us, kw⟩)) :=
  ⟨r.hd, by have := r.dp; rw [make_depth]; omega, by have := r.un; rw [make_units]; omega⟩
theorem roomS_deeper {k : Nat} {A : Around} (r : Room (k + 1) A) (env : PySem.Env) : RoomS k (A.deeper env) :=
  ⟨r.hd, by have := r.dp; show A.depth + 1 + 3 * k + 6 < _; omega, by have := r.un; show A.units + 3 + 16 * k + 204 < _; omega⟩
/-- what a context is to keep -/
structure Fit (chk : Chk) (fA : String → Option Addr) (n : Nat) (X : Cx) (C : Co) : Prop where
  hK : X.K = C.K
  calm : X.calm = true
  nd : X.N.Nodup
  tk : Takes X C.W
  roomS : RoomS n X.A
  call : CallOk chk X.prog X.w C.K X.mg X.base C.cA C.eA fA n C.call
  cl0 : ∀ (pn : List (Addr × Obj)) (xe : Value → Shared → Prop) {R F : Hp} {sv : SV} {v : V} {pins : List (Addr × Obj)} {σ : L2.St} {H : Hp} {s : Shared}, C.Cl R F sv v → Inv (Cx.tr X pn xe) pins σ H s → FnV chk C.K fA s H X.stack R F sv v
  fn : ∀ name f, fA name = some f → PySem.W.keepIn C.K (.ref f) = true
section
variable {chk : Chk} {fA : String → Option Addr} {n : Nat} {X : Cx} {C : Co}
theorem Fit.cl (f : Fit chk fA n X C) {R F : Hp} {sv : SV} {v : V} {pins : List (Addr × Obj)} {σ : L2.St} {H : Hp} {s : Shared} (h : C.Cl R F sv v) (I : Inv X pins σ H s) : FnV chk C.K fA s H X.stack R F sv v := f.cl0 X.pn X.xe h I
theorem Fit.room (f : Fit chk fA n X C) : Room n X.A := f.roomS.r
theorem Fit.hu (f : Fit chk fA n X C) : X.A.units + 65 < cLine := by have := f.room.un; omega
/-- positional arguments, then rest -/
structure PosR (chk : Chk) (fA : String → Option Addr) (X : Cx) (C : Co) (es : List Expr) (as rest : CAs) : Prop where
  pl : ∀ (pos : Pos) env, (backTo pos (starEach es env)).any (·.1) = false
  run : ∀ (pos : Pos) (pins : List (Addr × Obj)) (s : Shared) (σ : L2.St) (H R F : Hp) (env : Env) (M : MM) (QQ : Args → MM → Prop) (XX : XK) (Y : List Value → Shared → Prop), Inv X pins σ H s → Sto C.K C.cA R F H M → StS C R F σ env → wA C.G C.call as env M QQ XX → KontX C R F σ XX →
    (∀ (us : List Value) (vs : List V) (svs : List SV) (s' : Shared) (H' F' : Hp) (M' : MM), Inv X pins σ H' s' → Vals vs us → Sub F F' → Sto C.K C.cA R F' H' M' → RepFL chk C.K fA s' H' X.stack R F' svs vs → (svs.all (fun sv => match sv with | .clo _ _ _ => false | _ => true) = true ∨ rest = .nil) →
      wA C.G C.call rest env M' (fun as M'' => QQ ⟨svs ++ as.pos, as.kw⟩ M'') XX → Y us s') → wpAny (model X.prog X.w) X.A (spliced (backTo pos (starEach es X.env))) Y X.xe s
theorem a_nil {rest : CAs} : PosR chk fA X C [] rest rest :=
  ⟨fun _ _ => rfl, fun pos pins s σ H R F env M QQ XX Y I t st w kx k => Calls.spliced_nil (k [] [] [] s H F M I .nil (Sub.refl F) t .nil (.inl rfl) w)⟩
theorem back_false {e : Expr} {es : List Expr} (hs : ∀ z p, e ≠ .Starred z p) (pos : Pos) (env : PySem.Env) : backTo pos (starEach (e :: es) env) = (false, eval e env) :: backTo pos (starEach es env) := by
  rw [star_false hs]
  rfl
theorem a_pos {e : Expr} {es : List Expr} {c : CE} {r rest : CAs} (hs : ∀ z p, e ≠ .Starred z p) (h : PE X e (TX C c)) (hr : PosR chk fA X C es r rest) : PosR chk fA X C (e :: es) (.pos c r) rest := by
  refine ⟨fun pos env => ?_, fun pos pins s σ H R F env M QQ XX Y I t st w kx k => ?_⟩
  · rw [back_false hs]
    show (false || _) = false
    rw [Bool.false_or]; exact hr.pl pos env
  rw [back_false hs]
  have w : wE C.G C.call c env M (fun x M1 => wA C.G C.call r env M1 (fun as M2 => QQ ⟨.pv x :: as.pos, as.kw⟩ M2) XX) XX := w
  refine Calls.spliced_cons (thn (h.run pins s σ H (fun v H1 => ∃ F1 x M1, Sub F F1 ∧ Sto C.K C.cA R F1 H1 M1 ∧ RepV C.K F1 x v ∧ wA C.G C.call r env M1 (fun as M2 => QQ ⟨.pv x :: as.pos, as.kw⟩ M2) XX) I ⟨R, F, env, M, _, XX, t, st, w, fun F1 H1 M1 x v s1 t1 r1 q1 => ⟨F1, x, M1, s1, t1, r1, q1⟩, kx⟩) fun u s1 ⟨v, H1, I1, ru, F1, x, M1, s1', t1, r1, q1⟩ => ?_)
  refine hr.run pos pins s1 σ H1 R F1 env M1 _ XX _ I1 t1 (st.sub s1') q1 (kx.sub s1') fun us vs svs s2 H2 F2 M2 I2 rv s2' t2 rf nc w2 => ?_
  exact k (u :: us) (v :: vs) (.pv x :: svs) s2 H2 F2 M2 I2 (.cons ru rv) (s1'.trans s2') t2 (.cons (RepV.sub s2' r1) rf) (nc.imp (fun z => by rw [List.all_cons, z]; rfl) id) w2
theorem a_fn {x : Str} {p : Pos} {es : List Expr} {name : String} {f : Addr} {r rest : CAs} (hx : x = Str.ofString name) (hg : L2.Gl X x) (hm : X.mg x = some (.ref f)) (hf : fA name = some f) (hd : (x == ("__debug__" : Str)) = false) (hr : PosR chk fA X C es r rest) : PosR chk fA X C (.Name x p :: es) (.fn name r) rest := by
  refine ⟨fun pos env => ?_, fun pos pins s σ H R F env M QQ XX Y I t st w kx k => ?_⟩
  · rw [back_false (fun z p q => by cases q)]
    show (false || _) = false
    rw [Bool.false_or]; exact hr.pl pos env
  rw [back_false (fun z p q => by cases q)]
  refine Calls.spliced_cons (ld_glob I hg hm ?_ hd)
  refine hr.run pos pins s σ H R F env M _ XX _ I t st w kx fun us vs svs s2 H2 F2 M2 I2 rv s2' t2 rf nc w2 => ?_
  exact k (.ref f :: us) (.ref f :: vs) (.fn name :: svs) s2 H2 F2 M2 I2 (.cons rfl rv) s2' t2 (.cons (FnV.fn hf) rf) (nc.imp (fun z => by rw [List.all_cons, z]; rfl) id) w2
/-- keywords -/
structure KwsR (X : Cx) (C : Co) (kws : List Keyword) (as : CAs) : Prop where
  some_ : ∀ (pos : Pos) env, (backToKw pos (keywordEach kws env)).all (·.1.isSome) = true
  none_ : ∀ (pos : Pos) env, (backToKw pos (keywordEach kws env)).any (·.1.isNone) = false
  run : ∀ (pos : Pos) (pins : List (Addr × Obj)) (s : Shared) (σ : L2.St) (H R F : Hp) (env : Env) (M : MM) (QQ : Args → MM → Prop) (XX : XK) (Y : List Value → Shared → Prop), Inv X pins σ H s → Sto C.K C.cA R F H M → StS C R F σ env → wA C.G C.call as env M QQ XX → KontX C R F σ XX →
    (∀ (ws : List Value) (zs : List (Str × V)) (ks : List (String × PV)) (s' : Shared) (H' F' : Hp) (M' : MM), Inv X pins σ H' s' → Vals (zs.map (·.2)) ws → Sub F F' → Sto C.K C.cA R F' H' M' → RepFs C.K F' ks zs → (backToKw pos (keywordEach kws X.env)).filterMap (·.1) = zs.map (·.1) → (as = .nil → s' = s ∧ H' = H ∧ F' = F) →
      QQ ⟨[], ks⟩ M' → Y ws s') → wpAny (model X.prog X.w) X.A (evalAll ((backToKw pos (keywordEach kws X.env)).map (·.2))) Y X.xe s
theorem k_nil : KwsR X C [] .nil :=
  ⟨fun _ _ => rfl, fun _ _ => rfl, fun pos pins s σ H R F env M QQ XX Y I t st w kx k => wpAny_evalAll_nil (k [] [] [] s H F M I .nil (Sub.refl F) t .nil rfl (fun _ => ⟨rfl, rfl, rfl⟩) w)⟩
theorem k_cons {nm : Str} {name : String} {e : Expr} {kpos : Pos} {kws : List Keyword} {c : CE} {r : CAs} (hn : nm = Str.ofString name) (h : PE X e (TX C c)) (hr : KwsR X C kws r): KwsR X C (⟨some nm, e, kpos⟩ :: kws) (.kw name c r) := by
  refine ⟨fun pos env => ?_, fun pos env => ?_, fun pos pins s σ H R F env M QQ XX Y I t st w kx k => ?_⟩
  · show (true && (backToKw pos (keywordEach kws env)).all (·.1.isSome)) = true
    rw [hr.some_]; rfl
  · show (false || (backToKw pos (keywordEach kws env)).any (·.1.isNone)) = false
    rw [hr.none_]; rfl
  · have w : wE C.G C.call c env M (fun x M1 => wA C.G C.call r env M1 (fun as M2 => QQ ⟨as.pos, (name, x) :: as.kw⟩ M2) XX) XX := w
    show wpAny _ _ (evalAll ((do let v ← eval e X.env; standAt pos; pure v) :: (backToKw pos (keywordEach kws X.env)).map (·.2))) _ _ s
    refine wpAny_evalAll_cons (wpAny_bind (thn (h.run pins s σ H (fun v H1 => ∃ F1 x M1, Sub F F1 ∧ Sto C.K C.cA R F1 H1 M1 ∧ RepV C.K F1 x v ∧ wA C.G C.call r env M1 (fun as M2 => QQ ⟨as.pos, (name, x) :: as.kw⟩ M2) XX) I ⟨R, F, env, M, _, XX, t, st, w, fun F1 H1 M1 x v s1 t1 r1 q1 => ⟨F1, x, M1, s1, t1, r1, q1⟩, kx⟩) fun u s1 ⟨v, H1, I1, ru, F1, x, M1, s1', t1, r1, q1⟩ => wpAny_bind (wpAny_standAt (wpAny_pure ?_))))
    refine hr.run pos pins s1 σ H1 R F1 env M1 _ XX _ I1 t1 (st.sub s1') q1 (kx.sub s1') fun ws zs ks s2 H2 F2 M2 I2 rv s2' t2 rf en _ w2 => ?_
    refine k (u :: ws) ((nm, v) :: zs) ((name, x) :: ks) s2 H2 F2 M2 I2 (.cons ru rv) (s1'.trans s2') t2 (.cons ⟨hn, RepV.sub s2' r1⟩ rf) ?_ (fun z => by cases z) w2
    show nm :: (backToKw pos (keywordEach kws X.env)).filterMap (·.1) = nm :: zs.map (·.1)
    rw [en]
end
end IB
end

section
set_option Elab.async false
set_option linter.all false
set_option maxRecDepth 100000
set_option maxHeartbeats 4000000
namespace IB
open PySem PySem.Spec PyProof.Rows L2
theorem forIn_kw {ps : List Str} {g : Str × Value → List (Str × Value) × List (Str × Value) → Sem (ForInStep (List (Str × Value) × List (Str × Value)))} (hg : ∀ kv sl, ps.contains kv.1 = true → (sl.lookup kv.1).isSome = false → g kv (sl, []) = pure (.yield (sl ++ [kv], []))) :
    ∀ (kws sl : List (Str × Value)), (∀ kv ∈ kws, ps.contains kv.1 = true ∧ sl.lookup kv.1 = none) → (kws.map (·.1)).Nodup → forIn kws (sl, []) g = (pure (sl ++ kws, []) : Sem _)
  | [], sl, _, _ => by rw [List.forIn_nil, List.append_nil]
  | kv :: r, sl, h, nd => by
    rw [List.forIn_cons, hg kv sl (h kv List.mem_cons_self).1 (by rw [(h kv List.mem_cons_self).2]; rfl), pure_bind]
    show forIn r (sl ++ [kv], []) g = _
    rw [List.map_cons, List.nodup_cons] at nd
    rw [forIn_kw hg r (sl ++ [kv]) (fun k hk => ⟨(h k (List.mem_cons_of_mem _ hk)).1, ?_⟩) nd.2, List.append_assoc]; rfl
    rw [List.lookup_append, (h k (List.mem_cons_of_mem _ hk)).2]
    have ne : k.1 ≠ kv.1 := fun z => nd.1 (by rw [← z]; exact List.mem_map_of_mem hk)
    show ([kv].lookup k.1) = none
    have e : (k.1 == kv.1) = false := by simpa using ne
    rw [List.lookup_cons, e]; rfl
/-- simple parameters -/
structure SimpleP (p : Arguments) (ps : List Str) : Prop where
  po : p.posonlyargs = []
  ar : p.args.map (·.arg) = ps
  va : p.vararg = none
  ko : p.kwonlyargs = []
  kw : p.kwarg = none
theorem bind_simple {fd : FuncData} {ps : List Str} {us : List Value} {kws : List (Str × Value)} (h : SimpleP fd.params ps) (h6 : fd.defaults = .none) (hl : us.length ≤ ps.length)
    (hk : ∀ kv ∈ kws, ps.contains kv.1 = true ∧ (ps.zip us).lookup kv.1 = none) (nd : (kws.map (·.1)).Nodup) (hall : ∀ n ∈ ps, ((ps.zip us ++ kws).lookup n).isSome = true) :
  bindArgs fd ⟨us, kws⟩ = pure (ps.filterMap fun n => ((ps.zip us ++ kws).lookup n).map (n, ·)) := by
  obtain ⟨h1, h2, h3, h4, h5⟩ := h
  unfold bindArgs
  simp only [h1, h2, h3, h4, h5, h6, List.map_nil, List.nil_append, List.append_nil, Option.isSome_none, Option.isNone_none]
  rw [forIn_kw (ps := ps) (fun kv sl c1 c2 => ?_) kws _ hk nd, pure_bind]
  · have e : seqItems? Value.none = pure none := rfl
    rw [e, pure_bind]
    have e2 : decide (us.length > ps.length) = false := by simp; exact hl
    have e3 : (List.filter (fun n => (List.lookup n (ps.zip us ++ kws)).isNone) (List.take (ps.length - 0) ps)) = [] := by
      rw [List.filter_eq_nil_iff]
      intro n hn
      have := hall n (List.mem_of_mem_take hn)
      simp [Option.isSome_iff_exists] at this
      obtain ⟨v, hv⟩ := this
      simp [hv]
    simp only [e2, Option.getD_none, List.length_nil, List.drop_nil, e3, List.isEmpty_nil, Bool.not_true, Bool.false_eq_true, if_false, Bool.false_and, List.zip_nil_right, List.forIn_nil, pure_bind]
  · simp only [c1, c2, Bool.true_or, if_true, Bool.false_eq_true, if_false]
theorem lookup_zip {ps : List Str} {us : List Value} : ∀ {i : Nat} {x : Str} {u : Value}, ps.Nodup → ps[i]? = some x → us[i]? = some u → (ps.zip us).lookup x = some u := by
  induction ps generalizing us with
  | nil => intro i x u _ h _; simp at h
  | cons p ps ih =>
    intro i x u nd h1 h2
    cases us with
    | nil => simp at h2
    | cons v us =>
      rw [List.nodup_cons] at nd
      cases i with
      | zero =>
        simp at h1 h2
        subst h1 h2
        simp [List.lookup]
      | succ i =>
        simp at h1 h2
        have : x ≠ p := fun z => nd.1 (by rw [← z]; exact List.mem_of_getElem? h1)
        have e : (x == p) = false := by simpa using this
        rw [List.zip_cons_cons, List.lookup_cons, e]
        exact ih nd.2 h1 h2
theorem lookup_zip_none {ps : List Str} : ∀ {us : List Value} {x : Str}, x ∉ ps.take us.length → (ps.zip us).lookup x = none := by
  induction ps with
  | nil => intro us x _; rfl
  | cons p ps ih =>
    intro us x h
    cases us with
    | nil => rfl
    | cons v us =>
      simp at h
      have e : (x == p) = false := by simpa using h.1
      rw [List.zip_cons_cons, List.lookup_cons, e]
      exact ih h.2
theorem filterMap_zip {g : Str → Option Value} : ∀ {ps : List Str} {vals : List Value}, vals.length = ps.length → (∀ (i : Nat) (x : Str) (v : Value), ps[i]? = some x → vals[i]? = some v → g x = some v) → (ps.filterMap fun n => (g n).map (n, ·)) = ps.zip vals
  | [], vals, _, _ => by simp
  | p :: ps, [], h, _ => by simp at h
  | p :: ps, v :: vals, h, hg => by
    have e := hg 0 p v rfl rfl
    rw [List.filterMap_cons, e]
    simp only [Option.map_some, List.zip_cons_cons]
    rw [filterMap_zip (by simpa using h) fun i x v h1 h2 => hg (i + 1) x v (by simpa using h1) (by simpa using h2)]
theorem str_inj {a b : String} (h : Str.ofString a = Str.ofString b) : a = b := ofString_inj h
/-- the parameters' values in both worlds -/
theorem bind_all {chk : Chk} {K : Frag} {fA : String → Option Addr} {s : Shared} {H R F : Hp} {outer : List PySem.Env} : ∀ {ps : List String} {svs out : List SV} {kw : List (String × PV)} {vs : List V} {zs : List (Str × V)} {us ws : List Value}, bindA ps svs kw = some out → RepFL chk K fA s H outer R F svs vs → Vals vs us → RepFs K F kw zs → Vals (zs.map (·.2)) ws →
    ∃ vals outv, out.length = ps.length ∧ svs.length ≤ ps.length ∧ RepFL chk K fA s H outer R F out outv ∧ Vals outv vals ∧ ∀ (i : Nat) (p : String) (v : Value), ps[i]? = some p → vals[i]? = some v → if i < us.length then us[i]? = some v else ((zs.map (·.1)).zip ws).lookup (Str.ofString p) = some v
  | [], [], out, kw, vs, zs, us, ws, h, r, rv, rk, rw_ => by
    have h : some [] = some out := by simpa [bindA] using h
    cases h
    exact ⟨[], [], rfl, Nat.le_refl _, .nil, .nil, fun i p v h _ => by simp at h⟩
  | [], _ :: _, out, kw, vs, zs, us, ws, h, r, rv, rk, rw_ => by simp [bindA] at h
  | p :: ps, sv :: svs, out, kw, v :: vs, zs, u :: us, ws, h, .cons r1 r2, .cons v1 v2, rk, rw_ => by
    rw [bindA] at h
    cases e : bindA ps svs kw with
    | none => rw [e] at h; cases h
    | some o =>
      rw [e] at h
      obtain rfl := Option.some.inj h
      obtain ⟨vals, outv, l1, l2, q1, q2, q3⟩ := bind_all (us := us) (ws := ws) e r2 v2 rk rw_
      refine ⟨_ :: vals, _ :: outv, by simp [l1], by simp [l2], .cons r1 q1, .cons v1 q2, fun i p v h1 h2 => ?_⟩
      cases i with
      | zero =>
        simp at h1 h2 ⊢
        exact h2
      | succ i =>
        simp at h1 h2 ⊢
        exact q3 i p v h1 h2
  | p :: ps, [], out, kw, vs, zs, us, ws, h, r, rv, rk, rw_ => by
    rw [bindA] at h
    cases e0 : kw.lookup p with
    | none => rw [e0] at h; cases h
    | some x =>
      rw [e0] at h
      simp only at h
      cases e : bindA ps [] kw with
      | none => rw [e] at h; cases h
      | some o =>
        rw [e] at h
        obtain rfl := Option.some.inj h
        cases r
        cases rv
        obtain ⟨vals, outv, l1, l2, q1, q2, q3⟩ := bind_all (us := []) (ws := ws) e .nil .nil rk rw_
        obtain ⟨v, u, a1, a2, a3⟩ := kwl rk rw_ e0
        refine ⟨u :: vals, v :: outv, by simp [l1], by simp, .cons a1 q1, .cons a2 q2, fun i p' v h1 h2 => ?_⟩
        cases i with
        | zero =>
          simp at h1 h2 ⊢
          subst h1 h2
          exact a3
        | succ i =>
          simp at h1 h2 ⊢
          have := q3 i p' v h1 h2
          simpa using this
where
  kwl {K : Frag} {F : Hp} : ∀ {kw : List (String × PV)} {zs : List (Str × V)} {ws : List Value} {p : String} {x : PV}, RepFs K F kw zs → Vals (zs.map (·.2)) ws → kw.lookup p = some x → ∃ v u, RepV K F x v ∧ RelV v u ∧ ((zs.map (·.1)).zip ws).lookup (Str.ofString p) = some u
    | [], _, _, p, x, _, _, h => by cases h
    | _ :: _, _ :: _, [], p, x, _, rv, h => nomatch rv
    | kx :: kw, zv :: zs, u :: ws, p, x, .cons a b, rv, h => by
      have r1 : RelV zv.2 u := by cases rv; assumption
      have r2 : Vals (zs.map (·.2)) ws := by cases rv; assumption
      rw [List.lookup_cons] at h
      show ∃ v u', _ ∧ _ ∧ ((zv.1, u) :: (zs.map (·.1)).zip ws).lookup (Str.ofString p) = some u'
      rw [List.lookup_cons, a.1, show (Str.ofString p == Str.ofString kx.1) = (p == kx.1) from by rw [beq_ofString]]
      cases e : p == kx.1 with
      | true =>
        rw [e] at h
        obtain rfl := Option.some.inj h
        exact ⟨_, _, a.2, r1, rfl⟩
      | false =>
        rw [e] at h
        exact kwl b r2 h
end IB
end

section
set_option Elab.async false
set_option linter.all false
set_option maxRecDepth 100000
set_option maxHeartbeats 4000000
namespace IB
open PySem PySem.Spec PyProof.Rows L2
theorem nodup_str {ps : List String} (h : ps.Nodup) : (ps.map Str.ofString).Nodup := by
  induction ps with
  | nil => exact List.nodup_nil
  | cons p ps ih =>
    rw [List.nodup_cons] at h
    rw [List.map_cons, List.nodup_cons]
    refine ⟨fun z => ?_, ih h.2⟩
    obtain ⟨q, h1, h2⟩ := List.mem_map.mp z
    exact h.1 (by rw [← ofString_inj h2]; exact h1)
theorem not_take {ps : List Str} (nd : ps.Nodup) {n i : Nat} {x : Str} (h : ps[i]? = some x) (hn : n ≤ i) : x ∉ ps.take n := fun z => by
  obtain ⟨j, hj⟩ := List.mem_iff_getElem?.mp z
  rw [List.getElem?_take] at hj
  split at hj
  · rename_i c
    have hi := (List.getElem?_eq_some_iff.mp h).1
    have := (List.getElem?_inj (i := i) (j := j) hi nd).mp (by rw [h, hj])
    omega
  · cases hj
theorem mem_drop_ix {α : Type} {l : List α} {n : Nat} {x : α} (h : x ∈ l.drop n) : ∃ i, n ≤ i ∧ l[i]? = some x := by
  obtain ⟨j, hj⟩ := List.mem_iff_getElem?.mp h
  rw [List.getElem?_drop] at hj
  exact ⟨n + j, by omega, hj⟩
theorem zip_fst {zs : List (Str × V)} : ∀ {ws : List Value}, Vals (zs.map (·.2)) ws → ((zs.map (·.1)).zip ws).map (·.1) = zs.map (·.1) := by
  induction zs with
  | nil => intro ws _; rfl
  | cons z zs ih =>
    intro ws h
    cases ws with
    | nil => nomatch h
    | cons w ws =>
      have h2 : Vals (zs.map (·.2)) ws := by cases h; assumption
      show z.1 :: _ = _
      rw [List.map_cons]
      congr 1
      exact ih h2
theorem fs_keys {K : Frag} {F : Hp} : ∀ {kw : List (String × PV)} {zs : List (Str × V)}, RepFs K F kw zs → zs.map (·.1) = (kw.map (·.1)).map Str.ofString
  | [], [], _ => rfl
  | [], _ :: _, h => nomatch h
  | _ :: _, [], h => nomatch h
  | k :: kw, z :: zs, .cons a b => by
    rw [List.map_cons, List.map_cons, List.map_cons, a.1, fs_keys (kw := kw) (zs := zs) b]
theorem binds_ok {chk : Chk} {K : Frag} {fA : String → Option Addr} {s : Shared} {H R F : Hp} {outer : List PySem.Env} {fd : FuncData} {ps : List String} {svs out : List SV} {kw : List (String × PV)} {vs : List V} {zs : List (Str × V)} {us ws : List Value} (hp : SimpleP fd.params (ps.map Str.ofString)) (hd : fd.defaults = .none) (nd : ps.Nodup)
    (hk : kwOk ps svs.length (kw.map (·.1)) = true) (hb : bindA ps svs kw = some out) (r : RepFL chk K fA s H outer R F svs vs) (rv : Vals vs us) (rk : RepFs K F kw zs) (rw_ : Vals (zs.map (·.2)) ws) :
    ∃ vals outv, bindArgs fd ⟨us, (zs.map (·.1)).zip ws⟩ = pure ((ps.map Str.ofString).zip vals) ∧ out.length = ps.length ∧ RepFL chk K fA s H outer R F out outv ∧ Vals outv vals := by
  obtain ⟨vals, outv, l1, l2, q1, q2, q3⟩ := bind_all hb r rv rk rw_
  refine ⟨vals, outv, ?_, l1, q1, q2⟩
  have lu : us.length = svs.length := by rw [← rv.length, ← Paired.length r]
  have lv : vals.length = ps.length := by rw [← q2.length, ← Paired.length q1, l1]
  have ndS := nodup_str nd
  unfold kwOk at hk
  simp only [Bool.and_eq_true, decide_eq_true_eq, List.all_eq_true, List.contains_iff_mem] at hk
  obtain ⟨k1, k2⟩ := hk
  have keys := zip_fst rw_
  have eL : ∀ (i : Nat) (x : Str) (v : Value), (ps.map Str.ofString)[i]? = some x → vals[i]? = some v → (((ps.map Str.ofString).zip us ++ (zs.map (·.1)).zip ws).lookup x) = some v := fun i x v h1 h2 => by
    rw [List.getElem?_map] at h1
    cases e : ps[i]? with
    | none => rw [e] at h1; cases h1
    | some p =>
      rw [e] at h1
      obtain rfl := Option.some.inj h1
      have q := q3 i p v e h2
      have hs : (ps.map Str.ofString)[i]? = some (Str.ofString p) := by rw [List.getElem?_map, e]; rfl
      rw [List.lookup_append]
      by_cases c : i < us.length
      · rw [if_pos c] at q
        rw [lookup_zip ndS hs q]; rfl
      · rw [if_neg c] at q
        rw [lookup_zip_none (not_take ndS hs (by omega)), q]; rfl
  rw [bind_simple hp hd (by rw [lu, List.length_map]; exact l2) (fun kv hkv => ?_) (by rw [keys, fs_keys rk]; exact nodup_str k1) (fun n hn => ?_), filterMap_zip (by rw [lv, List.length_map]) eL]
  · have hm : kv.1 ∈ (kw.map (·.1)).map Str.ofString := by
      rw [← fs_keys rk, ← keys]
      exact List.mem_map_of_mem hkv
    obtain ⟨k, h1, h2⟩ := List.mem_map.mp hm
    obtain ⟨i, h3, h4⟩ := mem_drop_ix (k2 k h1)
    have h5 : (ps.map Str.ofString)[i]? = some kv.1 := by rw [List.getElem?_map, h4, ← h2]; rfl
    refine ⟨by rw [List.contains_iff_mem]; exact List.mem_of_getElem? h5, lookup_zip_none (not_take ndS h5 (by omega))⟩
  · obtain ⟨i, hi⟩ := List.mem_iff_getElem?.mp hn
    have hl := (List.getElem?_eq_some_iff.mp hi).1
    rw [List.length_map] at hl
    rw [eL i n _ hi (List.getElem?_eq_getElem (by rw [lv]; exact hl))]; rfl
end IB
end

section
set_option Elab.async false
set_option linter.all false
set_option maxRecDepth 100000
set_option maxHeartbeats 4000000
/-! S9: a lambda is called. -/
namespace IB
open PySem PySem.Spec PyProof.Rows L2
abbrev cloEnv (qual : Str) (scope : Scope) (L f c' : Addr) (cl : List (Str × Addr)) : PySem.Env := PySem.W.envX qual scope L f (.ref c') cl
/-- the context of a lambda's body, entered at s from the frames outer -/
def cloCx (P : Program) (w : World) (K : Frag) (mg : Str → Option Value) (base : Heap) (N : List Str) (qual : Str) (A : Around) (outer : List PySem.Env) (s : Shared) (H : Hp) (E : L2.XK) (scope : Scope) (f c' : Addr) (cl : List (Str × Addr)) : Cx where
  prog := P
  w := w
  K := K
  mg := mg
  base := base
  A := A.deeper (cloEnv qual scope s.heap.objs.size f c' cl)
  N := N
  s_0 := s
  H_0 := H
  env := cloEnv qual scope s.heap.objs.size f c' cl
  outer := outer
  stack := cloEnv qual scope s.heap.objs.size f c' cl :: outer
  ex := []
  fn := fun _ => false
  calm := true
  pn := []
  xe := fun e s' => wpAny (model P w) (A.deeper (cloEnv qual scope s.heap.objs.size f c' cl)) (leaving (cloEnv qual scope s.heap.objs.size f c' cl) e) (fun _ s'' => L2.CX P w outer H s E e s'') (fun e' s'' => L2.CX P w outer H s E e' s'') s'
/-- a lambda's names -/
structure CloS (params : Arguments) (scope : Scope) (ps fr : List Str) : Prop where
  kind : scope.kind = .function
  co : scope.isCoroutine = false
  gen : scope.isGenerator = false
  own : ∀ y ∈ scope.names, y.2 ≠ .cell
  par : ∀ x ∈ ps, scope.names.lookup x = some .local
  free : ∀ x ∈ fr, scope.names.lookup x = some .free
  nd : (ps ++ fr).Nodup
  simple : SimpleP params ps
theorem rev_lookup {ps : List Str} {us : List Value} {i : Nat} {x : Str} {u : Value} (nd : ps.Nodup) (h1 : ps[i]? = some x) (h2 : us[i]? = some u) : (ps.zip us).reverse.lookup x = some u := by
  have key : ∀ (l : List (Str × Value)), (l.map (·.1)).Nodup → (x, u) ∈ l → l.reverse.lookup x = some u := by
    intro l
    induction l with
    | nil => intro _ h; cases h
    | cons a l ih =>
      intro nd h
      rw [List.map_cons, List.nodup_cons] at nd
      rw [List.reverse_cons, List.lookup_append]
      rcases List.mem_cons.mp h with rfl | h
      · have : l.reverse.lookup x = none := by
          rw [List.lookup_eq_none_iff]
          intro p hp
          have : p.1 ≠ x := fun z => nd.1 (by show x ∈ _; rw [← z]; exact List.mem_map_of_mem (f := (·.1)) (List.mem_reverse.mp hp))
          simpa using fun z => this z.symm
        rw [this]
        simp [List.lookup]
      · rw [ih nd.2 h]; rfl
  refine key _ ?_ ?_
  · have : ∀ {ps : List Str} {us : List Value}, ps.Nodup → ((ps.zip us).map (·.1)).Nodup := by
      intro ps
      induction ps with
      | nil => intro us _; exact List.nodup_nil
      | cons p ps ih =>
        intro us nd
        cases us with
        | nil => exact List.nodup_nil
        | cons u us =>
          rw [List.nodup_cons] at nd
          rw [List.zip_cons_cons, List.map_cons, List.nodup_cons]
          refine ⟨fun z => ?_, ih nd.2⟩
          obtain ⟨q, h1, h2⟩ := List.mem_map.mp z
          have h2 : q.1 = p := h2
          exact nd.1 (by rw [← h2]; exact (List.of_mem_zip h1).1)
    exact this nd
  · refine List.mem_iff_getElem?.mpr ⟨i, ?_⟩
    rw [List.getElem?_zip_eq_some]
    exact ⟨h1, h2⟩
section
variable {P : Program} {w : World} {K : Frag} {mg : Str → Option Value} {base : Heap} {A : Around} {outer : List PySem.Env} {s : Shared} {H : Hp}
theorem clo_start {E : L2.XK} {scope : Scope} {params : Arguments} {f c' : Addr} {h₁ : Heap} {tk : Nat} {ps fr : List Str} {qual : Str} {cl : List (Str × Addr)} {us : List Value} {vs : List V} {cs : L2.St} (L : CloS params scope ps fr) (e0 : Env0 P w K mg base A outer s H) (hd : A.handled = none) (hl : us.length = ps.length) (hc : cs.length = fr.length) (rv : Vals vs us)
    (hcl : ∀ y ∈ scope.names, y.2 = .free → ∃ c, cl.lookup y.1 = some c) (inj : ∀ x y c, cl.lookup x = some c → cl.lookup y = some c → x = y) (cell : ∀ y c, cl.lookup y = some c → H c = none ∧ ∃ v, s.heap.IsCell c v)
    (cap : ∀ (i : Nat) (y : Str) (c : Addr) (v : V), fr[i]? = some y → cs[i]? = some (some v) → cl.lookup y = some c → ∃ u, s.heap.IsCell c (some u) ∧ RelV v u)
    (hns : h₁.Ns s.heap.objs.size fun y => (ps.zip us).reverse.lookup y) (kp : ∀ b o, s.heap.get? b = some o → h₁.get? b = some o) :
    Inv (cloCx P w K mg base (ps ++ fr) qual A outer s H E scope f c' cl) [] (vs.map some ++ cs) H { s with heap := h₁, toks := tk } := by
  have noA : ∀ b : Addr, b ∉ (cloCx P w K mg base (ps ++ fr) qual A outer s H E scope f c' cl).ex := fun b z => absurd (show b ∈ ([] : List Addr) from z) (by simp)
  have cellK : ∀ {c : Addr} {v : Option Value}, s.heap.IsCell c v → h₁.IsCell c v := fun {c v} ⟨o, ho, hd⟩ => ⟨_, kp _ _ ho, hd⟩
  have nc : ∀ y, scope.names.lookup y ≠ some .cell := fun y z => L.own _ (PySem.mem_of_lookup z) rfl
  have lv : vs.length = us.length := rv.length
  refine ⟨⟨e0.mod, L.kind, rfl, rfl, Nat.le_refl _, inj, fun y hy => ?_, fun y c z _ => ?_, fun _ => hd, Around.frames_deeper e0.frames, .inr ⟨rfl, rfl⟩, fun b z => absurd z (noA b), e0.bs, e0.bsz, fun b _ _ => noA b,
      fun b z => absurd z (noA b), e0.funs, e0.frf⟩,
    rfl, e0.bare, Un.kept kp, ⟨_, hns, fun i y v e1 e2 e3 => ?_⟩, fun y c e => ?_, e0.hok.fresh (Nat.le_refl _), fun y c e => (cell y c e).1, fun q hq => absurd (show q ∈ ([] : List (Addr × Obj)) ++ [] from hq) (by simp), e0.hok.kept kp, ?_⟩
  · have hy : scope.names.lookup y = some .cell ∨ scope.names.lookup y = some .free := hy
    rcases hy with hy | hy
    · exact absurd hy (nc y)
    · exact hcl (y, .free) (PySem.mem_of_lookup hy) rfl
  · have z : false = true := z
    cases z
  · have e1 : (ps ++ fr)[i]? = some y := e1
    by_cases hi : i < ps.length
    · rw [List.getElem?_append_left hi] at e1
      rw [List.getElem?_append_left (by rw [List.length_map]; omega), List.getElem?_map] at e2
      cases ev : vs[i]? with
      | none => rw [ev] at e2; cases e2
      | some v' =>
        rw [ev] at e2
        obtain rfl : v' = v := Option.some.inj (Option.some.inj e2)
        obtain ⟨u, hu, r⟩ := rv.get ev
        exact ⟨u, r, .inl ⟨L.par y (List.mem_of_getElem? e1), rev_lookup (L.nd.sublist (List.sublist_append_left _ _)) e1 hu⟩⟩
    · rw [List.getElem?_append_right (by omega)] at e1
      rw [List.getElem?_append_right (by rw [List.length_map]; omega), List.length_map, lv, hl] at e2
      have hf := L.free y (List.mem_of_getElem? e1)
      obtain ⟨c, hc⟩ := hcl (y, .free) (PySem.mem_of_lookup hf) rfl
      obtain ⟨u, h1, h2⟩ := cap _ y c v e1 e2 hc
      exact ⟨u, h2, .inr ⟨.inr hf, c, hc, cellK h1⟩⟩
  · obtain ⟨_, v, h⟩ := cell y c e
    exact ⟨v, cellK h⟩
  · show _ = (ps ++ fr).length
    rw [List.length_append, List.length_append, List.length_map, lv, hl, hc]
/-- the captured values in the model -/
theorem cap_vals {R F : Hp} {fr : List Str} {caps : List (Option SV)} {cl : List (Str × Addr)} (hfr : fr.length = caps.length) (hfree : ∀ x ∈ fr, ∃ c, cl.lookup x = some c)
    (cap : ∀ (i : Nat) (y : Str) (c : Addr) (sv : SV), fr[i]? = some y → caps[i]? = some (some sv) → cl.lookup y = some c → ∃ u v, s.heap.IsCell c (some u) ∧ RelV v u ∧ (match sv with | .pv p => RepV K F p v | sv => False)) :
    ∃ cs : L2.St, cs.length = fr.length ∧ (∀ (i : Nat) (y : Str) (c : Addr) (v : V), fr[i]? = some y → cs[i]? = some (some v) → cl.lookup y = some c → ∃ u, s.heap.IsCell c (some u) ∧ RelV v u) ∧
      ∀ (i : Nat) (sv : SV), (caps[i]?).join = some sv → ∃ (v : V) (p : PV), sv = .pv p ∧ cs[i]? = some (some v) ∧ RepV K F p v := by
  induction fr generalizing caps with
  | nil =>
    cases caps with
    | nil => exact ⟨[], rfl, fun i y c v h => by simp at h, fun i sv h => by simp at h⟩
    | cons _ _ => simp at hfr
  | cons x fr ih =>
    cases caps with
    | nil => simp at hfr
    | cons k caps =>
      obtain ⟨cs, l, h1, h2⟩ := ih (by simpa using hfr) (fun y hy => hfree y (List.mem_cons_of_mem _ hy)) (fun i y c sv e1 e2 e3 => cap (i + 1) y c sv (by simpa using e1) (by simpa using e2) e3)
      cases k with
      | none =>
        refine ⟨none :: cs, by simp [l], fun i y c v e1 e2 e3 => ?_, fun i sv h => ?_⟩
        · cases i with
          | zero => simp at e2
          | succ i => exact h1 i y c v (by simpa using e1) (by simpa using e2) e3
        · cases i with
          | zero => simp at h
          | succ i => simpa using h2 i sv (by simpa using h)
      | some sv =>
        obtain ⟨c, hc⟩ := hfree x List.mem_cons_self
        obtain ⟨u, v, a1, a2, a3⟩ := cap 0 x c sv rfl rfl hc
        refine ⟨some v :: cs, by simp [l], fun i y c' v' e1 e2 e3 => ?_, fun i sv' h => ?_⟩
        · cases i with
          | zero =>
            simp at e1 e2
            subst e1 e2
            rw [hc] at e3
            obtain rfl := Option.some.inj e3
            exact ⟨u, a1, a2⟩
          | succ i => exact h1 i y c' v' (by simpa using e1) (by simpa using e2) e3
        · cases i with
          | zero =>
            simp at h
            subst h
            cases sv with
            | pv p => exact ⟨v, p, rfl, rfl, a3⟩
            | fn f => exact a3.elim
            | clo _ _ _ => exact a3.elim
            | exc _ _ => exact a3.elim
          | succ i => simpa using h2 i sv' (by simpa using h)
/-- a lambda's body runs -/
theorem run_clo {E : L2.XK} {scope : Scope} {params : Arguments} {lbody : Expr} {f c' : Addr} {ps fr : List Str} {qual : Str} {cl : List (Str × Addr)} {pm ctv : Value} {us : List Value} {vs : List V} {cs : L2.St} {t : TE} {Q : VK} {oc : Obj} {vc : Array Value} {tc : Tok} (L : CloS params scope ps fr) (e0 : Env0 P w K mg base A outer s H) (hr : A.handled = none ∧ A.depth < recursionLimit) (hl : us.length = ps.length) (hc : cs.length = fr.length) (rv : Vals vs us)
    (obj : s.heap.get? f = some (PySem.W.kla_obj "<lambda>" qual params lbody scope cl pm c' ctv)) (hoc : s.heap.get? c' = some oc) (hod : oc.data = .fields vc) (hov : vc[1]? = some (.str qual tc))
    (hcl : ∀ y ∈ scope.names, y.2 = .free → ∃ c, cl.lookup y.1 = some c) (inj : ∀ x y c, cl.lookup x = some c → cl.lookup y = some c → x = y) (cell : ∀ y c, cl.lookup y = some c → H c = none ∧ ∃ v, s.heap.IsCell c v)
    (cap : ∀ (i : Nat) (y : Str) (c : Addr) (v : V), fr[i]? = some y → cs[i]? = some (some v) → cl.lookup y = some c → ∃ u, s.heap.IsCell c (some u) ∧ RelV v u)
    (hb : PE (cloCx P w K mg base (ps ++ fr) qual A outer s H E scope f c' cl) lbody t) (ht : t (vs.map some ++ cs) H Q) :
    codeAny (model P w) A (.call (.ref f) ⟨us, []⟩) (CR (L2.CX P w) outer P w H s Q E) s := by
  have lim : s.heap.NoLimit := e0.mod.nolimit.keeps fun b o e => (e0.bs b o e).1
  refine PySem.W.kla_callFunE hr.2 obj rfl L.co L.gen rfl ⟨c', oc, vc, tc, rfl, hoc, hod, hov⟩ ?_
  have eb : bindArgs (PySem.W.kla_fn "<lambda>" qual params lbody scope cl pm (.ref c') ctv) ⟨us, []⟩ = pure (ps.zip us) := by
    have nd : ps.Nodup := L.nd.sublist (List.sublist_append_left _ _)
    have eL : ∀ (i : Nat) (x : Str) (v : Value), ps[i]? = some x → us[i]? = some v → ((ps.zip us ++ []).lookup x) = some v := fun i x v h1 h2 => by
      rw [List.append_nil]; exact lookup_zip nd h1 h2
    rw [bind_simple (kws := []) L.simple rfl (by omega) (fun kv h => by cases h) List.nodup_nil (fun n hn => ?_), filterMap_zip hl eL]
    obtain ⟨i, hi⟩ := List.mem_iff_getElem?.mp hn
    have hil := (List.getElem?_eq_some_iff.mp hi).1
    rw [eL i n _ hi (List.getElem?_eq_getElem (by rw [hl]; exact hil))]; rfl
  rw [eb]
  refine wpAny_pure (wpAny_newFunctionEnv (fun y hy => L.own y hy) (fun y hy => L.par y.1 (List.of_mem_zip hy).1) (fun h₁ hns hsb => ⟨lim.fresh _ hsb, ?_⟩) L.kind)
  show codeAny _ _ (.expr lbody (cloEnv qual scope s.heap.objs.size f c' cl)) _ _
  have kp : ∀ b o, s.heap.get? b = some o → h₁.get? b = some o := fun b o e => hsb.extBut b o (Nat.ne_of_lt (Heap.lt_size e)) (Heap.get?_push_of_some _ e)
  have J : Inv (cloCx P w K mg base (ps ++ fr) qual A outer s H E scope f c' cl) [] (vs.map some ++ cs) H { s with heap := h₁, toks := s.toks + (ps.zip us).length } :=
    clo_start L e0 hr.1 hl hc rv hcl inj cell cap hns kp
  refine PySem.W.kla_codeExpr (wpAny_mono (hb.run [] _ _ H Q J ht) (fun v s' hq => ?_) fun e s' hq => hq)
  obtain ⟨w', H', J', rv, q⟩ := hq
  exact ⟨w', H', J'.os, J'.bare, J'.base, J'.hok, rv, q⟩
end
end IB
end

section
set_option Elab.async false
set_option linter.all false
set_option maxRecDepth 100000
set_option maxHeartbeats 4000000
/-! S10: calls in expressions. -/
namespace IB
open PySem PySem.Spec PyProof.Rows L2
section
variable {chk : Chk} {fA : String → Option Addr} {n : Nat} {X : Cx} {C : Co}
/-- lambdas may be made here -/
structure LamOk (X : Cx) (C : Co) : Prop where
  ex : ∃ c P, LamX.TabB X.base X.mg c P ∧ X.env.code = .ref c ∧ (P, X.env.qual ++ "<lambda>") ∈ C.cA.tab ∧ ∀ p ∈ C.cA.tab, p.1 = P → p.2 = X.env.qual ++ "<lambda>"
theorem clo_mem {X : Cx} {scope : Scope} (has : ∀ y ∈ scope.names, y.2 = .free → ∃ c, X.env.cells.lookup y.1 = some c) {y : Str} {c : Addr} (e : (cloFrom X.env.cells scope.names []).lookup y = some c) : X.env.cells.lookup y = some c := by
  rcases cloFrom_mem (PySem.mem_of_lookup e) with hm | ⟨h1, h2⟩
  · cases hm
  · obtain ⟨c1, hc⟩ := has _ h1 rfl
    have hc : X.env.cells.lookup y = some c1 := hc
    have e2 : c = c1 := by
      rw [h2, hc] <;> rfl
    rw [e2]
    exact hc
theorem a_lam {params : Arguments} {lbody : Expr} {scope : Scope} {lpos : Pos} {np m : Nat} {caps : List Nat} {cbody : CE} {ps fr : List Str} (L : LamOk X C) (ck : chk m ps fr params scope lbody cbody = true) (hps : ps.length = np) (hfr : fr.length = caps.length)
    (hcap : ∀ (i j : Nat), caps[i]? = some j → X.N[j]? = fr[i]?) (hsc : ∀ y ∈ scope.names, y.2 = .free → X.env.scope.names.lookup y.1 = some .cell ∨ X.env.scope.names.lookup y.1 = some .free) (frv : ∀ y ∈ fr, X.env.scope.names.lookup y = some .cell ∨ X.env.scope.names.lookup y = some .free) (hdef : ∀ env, defaultsOf params env = ([], [])) :
    PosR chk fA X C [.Lambda params lbody scope lpos] (.lam np caps cbody .nil) .nil := by
  refine ⟨fun _ _ => rfl, fun pos pins s σ H R F env M QQ XX Y I t st w kx k => ?_⟩
  obtain ⟨c, P, TB, hcode, hm, hu⟩ := L.ex
  have has : ∀ y ∈ scope.names, y.2 = .free → ∃ c, X.env.cells.lookup y.1 = some c := fun y hy e => by
    rcases hsc y hy e with q | q
    · exact I.ok.has _ (.inl q)
    · exact I.ok.has _ (.inr q)
  rw [back_false (fun z p q => by cases q)]
  have w : QQ ⟨[.clo np cbody (captured env caps)], []⟩ M := w
  refine Calls.spliced_cons (LamX.lam_make2 I TB hcode hm hu t.tab (hdef _) has fun f c' pm ctv H1 s' I1 eN T1 hobj hf hfr' hco => Calls.spliced_nil ?_)
  obtain ⟨F1, s1, t1, hF⟩ := t.lam eN T1 hco
  have cm : ∀ {y : Str} {c : Addr}, (cloFrom X.env.cells scope.names []).lookup y = some c → X.env.cells.lookup y = some c := clo_mem has
  refine k [.ref f] [.ref f] [.clo np cbody (captured env caps)] s' H1 F1 M I1 (.cons rfl .nil) s1 t1 (.cons ?_ .nil) (.inr rfl) w
  refine FnV.clo hobj hf hfr' hF ck hps (by rw [hfr]; unfold captured; rw [List.length_map]) (fun y hy e => ?_) (fun x y c e1 e2 => I.ok.inj x y c (cm e1) (cm e2)) (fun y c e => ⟨I1.freeC y c (cm e), I1.cell y c (cm e)⟩) (fun i y c sv e1 e2 e3 => ?_)
  · have hy : (y.1, NameKind.free) ∈ scope.names := by rw [← e]; exact hy
    exact L2.mem_lookup (cloFrom_has (cells := X.env.cells) (acc := []) hy)
  · unfold captured at e2
    rw [List.getElem?_map] at e2
    cases ej : caps[i]? with
    | none => rw [ej] at e2; cases e2
    | some j =>
      rw [ej] at e2
      have e2 : (match slot env j with | some (.pv v) => some (.pv v) | _ => none) = some sv := Option.some.inj e2
      cases es : slot env j with
      | none => rw [es] at e2; cases e2
      | some sv' =>
        rw [es] at e2
        cases sv' with
        | pv p =>
          obtain rfl := Option.some.inj e2
          obtain ⟨v, h1, h2⟩ := (st.sub s1).at_ j _ es
          obtain ⟨m', hn, hl⟩ := I1.loc
          have hN : X.N[j]? = some y := by rw [hcap i j ej, e1]
          have fy := frv y (List.mem_of_getElem? e1)
          obtain ⟨u, r, q⟩ := hl j y v hN h1 (.inr fy)
          rcases q with ⟨k', _⟩ | ⟨_, c3, e', z⟩
          · have k' : X.env.scope.names.lookup y = some .local := k'
            rcases fy with k2 | k2 <;> rw [k2] at k' <;> cases k'
          · rw [cm e3] at e'
            cases e'
            exact ⟨u, v, z, r, h2⟩
        | fn f => cases e2
        | clo _ _ _ => cases e2
        | exc _ _ => cases e2
theorem RepFL.noclo {s1 s2 : Shared} {H1 H2 R F : Hp} {o1 o2 : List PySem.Env} {K : Frag} : ∀ {svs : List SV} {vs : List V}, svs.all (fun sv => match sv with | .clo _ _ _ => false | _ => true) = true → RepFL chk K fA s1 H1 o1 R F svs vs → RepFL chk K fA s2 H2 o2 R F svs vs
  | [], [], _, _ => .nil
  | [], _ :: _, _, h => nomatch h
  | _ :: _, [], _, h => nomatch h
  | sv :: svs, v :: vs, hc, .cons a b => by
    rw [List.all_cons, Bool.and_eq_true] at hc
    refine .cons ?_ (RepFL.noclo hc.2 b)
    cases sv with
    | pv p => exact a
    | fn f => cases a with | fn h => exact FnV.fn h
    | clo _ _ _ => exact absurd hc.1 (by simp)
    | exc _ _ => cases a
/-- what a call of a def in an expression comes to -/
theorem call_fin (fit : Fit chk fA n X C) {sv : SV} {svs : List SV} {ks : List (String × PV)} {M : MM} {QQ : PV → MM → Prop} {XX : XK} {pins : List (Addr × Obj)} {s : Shared} {σ : L2.St} {H R F : Hp} {v : V} {u : Value} {vs : List V} {us : List Value} {zs : List (Str × V)} {ws : List Value} {Q : VK} (w : C.call sv ⟨svs, ks⟩ M QQ XX) (I : Inv X pins σ H s) (t : Sto C.K C.cA R F H M)
    (rf : FnV chk C.K fA s H X.stack R F sv v) (ru : RelV v u) (ra : RepFL chk C.K fA s H X.stack R F svs vs) (rv : Vals vs us) (rk : RepFs C.K F ks zs) (rw_ : Vals (zs.map (·.2)) ws) (k : Kont C.K C.cA R F QQ Q) (kx : KontX C R F σ XX) :
    wpAny (model X.prog X.w) X.A (call u us ((zs.map (·.1)).zip ws)) (EP X pins σ Q) X.xe s := by
  have e0 := I.env0
  rw [fit.hK] at e0
  refine wpAny_call (codeAny_mono (fit.call sv ⟨svs, ks⟩ M QQ XX w X.A X.stack s H R F v u vs us zs ws Q (fun cls d H' => C.W cls d σ H') fit.room e0 t rf ru ra rv rk rw_ k fun F' H' M' cn fs Cc dd gs s' t' h1 h2 h3 h4 => kx F' H' M' cn fs _ _ s' t' ⟨⟨Cc, dd, gs, h1, rfl, rfl, h2, h3⟩⟩ h4) fun r s2 hq => ?_)
  cases r with
  | error e => exact fit.tk e s2 (L2.XE.of_call I (fun _ _ _ h => h) hq)
  | ok fl =>
    cases fl with
    | ret u => exact I.after hq
    | next => exact False.elim hq
    | brk => exact False.elim hq
    | cont => exact False.elim hq
/-- the arguments, then the call -/
theorem args_fin (fit : Fit chk fA n X C) {sv : SV} {v : V} {u : Value} {es : List Expr} {kws : List Keyword} {as rest : CAs} {pos : Pos} {pins : List (Addr × Obj)} {s : Shared} {σ : L2.St} {H R F : Hp} {env : Env} {M : MM} {QQ : PV → MM → Prop} {XX : XK} {Q : VK} (ha : PosR chk fA X C es as rest) (hk : KwsR X C kws rest)
    (rf : ∀ {H' F' : Hp} {s' : Shared}, Inv X pins σ H' s' → Sub F F' → FnV chk C.K fA s' H' X.stack R F' sv v) (ru : RelV v u) (I : Inv X pins σ H s) (t : Sto C.K C.cA R F H M) (st : StS C R F σ env) (w : wA C.G C.call as env M (fun as M1 => C.call sv as M1 QQ XX) XX) (k : Kont C.K C.cA R F QQ Q) (kx : KontX C R F σ XX) {Fu : Shared → Prop} (hFu : ∀ {H' : Hp} {s' : Shared}, Inv X pins σ H' s' → Fu s') :
    wpAny (model X.prog X.w) X.A (spliced (backTo pos (starEach es X.env))) (fun vs s₁ => wpAny (model X.prog X.w) X.A (evalAll ((backToKw pos (keywordEach kws X.env)).map (·.2)))
      (fun ks s₂ => Fu s₂ ∧ wpAny (model X.prog X.w) X.A (call u ([] ++ vs) (((backToKw pos (keywordEach kws X.env)).filterMap (·.1)).zip ks)) (EP X pins σ Q) X.xe s₂) X.xe s₁) X.xe s := by
  refine ha.run pos pins s σ H R F env M _ XX _ I t st w kx fun us vs svs s1 H1 F1 M1 I1 rv s1' t1 ra nc w1 => ?_
  refine hk.run pos pins s1 σ H1 R F1 env M1 _ XX _ I1 t1 (st.sub s1') w1 (kx.sub s1') fun ws zs ks s2 H2 F2 M2 I2 rw_ s2' t2 rk en same w2 => ?_
  refine ⟨hFu I2, ?_⟩
  rw [en]
  have w2 : C.call sv ⟨svs ++ [], ks⟩ M2 QQ XX := w2
  rw [List.append_nil] at w2
  have ra2 : RepFL chk C.K fA s2 H2 X.stack R F2 svs vs := by
    rcases nc with nc | nc
    · exact Paired.mapP (RepFL.noclo nc ra) fun sv v q => RepF.sub s2' q
    · obtain ⟨e1, e2, e3⟩ := same nc
      rw [e1, e2, e3]
      exact ra
  exact call_fin fit w2 I2 t2 (rf I2 (s1'.trans s2')) ru ra2 rv rk rw_ (k.sub (s1'.trans s2')) (kx.sub (s1'.trans s2'))
/-- f(e, .., k = v, ..) -/
theorem g_call {x : Str} {name : String} {f : Addr} {e : Expr} {es : List Expr} {kws : List Keyword} {as rest : CAs} {p pos : Pos} (fit : Fit chk fA n X C) (hg : L2.Gl X x) (hm : X.mg x = some (.ref f)) (hf : fA name = some f) (hd : (x == ("__debug__" : Str)) = false) (hs : ∀ z p, e ≠ .Starred z p) (ha : PosR chk fA X C (e :: es) as rest) (hk : KwsR X C kws rest) :
    PE X (.Call (.Name x p) (e :: es) kws pos) (TX C (.call name as)) := by
  refine ⟨fun pins s σ H Q I ⟨R, F, env, M, QQ, XX, t, st, w, k, kx⟩ => ?_⟩
  refine wpAny_Call_Name_kw (ld_glob I hg hm ?_ hd)
  have kp := fit.fn name f hf
  rw [← fit.hK] at kp
  refine PySem.W.callWith_KW (h₀ := X.base) I.ok.mod.kin kp (hk.some_ _ _) ?_ (by rw [ha.pl, hk.none_]; rfl) (star_false hs _)
  exact args_fin fit ha hk (fun _ _ => FnV.fn hf) rfl I t st w k kx fun I' => I'.kIn
/-- f(k = v, ..) -/
theorem g_call0 {x : Str} {name : String} {f : Addr} {kws : List Keyword} {as : CAs} {p pos : Pos} (fit : Fit chk fA n X C) (hg : L2.Gl X x) (hm : X.mg x = some (.ref f)) (hf : fA name = some f) (hd : (x == ("__debug__" : Str)) = false) (hk : KwsR X C kws as) :
    PE X (.Call (.Name x p) [] kws pos) (TX C (.call name as)) := by
  refine ⟨fun pins s σ H Q I ⟨R, F, env, M, QQ, XX, t, st, w, k, kx⟩ => ?_⟩
  refine wpAny_Call_Name_kw (ld_glob I hg hm ?_ hd)
  have kp := fit.fn name f hf
  rw [← fit.hK] at kp
  refine PySem.W.callWith_KW0 (h₀ := X.base) I.ok.mod.kin kp (hk.some_ _ _) ?_ (by rw [hk.none_]; rfl)
  refine hk.run pos pins s σ H R F env M _ XX _ I t st w kx fun ws zs ks s2 H2 F2 M2 I2 rw_ s2' t2 rk en same w2 => ⟨I2.kIn, ?_⟩
  rw [en]
  exact call_fin (us := []) (vs := []) fit w2 I2 t2 (FnV.fn hf) rfl .nil .nil rk rw_ (k.sub s2') (kx.sub s2')
/-- a(e, ..): what a slot holds -/
theorem g_calv {x : Str} {i : Nat} {es : List Expr} {as : CAs} {p pos : Pos} (fit : Fit chk fA n X C) (hN : X.N[i]? = some x) (hv : Vis X.env.scope x) (hd : (x == ("__debug__" : Str)) = false) (hcd : (x == ("__classdict__" : Str)) = false) (hs : ∀ e r z p, es = e :: r → e ≠ .Starred z p) (ha : PosR chk fA X C es as .nil) (h0 : es = [] → as = .nil) :
    PE X (.Call (.Name x p) es [] pos) (TX C (.calv i as)) := by
  refine ⟨fun pins s σ H Q I ⟨R, F, env, M, QQ, XX, t, st, w, k, kx⟩ => ?_⟩
  have w : (match slot env i with
    | some (.fn f) => wA C.G C.call as env M (fun as M1 => C.call (.fn f) as M1 QQ XX) XX
    | some (.clo np body caps) => wA C.G C.call as env M (fun as M1 => C.call (.clo np body caps) as M1 QQ XX) XX
    | _ => False) := w
  have main : ∀ sv, slot env i = some sv → (∀ {R F : Hp} {v : V}, RepS C R F sv v → C.Cl R F sv v) → wA C.G C.call as env M (fun as M1 => C.call sv as M1 QQ XX) XX → wpAny (model X.prog X.w) X.A (eval (.Call (.Name x p) es [] pos) X.env) (EP X pins σ Q) X.xe s := by
    intro sv q hcl w
    obtain ⟨v, h1, h2⟩ := st.at_ i _ q
    have h2' := hcl h2
    refine wpAny_Call_Name_kw (thn ((pe_var (pos := p) hN hv hd hcd).run pins s σ H (fun v' H1 => v' = v ∧ H1 = H) I ⟨v, h1, rfl, rfl⟩) fun u s1 ⟨v', H1, I1, r1, q1⟩ => ?_)
    obtain ⟨rfl, rfl⟩ := q1
    have fv := fit.cl h2' I1
    have rf : ∀ {H' F' : Hp} {s' : Shared}, Inv X pins σ H' s' → Sub F F' → FnV chk C.K fA s' H' X.stack R F' sv v' := fun I' s' => fit.cl (C.mono _ _ _ _ _ s' h2') I'
    have fin : ∀ {Fu : Shared → Prop}, (∀ {H' : Hp} {s' : Shared}, Inv X pins σ H' s' → Fu s') → wpAny (model X.prog X.w) X.A (spliced (backTo pos (starEach es X.env))) (fun vs s₁ => Fu s₁ ∧ wpAny (model X.prog X.w) X.A (call u ([] ++ vs)) (EP X pins σ Q) X.xe s₁) X.xe s1 := fun {Fu} hFu => by
      refine ha.run pos pins s1 σ _ R F env M _ XX _ I1 t st w kx fun us vs svs s2 H2 F2 M2 I2 rv s2' t2 ra nc w1 => ?_
      refine ⟨hFu I2, ?_⟩
      have w1 : C.call sv ⟨svs ++ [], []⟩ M2 QQ XX := w1
      rw [List.append_nil] at w1
      exact call_fin (ks := []) (zs := []) (ws := []) fit w1 I2 t2 (rf I2 s2') r1 ra rv .nil .nil (k.sub s2') (kx.sub s2')
    have fin0 : es = [] → wpAny (model X.prog X.w) X.A (call u ([] ++ [])) (EP X pins σ Q) X.xe s1 := fun z => by
      rw [h0 z] at w
      exact call_fin (us := []) (vs := []) (svs := []) (ks := []) (zs := []) (ws := []) fit w I1 t fv r1 .nil .nil .nil .nil k kx
    cases fv with
    | fn hf =>
      have kp := fit.fn _ _ hf
      rw [← fit.hK] at kp
      have r1 : u = _ := r1
      subst r1
      cases es with
      | nil => exact PySem.W.callWith_K0 I1.kIn kp (fin0 rfl)
      | cons e es => exact PySem.W.callWith_K (h₀ := X.base) I1.ok.mod.kin kp (fin fun I' => I'.kIn) (star_false (fun z p => hs e es z p rfl) _) (by have := ha.pl pos X.env; rw [star_false (fun z p => hs e es z p rfl)] at this; exact this)
    | clo obj hf ho code ck hps hfr hcl inj cell cap =>
      have r1 : u = _ := r1
      subst r1
      cases es with
      | nil => exact PySem.W.callWith_F0 ⟨_, _, _, _, obj⟩ (fin0 rfl)
      | cons e es =>
        refine PySem.W.callWith_F ⟨_, _, _, _, obj⟩ (fin fun I' => ?_) (star_false (fun z p => hs e es z p rfl) _) (by have := ha.pl pos X.env; rw [star_false (fun z p => hs e es z p rfl)] at this; exact this)
        have q := fit.cl h2' I'
        cases q with
        | clo obj hf ho code ck hps hfr hcl inj cell cap => exact ⟨_, _, _, _, obj⟩
  cases q : slot env i with
  | none => rw [q] at w; exact w.elim
  | some sv =>
    rw [q] at w
    cases sv with
    | pv p => exact w.elim
    | fn f => exact main _ q (fun h => h) w
    | clo _ _ _ => exact main _ q (fun h => h) w
    | exc _ _ => exact w.elim
end
end IB
end

section
set_option Elab.async false
set_option linter.all false
set_option maxRecDepth 100000
set_option maxHeartbeats 4000000
/-! I1: own things: attributes, methods, making. -/
namespace IB
open PySem PySem.Spec PyProof.Rows L2
/-- what is known of an own class -/
structure ClsT (K : Frag) (fA : String → Option Addr) (C : Addr) (cc : CCls) : Prop where
  cls : Cls K C
  init : ∀ d, cc.init = some d → ∃ f, fA d = some f ∧ Mk K C f
  prop : ∀ f d, cc.props.lookup f = some d → ∃ p g, fA d = some g ∧ PropOf K C (Str.ofString f) p g
  meth : ∀ m d, cc.meths.lookup m = some d → ∃ g, fA d = some g ∧ Meth K C (Str.ofString m) g
  fld : ∀ f, cc.flds.contains f = true → NoAttr K C (Str.ofString f)
def ClsOk (K : Frag) (cA : Tn) (fA : String → Option Addr) (G : Gl) : Prop := ∀ c cc, G.clss c = some cc → ∃ D, cA.cls c = some D ∧ ClsT K fA D cc
theorem RepFs.lookup {K : Frag} {F : Hp} {f : String} : ∀ {fs : List (String × PV)} {gs : List (Str × V)}, RepFs K F fs gs → match fs.lookup f with | some p => ∃ v, gs.lookup (Str.ofString f) = some v ∧ RepV K F p v | none => gs.lookup (Str.ofString f) = none
  | [], _, h => by cases h; rfl
  | (k, x) :: fs, _, h => by
    cases h with
    | cons a b =>
      rename_i q qs
      obtain ⟨k', v⟩ := q
      obtain ⟨e, r⟩ := a
      dsimp only at e r
      subst e
      rw [List.lookup_cons, List.lookup_cons, beq_ofString]
      cases hk : f == k with
      | true => exact ⟨v, rfl, r⟩
      | false => exact RepFs.lookup b
theorem RepFs.put {K : Frag} {F : Hp} {f : String} {p : PV} {v : V} (r : RepV K F p v) : ∀ {fs : List (String × PV)} {gs : List (Str × V)}, RepFs K F fs gs → RepFs K F (IB.putF f p fs) (L2.putF (Str.ofString f) v gs)
  | [], _, h => by cases h; exact .cons ⟨rfl, r⟩ .nil
  | (k, x) :: fs, _, h => by
    cases h with
    | cons a b =>
      rename_i q qs
      obtain ⟨k', w⟩ := q
      obtain ⟨e, r'⟩ := a
      dsimp only at e r'
      subst e
      unfold IB.putF L2.putF
      by_cases c : k = f
      · subst c; rw [if_pos rfl, if_pos rfl]; exact .cons ⟨rfl, r⟩ b
      · rw [if_neg c, if_neg (fun z => c (ofString_inj z))]; exact .cons ⟨rfl, r'⟩ (RepFs.put r b)
section
variable {chk : Chk} {fA : String → Option Addr} {n : Nat} {X : Cx} {C : Co}
theorem RepO.insE {K : Frag} {cA : Tn} {F H : Hp} {c : String} {fs : List (String × PV)} {a : Addr} (h : RepO K cA F H (.ins c fs) a) : ∃ D dx gs, cA.cls c = some D ∧ H a = some (.ins D dx gs) ∧ RepFs K F fs gs := by
  cases h with
  | ins c h r => exact ⟨_, _, _, c, h, r⟩
/-- what an expression gives, in both worlds -/
abbrev Got (C : Co) (R F : Hp) (QQ : PV → MM → Prop) : VK := fun v H1 => ∃ F1 M1 p, Sub F F1 ∧ Sto C.K C.cA R F1 H1 M1 ∧ RepV C.K F1 p v ∧ QQ p M1
theorem got {R F : Hp} {QQ : PV → MM → Prop} : Kont C.K C.cA R F QQ (Got C R F QQ) := fun F1 H1 M1 p v s1 t1 r1 q1 => ⟨F1, M1, p, s1, t1, r1, q1⟩
theorem match_insE {M : MM} {p : PV} {Y : Nat → String → List (String × PV) → Prop} (w : match p with | .ref a => (match M a with | some (.ins c fs) => Y a c fs | _ => False) | _ => False) : ∃ a c fs, p = .ref a ∧ M a = some (.ins c fs) ∧ Y a c fs := by
  cases p with
  | ref a =>
    dsimp only at w
    cases h : M a with
    | none => rw [h] at w; exact w.elim
    | some o =>
      rw [h] at w
      cases o with
      | ins c fs => exact ⟨a, c, fs, rfl, h, w⟩
      | lst _ => exact w.elim
      | dic _ => exact w.elim
  | _ => exact w.elim
/-- e.f -/
theorem g_att {e : Expr} {ce : CE} {f : String} {y : Str} {pos : Pos} (hy : y = Str.ofString f) (fit : Fit chk fA n X C) (cl : ClsOk X.K C.cA fA C.G) (hb : attributeBase e y X.env (eval e X.env) = eval e X.env) (he : PE X e (TX C ce)) : PE X (.Attribute e y pos) (TX C (.att ce f)) := by
  subst hy
  refine ⟨fun pins s σ H Q I ⟨R, F, env, M, QQ, XX, t, st, w, k, kx⟩ => ?_⟩
  refine attr_of hb (thn (he.run pins s σ H _ I ⟨R, F, env, M, _, XX, t, st, w, got, kx⟩) fun u s1 ⟨x, H1, I1, rx, F1, M1, p, s1', t1, r1, w1⟩ => ?_)
  obtain ⟨a, c, fs, rfl, hm, w1⟩ := match_insE (Y := fun a c fs => match C.G.clss c with
        | some cc => (match cc.props.lookup f with
          | some d => C.call (.fn d) ⟨[.pv (.ref a)], []⟩ M1 QQ noX
          | none => cc.flds.contains f = true ∧ (match fs.lookup f with | some v => QQ v M1 | none => False))
        | none => False) w1
  cases r1
  obtain rfl : u = Value.ref a := rx
  obtain ⟨D, dx, gs, hD, hH, rf⟩ := (t1.mem a _ hm).2.insE
  cases hc : C.G.clss c with
  | none => rw [hc] at w1; exact w1.elim
  | some cc =>
    rw [hc] at w1
    dsimp only at w1
    obtain ⟨D', hD', T⟩ := cl c cc hc
    rw [hD] at hD'
    obtain rfl := Option.some.inj hD'
    cases hp : cc.props.lookup f with
    | none =>
      rw [hp] at w1
      obtain ⟨hf, w1⟩ := w1
      have hl := rf.lookup (f := f)
      cases hv : fs.lookup f with
      | none => rw [hv] at w1; exact w1.elim
      | some v =>
        rw [hv] at w1 hl
        obtain ⟨v', h1, h2⟩ := hl
        exact getattr_ok I1 hH T.cls (T.fld f hf) h1 fun u' s2 I2 ru => ⟨v', H1, I2, ru, k F1 H1 M1 v v' s1' t1 h2 w1⟩
    | some d =>
      rw [hp] at w1
      obtain ⟨pa, g, hg, po⟩ := T.prop f d hp
      obtain ⟨mA, O, _, _, _, _⟩ := ins_get I1.hok hH
      obtain ⟨od, J, _⟩ := O.look
      obtain ⟨rest, hrec⟩ := po.rec_
      have I2 := I1.tok (s1.toks + 1)
      have hcl : (PySem.W.clsIn X.K D).isSome = true := by
        obtain ⟨cd, hc, _⟩ := PySem.W.any_some T.cls.hd
        rw [hc]
        rfl
      have e0 := I2.env0.in1
      rw [fit.hK] at e0
      refine PySem.W.get_bind I1.kIn J (PySem.W.plainGet_of (T.cls.get (Str.ofString f))).1 (PySem.W.findObj_data hcl po.at_ po.get po.tak) (PySem.W.plainGet_of (T.cls.get (Str.ofString f))).2 (wpAny_call (PySem.W.prop_get (s := { s1 with toks := s1.toks + 1 }) I1.kIn hrec ?_))
      refine codeAny_mono (fit.call (.fn d) ⟨[.pv (.ref a)], []⟩ M1 QQ noX w1 X.A.in1 X.stack { s1 with toks := s1.toks + 1 } H1 R F1 (.ref g) (.ref g) [.ref a] [.ref a] [] [] Q (fun _ _ _ => False) fit.roomS.in1 e0 t1 (FnV.fn hg) rfl (.cons (show RepV C.K F1 (.ref a) (.ref a) from .ref a) .nil) (.cons rfl .nil) .nil .nil (k.sub s1') (fun _ _ _ _ _ _ _ _ _ _ _ _ _ z => z.elim)) fun r s' hq => ?_
      cases r with
      | error er =>
        obtain ⟨_, _, _, _, _, _, _, _, _, _, _, _, z⟩ := hq
        exact z.elim
      | ok fl =>
        cases fl with
        | ret u =>
          obtain ⟨v, H', I3, rv, q3⟩ := I2.after hq
          show wpAny _ _ (handedOut u) _ _ _
          rw [PySem.W.handedOut_of (handed_of rv)]
          exact wpAny_pure ⟨v, H', I3, rv, q3⟩
        | next => exact False.elim hq
        | brk => exact False.elim hq
        | cont => exact False.elim hq

/-- e.f = .. -/
theorem s_att {e : Expr} {ce : CE} {f : String} {y : Str} {pos : Pos} (hy : y = Str.ofString f) (cl : ClsOk X.K C.cA fA C.G) (he : PE X e (TX C ce)) : PG X (.Attribute e y pos) (TG' C (.att ce f)) := by
  subst hy
  refine ⟨fun pins s σ H v u Q I r ⟨R, F, env, M, p, QQ, XX, t, st, rp, w, k⟩ => ?_⟩
  have w : wE C.G C.call ce env M (fun o M1 => match o with
    | .ref a => (match M1 a with
      | some (.ins c fs) => ((C.G.clss c).any (·.flds.contains f) = true ∧ fs.length < 100) ∧ QQ env (IB.upd M1 a (.ins c (IB.putF f p fs)))
      | _ => False)
    | _ => False) noX := w
  show wpAny _ _ (do
    let ov ← holding [u] (eval e X.env)
    standAt pos.atName
    holding [u, ov] (setAttr ov (Str.ofString f) u)
    release [u, ov] []) _ _ _
  refine wpAny_bind (wpAny_holding (thn (he.run pins s σ H _ I ⟨R, F, env, M, _, noX, t, st, w, got, noX_ok⟩) fun ov s1 ⟨x, H1, I1, rx, F1, M1, po, s1', t1, r1, w1⟩ => ?_))
  obtain ⟨a, c, fs, rfl, hm, ⟨hf, hl⟩, w1⟩ := match_insE (Y := fun a c fs => ((C.G.clss c).any (·.flds.contains f) = true ∧ fs.length < 100) ∧ QQ env (IB.upd M1 a (.ins c (IB.putF f p fs)))) w1
  cases r1
  obtain rfl : ov = Value.ref a := rx
  obtain ⟨D, dx, gs, hD, hH, rf⟩ := (t1.mem a _ hm).2.insE
  cases hc : C.G.clss c with
  | none => rw [hc] at hf; cases hf
  | some cc =>
    rw [hc] at hf
    obtain ⟨D', hD', T⟩ := cl c cc hc
    rw [hD] at hD'
    obtain rfl := Option.some.inj hD'
    have hlen : gs.length = fs.length := (Paired.length rf).symm
    refine wpAny_bind (wpAny_standAt (wpAny_bind (wpAny_holding (setattr_ok I1 hH T.cls (T.fld f hf) (by omega) r fun s3 I3 => ?_))))
    refine wpAny_release ⟨σ, _, I3, k F1 _ _ σ env s1' (t1.write hm (.ins hD upd_same (RepFs.put (rp.sub s1') rf))) (st.sub s1') (Alike.refl) w1⟩
/-! ### methods -/
theorem methcall_of {M : Model} {A : Around} {E : Value → Shared → Prop} {s : Shared} {env : PySem.Env} {o : Expr} {m : Str} {apos pos : Pos} {es : List Expr} {kws : List Keyword} {Q : Value → Shared → Prop} (hbase : attributeBase o m env (eval o env) = eval o env)
    (hform : methodCallForm (es.length + kws.length) (backTo pos (starEach es env)) (backToKw pos (keywordEach kws env)) = true) (hline : (apos.endLine == pos.line) = true)
    (h : wpAny M A (eval o env) (fun ov s₁ => wpAny M A (getMethod ov m (do return (← importBound o env).getD true)) (fun fx s₂ => wpAny M A (callWith pos fx.1 fx.2 (backTo pos (starEach es env)) (backToKw pos (keywordEach kws env))) Q E s₂) E s₁) E s) :
    wpAny M A (eval (.Call (.Attribute o m apos) es kws pos) env) Q E s := by
  have hpos : methodCallPos true o env apos pos = pure pos := by unfold methodCallPos; rw [hline]; rfl
  have hcal : ∀ ov, calleeOf true o env ov m = getMethod ov m (do return (← importBound o env).getD true) := fun _ => rfl
  rw [arm_eval_Call, hbase]
  refine wpAny_bind (wpAny_mono h (fun ov s₁ h₁ => ?_) fun _ _ x => x)
  refine wpAny_bind (wpAny_standAt ?_)
  unfold methodCall
  rw [hform, hpos, hcal]
  refine wpAny_bind (wpAny_holding (wpAny_mono h₁ (fun fx s₂ h₂ => ?_) fun _ _ x => x))
  exact wpAny_bind (wpAny_pure h₂)
theorem form_of {es : List Expr} {kws : List Keyword} {as rest : CAs} {pos : Pos} (ha : PosR chk fA X C es as rest) (hk : KwsR X C kws rest) (hl : es.length + kws.length < 29) : methodCallForm (es.length + kws.length) (backTo pos (starEach es X.env)) (backToKw pos (keywordEach kws X.env)) = true := by
  unfold methodCallForm
  have h1 : (backTo pos (starEach es X.env)).all (!·.1) = true := by
    have := ha.pl pos X.env
    rw [List.any_eq_false] at this
    rw [List.all_eq_true]
    intro x hx
    have q := this x hx
    cases hb : x.1 with
    | true => exact absurd hb q
    | false => rfl
  have h2 : (backToKw pos (keywordEach kws X.env)).all (·.1.isSome) = true := hk.some_ _ _
  rw [h1, h2]
  simp only [Bool.true_and, decide_eq_true_eq]
  split <;> omega
/-- the arguments behind the thing itself, then the call -/
theorem args_fin2 (fit : Fit chk fA n X C) {sv : SV} {v : V} {u : Value} {a : Addr} {es : List Expr} {kws : List Keyword} {as rest : CAs} {pos : Pos} {pins : List (Addr × Obj)} {s : Shared} {σ : L2.St} {H R F : Hp} {env : Env} {M : MM} {QQ : PV → MM → Prop} {XX : XK} {Q : VK} (ha : PosR chk fA X C es as rest) (hk : KwsR X C kws rest)
    (rf : ∀ {H' F' : Hp} {s' : Shared}, Inv X pins σ H' s' → Sub F F' → FnV chk C.K fA s' H' X.stack R F' sv v) (ru : RelV v u) (I : Inv X pins σ H s) (t : Sto C.K C.cA R F H M) (st : StS C R F σ env) (w : wA C.G C.call as env M (fun as M1 => C.call sv ⟨.pv (.ref a) :: as.pos, as.kw⟩ M1 QQ XX) XX) (k : Kont C.K C.cA R F QQ Q) (kx : KontX C R F σ XX) {Fu : Shared → Prop} (hFu : ∀ {H' : Hp} {s' : Shared}, Inv X pins σ H' s' → Fu s') :
    wpAny (model X.prog X.w) X.A (spliced (backTo pos (starEach es X.env))) (fun vs s₁ => wpAny (model X.prog X.w) X.A (evalAll ((backToKw pos (keywordEach kws X.env)).map (·.2)))
      (fun ks s₂ => Fu s₂ ∧ wpAny (model X.prog X.w) X.A (call u ([.ref a] ++ vs) (((backToKw pos (keywordEach kws X.env)).filterMap (·.1)).zip ks)) (EP X pins σ Q) X.xe s₂) X.xe s₁) X.xe s := by
  refine ha.run pos pins s σ H R F env M _ XX _ I t st w kx fun us vs svs s1 H1 F1 M1 I1 rv s1' t1 ra nc w1 => ?_
  refine hk.run pos pins s1 σ H1 R F1 env M1 _ XX _ I1 t1 (st.sub s1') w1 (kx.sub s1') fun ws zs ks s2 H2 F2 M2 I2 rw_ s2' t2 rk en same w2 => ?_
  refine ⟨hFu I2, ?_⟩
  rw [en]
  have w2 : C.call sv ⟨.pv (.ref a) :: (svs ++ []), ks⟩ M2 QQ XX := w2
  rw [List.append_nil] at w2
  have ra2 : RepFL chk C.K fA s2 H2 X.stack R F2 svs vs := by
    rcases nc with nc | nc
    · exact Paired.mapP (RepFL.noclo nc ra) fun sv v q => RepF.sub s2' q
    · obtain ⟨e1, e2, e3⟩ := same nc
      rw [e1, e2, e3]
      exact ra
  exact call_fin (us := .ref a :: us) (vs := .ref a :: vs) fit w2 I2 t2 (rf I2 (s1'.trans s2')) ru (.cons (show RepV C.K F2 (.ref a) (.ref a) from .ref a) ra2) (.cons rfl rv) rk rw_ (k.sub (s1'.trans s2')) (kx.sub (s1'.trans s2'))
/-- o.m(e, .., k = v, ..) -/
theorem g_mth {o : Expr} {co : CE} {m : String} {y : Str} {es : List Expr} {kws : List Keyword} {as rest : CAs} {apos pos : Pos} (hy : y = Str.ofString m) (fit : Fit chk fA n X C) (cl : ClsOk X.K C.cA fA C.G) (hb : attributeBase o y X.env (eval o X.env) = eval o X.env) (hl : es.length + kws.length < 29) (hline : (apos.endLine == pos.line) = true) (he : PE X o (TX C co)) (hs : ∀ e r z p, es = e :: r → e ≠ .Starred z p) (ha : PosR chk fA X C es as rest) (hk : KwsR X C kws rest) (h0 : es = [] → as = rest) :
    PE X (.Call (.Attribute o y apos) es kws pos) (TX C (.mth co m as)) := by
  subst hy
  refine ⟨fun pins s σ H Q I ⟨R, F, env, M, QQ, XX, t, st, w, k, kx⟩ => ?_⟩
  refine methcall_of hb (form_of ha hk hl) hline (thn (he.run pins s σ H _ I ⟨R, F, env, M, _, XX, t, st, w, got, kx⟩) fun u s1 ⟨x, H1, I1, rx, F1, M1, p, s1', t1, r1, w1⟩ => ?_)
  obtain ⟨a, c, fs, rfl, hm, w1⟩ := match_insE (Y := fun a c fs => match (C.G.clss c).bind (·.meths.lookup m) with
        | some d => fs.lookup m = none ∧ wA C.G C.call as env M1 (fun as M2 => C.call (.fn d) ⟨.pv (.ref a) :: as.pos, as.kw⟩ M2 QQ XX) XX
        | none => False) w1
  cases r1
  obtain rfl : u = Value.ref a := rx
  obtain ⟨D, dx, gs, hD, hH, rf⟩ := (t1.mem a _ hm).2.insE
  cases hc : C.G.clss c with
  | none => rw [hc] at w1; exact w1.elim
  | some cc =>
    rw [hc, Option.bind_some] at w1
    obtain ⟨D', hD', T⟩ := cl c cc hc
    rw [hD] at hD'
    obtain rfl := Option.some.inj hD'
    cases hp : cc.meths.lookup m with
    | none => rw [hp] at w1; exact w1.elim
    | some d =>
      rw [hp] at w1
      obtain ⟨hn, w1⟩ := w1
      obtain ⟨g, hg, me⟩ := T.meth m d hp
      have hl' := rf.lookup (f := m)
      rw [hn] at hl'
      refine getmeth_ok I1 hH T.cls me hl' ?_
      show wpAny _ _ (callWith pos (.ref g) [.ref a] _ _) _ _ _
      cases es with
      | nil =>
        rw [h0 rfl] at w1
        refine PySem.W.callWith_KW0 (h₀ := X.base) I1.ok.mod.kin me.kp (hk.some_ _ _) ?_ (by rw [hk.none_]; rfl)
        refine hk.run pos pins s1 σ H1 R F1 env M1 _ XX _ I1 t1 (st.sub s1') w1 (kx.sub s1') fun ws zs ks s2 H2 F2 M2 I2 rw_ s2' t2 rk en same w2 => ⟨I2.kIn, ?_⟩
        rw [en]
        exact call_fin (us := [.ref a]) (vs := [.ref a]) fit w2 I2 t2 (FnV.fn hg) rfl (.cons (show RepV C.K F2 (.ref a) (.ref a) from .ref a) .nil) (.cons rfl .nil) rk rw_ (k.sub (s1'.trans s2')) (kx.sub (s1'.trans s2'))
      | cons e es =>
        refine PySem.W.callWith_KW (h₀ := X.base) I1.ok.mod.kin me.kp (hk.some_ _ _) ?_ (by rw [ha.pl, hk.none_]; rfl) (star_false (fun z p => hs e es z p rfl) _)
        exact args_fin2 fit ha hk (fun _ _ => FnV.fn hg) rfl I1 t1 (st.sub s1') w1 (k.sub s1') (kx.sub s1') fun I' => I'.kIn
/-- functions stay when the heap grows -/
theorem _root_.IB.FnV.grow {K : Frag} {s s' : Shared} {H H' R F : Hp} {outer : List PySem.Env} {sv : SV} {v : V} (h : FnV chk K fA s H outer R F sv v) (kp : ∀ b o, s.heap.get? b = some o → s'.heap.get? b = some o) (kn : ∀ b o, s.heap.get? b = some o → H b = none → H' b = none) : FnV chk K fA s' H' outer R F sv v := by
  cases h with
  | fn h => exact .fn h
  | clo obj hf ho code ck hps hfr hcl inj cell cap =>
    refine .clo (kp _ _ obj) (kn _ _ obj hf) ho code ck hps hfr hcl inj (fun y c e => ?_) fun i y c sv e1 e2 e3 => ?_
    · obtain ⟨h2, v, o, ho, hd⟩ := cell y c e
      exact ⟨kn _ _ ho h2, v, _, kp _ _ ho, hd⟩
    · obtain ⟨u, v, ⟨o, ho, hd⟩, h2, h3⟩ := cap i y c sv e1 e2 e3
      exact ⟨u, v, ⟨_, kp _ _ ho, hd⟩, h2, h3⟩
theorem RepFL.grow {K : Frag} {s s' : Shared} {H H' R F : Hp} {outer : List PySem.Env} {svs : List SV} {vs : List V} (h : RepFL chk K fA s H outer R F svs vs) (kp : ∀ b o, s.heap.get? b = some o → s'.heap.get? b = some o) (kn : ∀ b o, s.heap.get? b = some o → H b = none → H' b = none) : RepFL chk K fA s' H' outer R F svs vs :=
  Paired.mapP h fun sv v q => by
    cases sv with
    | pv p => exact q
    | fn f => exact FnV.grow q kp kn
    | clo _ _ _ => exact FnV.grow q kp kn
    | exc _ _ => cases q
/-! ### making -/
theorem made_fin (fit : Fit chk fA n X C) {c d : String} {D f : Addr} {svs : List SV} {ks : List (String × PV)} {M : MM} {QQ : PV → MM → Prop} {XX : XK} {pins : List (Addr × Obj)} {s : Shared} {σ : L2.St} {H R F : Hp} {vs : List V} {us : List Value} {zs : List (Str × V)} {ws : List Value} {Q : VK} (hD : C.cA.cls c = some D) (mk : Mk X.K D f) (hf : fA d = some f)
    (w : ∀ a, M a = none → C.call (.fn d) ⟨.pv (.ref a) :: svs, ks⟩ (IB.upd M a (.ins c [])) (fun v M2 => v = .non ∧ QQ (.ref a) M2) XX) (I : Inv X pins σ H s) (t : Sto C.K C.cA R F H M)
    (ra : RepFL chk C.K fA s H X.stack R F svs vs) (rv : Vals vs us) (rk : RepFs C.K F ks zs) (rw_ : Vals (zs.map (·.2)) ws) (k : Kont C.K C.cA R F QQ Q) (kx : KontX C R F σ XX) :
    wpAny (model X.prog X.w) X.A (call (.ref D) us ((zs.map (·.1)).zip ws)) (EP X pins σ Q) X.xe s := by
  have n1 : H (s.heap.objs.size + 1) = none := I.hok.fresh (Nat.le_succ _)
  have n0 : H s.heap.objs.size = none := I.hok.fresh (Nat.le_refl _)
  have ne : s.heap.objs.size + 1 ≠ s.heap.objs.size := Nat.succ_ne_self _
  have I2 := Inv.made (C := D) I
  have e0 := I2.env0.make D us ((zs.map (·.1)).zip ws)
  rw [fit.hK] at e0
  have t1 : Sto C.K C.cA R F (L2.upd H s.heap.objs.size (.own (s.heap.objs.size + 1))) M := t.more fun b o e => by rw [upd_ne (ne_of_none e n0)]; exact e
  have n2 : L2.upd H s.heap.objs.size (.own (s.heap.objs.size + 1)) (s.heap.objs.size + 1) = none := by rw [upd_ne ne]; exact n1
  have t2 := t1.alloc (o := .ins D s.heap.objs.size []) (mo := .ins c []) n2 (.ins hD upd_same .nil)
  have kp : ∀ b o, s.heap.get? b = some o → ((s.heap.push PySem.W.emptyDict).push (PySem.W.instObj D s.heap.objs.size)).get? b = some o := fun b o e => Heap.get?_push_of_some _ (Heap.get?_push_of_some _ e)
  have kn : ∀ b o, s.heap.get? b = some o → H b = none → L2.upd (L2.upd H s.heap.objs.size (.own (s.heap.objs.size + 1))) (s.heap.objs.size + 1) (.ins D s.heap.objs.size []) b = none := fun b o e n => by
    have lt := Heap.lt_size e
    rw [upd_ne (Nat.ne_of_lt (Nat.lt_succ_of_lt lt)), upd_ne (Nat.ne_of_lt lt)]; exact n
  refine wpAny_call (make_map (f := f) I.kIn mk.makes mk.init (beq_iff_eq.mp mk.fn) (codeAny_mono (fit.call (.fn d) ⟨.pv (.ref (s.heap.objs.size + 1)) :: svs, ks⟩ _ _ XX (w _ (t.fr n1).2) _ X.stack _ _ R F (.ref f) (.ref f) (.ref (s.heap.objs.size + 1) :: vs) (.ref (s.heap.objs.size + 1) :: us) zs ws (fun v H2 => v = .non ∧ Q (.ref (s.heap.objs.size + 1)) H2) (fun cls d H' => C.W cls d σ H') (fit.roomS.make D us _) e0 t2 (FnV.fn hf) rfl
    (.cons (show RepV C.K F (.ref _) (.ref _) from .ref _) (RepFL.grow ra kp kn)) (.cons rfl rv) rk rw_ (fun F' H' M' p v s' t' r' q => by
      obtain ⟨rfl, q⟩ := q
      cases r'
      exact ⟨rfl, k F' H' M' _ _ s' t' (.ref _) q⟩) fun F' H' M' cn fs Cc dd gs s' t' h1 h2 h3 h4 => kx F' H' M' cn fs _ _ s' t' ⟨⟨Cc, dd, gs, h1, rfl, rfl, h2, h3⟩⟩ h4) fun r s2 hq => ?_))
  cases r with
  | error e => exact fit.tk e s2 (by
      have := L2.XE.of_call I2 (fun _ _ _ h => h) hq
      exact this)
  | ok fl =>
    cases fl with
    | ret u =>
      obtain ⟨v, H', I3, rv', ev, q3⟩ := I2.after hq
      subst ev
      exact ⟨rv', ⟨V.ref (s.heap.objs.size + 1), H', I3, rfl, q3⟩⟩
    | next => exact False.elim hq
    | brk => exact False.elim hq
    | cont => exact False.elim hq
/-- C(e, .., k = v, ..) -/
theorem g_new {x : Str} {c : String} {D : Addr} {es : List Expr} {kws : List Keyword} {as rest : CAs} {p pos : Pos} (fit : Fit chk fA n X C) (cl : ClsOk X.K C.cA fA C.G) (hg : L2.Gl X x) (hm : X.mg x = some (.ref D)) (hD : C.cA.cls c = some D) (hd : (x == ("__debug__" : Str)) = false) (hs : ∀ e r z p, es = e :: r → e ≠ .Starred z p) (ha : PosR chk fA X C es as rest) (hk : KwsR X C kws rest) (h0 : es = [] → as = rest) :
    PE X (.Call (.Name x p) es kws pos) (TX C (.new c as)) := by
  refine ⟨fun pins s σ H Q I ⟨R, F, env, M, QQ, XX, t, st, w, k, kx⟩ => ?_⟩
  have w : (match (C.G.clss c).bind (·.init) with
    | some d => wA C.G C.call as env M (fun as M1 => ∀ a, M1 a = none → C.call (.fn d) ⟨.pv (.ref a) :: as.pos, as.kw⟩ (IB.upd M1 a (.ins c [])) (fun v M2 => v = .non ∧ QQ (.ref a) M2) XX) XX
    | none => False) := w
  cases hc : C.G.clss c with
  | none => rw [hc] at w; exact w.elim
  | some cc =>
    rw [hc, Option.bind_some] at w
    obtain ⟨D', hD', T⟩ := cl c cc hc
    rw [hD] at hD'
    obtain rfl := Option.some.inj hD'
    cases hi : cc.init with
    | none => rw [hi] at w; exact w.elim
    | some d =>
      rw [hi] at w
      obtain ⟨f, hf, mk⟩ := T.init d hi
      refine wpAny_Call_Name_kw (ld_glob I hg hm ?_ hd)
      cases es with
      | nil =>
        have w : wA C.G C.call as env M _ XX := w
        rw [h0 rfl] at w
        refine PySem.W.callWith_KW0 (h₀ := X.base) I.ok.mod.kin mk.kp (hk.some_ _ _) ?_ (by rw [hk.none_]; rfl)
        refine hk.run pos pins s σ H R F env M _ XX _ I t st w kx fun ws zs ks s2 H2 F2 M2 I2 rw_ s2' t2 rk en same w2 => ⟨I2.kIn, ?_⟩
        rw [en]
        exact made_fin (us := []) (vs := []) (svs := []) fit hD mk hf w2 I2 t2 .nil .nil rk rw_ (k.sub s2') (kx.sub s2')
      | cons e es =>
        refine PySem.W.callWith_KW (h₀ := X.base) I.ok.mod.kin mk.kp (hk.some_ _ _) ?_ (by rw [ha.pl, hk.none_]; rfl) (star_false (fun z p => hs e es z p rfl) _)
        refine ha.run pos pins s σ H R F env M _ XX _ I t st w kx fun us vs svs s1 H1 F1 M1 I1 rv s1' t1 ra nc w1 => ?_
        refine hk.run pos pins s1 σ H1 R F1 env M1 _ XX _ I1 t1 (st.sub s1') w1 (kx.sub s1') fun ws zs ks s2 H2 F2 M2 I2 rw_ s2' t2 rk en same w2 => ?_
        refine ⟨I2.kIn, ?_⟩
        rw [en]
        have ra2 : RepFL chk C.K fA s2 H2 X.stack R F2 svs vs := by
          rcases nc with nc | nc
          · exact Paired.mapP (RepFL.noclo nc ra) fun sv v q => RepF.sub s2' q
          · obtain ⟨e1, e2, e3⟩ := same nc
            rw [e1, e2, e3]
            exact ra
        refine made_fin (us := us) (vs := vs) (svs := svs) (QQ := QQ) (XX := XX) fit hD mk hf (fun a ha => ?_) I2 t2 ra2 rv rk rw_ (k.sub (s1'.trans s2')) (kx.sub (s1'.trans s2'))
        have := w2 a ha
        simpa only [List.append_nil] using this
/-! ### == of own things that have none of their own -/
def PlainEq (K : Frag) (D : Addr) : Prop := ∃ (nm q : Str) (N : Addr) (bs : List Value) (hdct : Bool) (sn : List Str) (sub : List Value) (ab : Bool) (col : Option Bool) (dd : Option Addr) (k0 k1 k2 k3 k5 : Option Value) (newId : String),
  K.lookup D = some (excClassObj nm q D N bs [.type "object"] hdct sn sub ab col dd k0 k1 k2 k3 k5 newId) ∧ PySem.W.nsOkIn K N = true ∧ PySem.W.nsIn K N "__eq__" = some none ∧ PySem.W.nsIn K N "__ne__" = some none
def PlainOk (K : Frag) (cA : Tn) (G : Gl) : Prop := ∀ c cc D, G.clss c = some cc → cc.plain = true → cA.cls c = some D → PlainEq K D
theorem cmp_inst {pins : List (Addr × Obj)} {σ : L2.St} {H : Hp} {s : Shared} {a D dx : Addr} {gs : List (Str × V)} (I : Inv X pins σ H s) (h : H a = some (.ins D dx gs)) (p : PlainEq X.K D) : s.heap.CmpInst a D [.type "object"] := by
  obtain ⟨nm, q, N, bs, hdct, sn, sub, ab, col, dd, k0, k1, k2, k3, k5, newId, e1, e2, e3, e4⟩ := p
  obtain ⟨_, _, _, ho, _⟩ := I.hok a _ h
  have kI := I.kIn
  exact ⟨_, nm, q, N, bs, hdct, sn, sub, ab, col, dd, k0, k1, k2, k3, k5, newId, _, ho, rfl, kI _ _ e1, .of_isNs (PySem.W.isNs_of_in kI e2), PySem.W.nsMap_none_of_in kI e2 e3, PySem.W.nsMap_none_of_in kI e2 e4⟩
def ideOp (ne : Bool) : CmpOp := if ne = true then .NotEq else .Eq
def rIde (C : Co) (ne : Bool) : R2 := fun v1 v2 H Q => ∃ a b D E dx ex gs hs, v1 = .ref a ∧ v2 = .ref b ∧ H a = some (.ins D dx gs) ∧ H b = some (.ins E ex hs) ∧ PlainEq C.K D ∧ PlainEq C.K E ∧ Q (.bl (if ne = true then !decide (a = b) else decide (a = b))) H
theorem ide_ok {ne : Bool} (hK : X.K = C.K) (hu : X.A.units + 65 < cLine) : OpR X (compareOp (ideOp ne)) (rIde C ne) := by
  rintro pins s σ H v1 v2 u1 u2 Q I r1 r2 ⟨a, b, D, E, dx, ex, gs, hs, rfl, rfl, h1, h2, p1, p2, q⟩
  obtain rfl : u1 = Value.ref a := r1
  obtain rfl : u2 = Value.ref b := r2
  rw [← hK] at p1 p2
  have c1 := cmp_inst I h1 p1
  have c2 := cmp_inst I h2 p2
  obtain ⟨hh, g, d, t, os⟩ := s
  unfold ideOp
  by_cases hab : a = b
  · subst hab
    cases ne with
    | false => exact compareOp_eq_same PySem.F.cmp_object c1 (by omega) ⟨.bl true, H, I, rfl, by simpa using q⟩
    | true => exact compareOp_ne_same PySem.F.cmp_object c1 (by omega) ⟨.bl false, H, I, rfl, by simpa using q⟩
  · cases ne with
    | false => exact compareOp_eq_other PySem.F.cmp_object PySem.F.cmp_object c1 c2 hab (by omega) ⟨.bl false, H, I, rfl, by simpa [hab] using q⟩
    | true => exact compareOp_ne_other PySem.F.cmp_object PySem.F.cmp_object c1 c2 hab (by omega) ⟨.bl true, H, I, rfl, by simpa [hab] using q⟩
theorem match_ins2 {M : MM} {x y : PV} {Y : Nat → Nat → String → String → Prop} (w : match x, y with
    | .ref p, .ref q => (match M p, M q with
      | some (.ins c _), some (.ins d _) => Y p q c d
      | _, _ => False)
    | _, _ => False) : ∃ p q c d fs gs, x = .ref p ∧ y = .ref q ∧ M p = some (.ins c fs) ∧ M q = some (.ins d gs) ∧ Y p q c d := by
  split at w
  · split at w
    · rename_i h1 h2
      exact ⟨_, _, _, _, _, _, rfl, rfl, h1, h2, w⟩
    · exact w.elim
  · exact w.elim
theorem any_cls {c : String} {G : Gl} (h : (G.clss c).any (·.plain) = true) : ∃ cc, G.clss c = some cc ∧ cc.plain = true := by
  cases e : G.clss c with
  | none => rw [e] at h; cases h
  | some cc => rw [e] at h; exact ⟨cc, rfl, h⟩
theorem ide_rd {ca cb : CE} {ne : Bool} {σ : L2.St} {H : Hp} {Q : VK} (po : PlainOk C.K C.cA C.G) (h : TX C (.ide ne ca cb) σ H Q) : TX C ca σ H fun v1 H1 => TX C cb σ H1 fun v2 H2 => rIde C ne v1 v2 H2 Q := by
  obtain ⟨R, F, env, M, QQ, XX, t, st, w, k, kx⟩ := h
  refine ⟨R, F, env, M, _, XX, t, st, w, fun F1 H1 M1 x v1 s1 t1 r1 w1 => ⟨R, F1, env, M1, _, XX, t1, st.sub s1, w1, fun F2 H2 M2 y v2 s2 t2 r2 w2 => ?_, kx.sub s1⟩, kx⟩
  obtain ⟨p, q, c, d, fs, gs, rfl, rfl, h1, h2, ⟨p1, p2⟩, w2⟩ := match_ins2 (Y := fun p q c d => ((C.G.clss c).any (·.plain) = true ∧ (C.G.clss d).any (·.plain) = true) ∧ QQ (.bl (if ne = true then !decide (p = q) else decide (p = q))) M2) w2
  cases r1
  cases r2
  obtain ⟨D, dx, gs', hD, hH, _⟩ := (t2.mem _ _ h1).2.insE
  obtain ⟨E, ex, gs'', hE, hH', _⟩ := (t2.mem _ _ h2).2.insE
  obtain ⟨cc, e1, e2⟩ := any_cls p1
  obtain ⟨dd, e3, e4⟩ := any_cls p2
  exact ⟨_, _, _, _, _, _, _, _, rfl, rfl, hH, hH', po _ _ _ e1 e2 hD, po _ _ _ e3 e4 hE, (k.sub (s1.trans s2)).at t2 (.bl _) w2⟩
theorem g_ide {a b : Expr} {ca cb : CE} {ne : Bool} {pos : Pos} (hK : X.K = C.K) (hu : X.A.units + 65 < cLine) (po : PlainOk C.K C.cA C.G) (hm : behindInMarks (ideOp ne) b = false) (ha : PE X a (TX C ca)) (hb : PE X b (TX C cb)) : PE X (.Compare a [ideOp ne] [b] pos) (TX C (.ide ne ca cb)) :=
  (pe_cmpR (ide_ok hK hu) ha hb hm).imp fun σ H Q h => ide_rd po h
theorem t_ide {a b : Expr} {ca cb : CE} {ne : Bool} {pos : Pos} (hK : X.K = C.K) (hu : X.A.units + 65 < cLine) (po : PlainOk C.K C.cA C.G) (hm : behindInMarks (ideOp ne) b = false) (ha : PE X a (TX C ca)) (hb : PE X b (TX C cb)) : PT X (.Compare a [ideOp ne] [b] pos) (TY C (.ide ne ca cb)) :=
  (pt_cmpR (ide_ok hK hu) ha hb hm).imp fun σ H Q h => ide_rd po (ty_tx h)
/-- list(e) -/
theorem g_ofl {e : Expr} {ce : CE} {x : Str} {p pos : Pos} (hx : x = Str.ofString "list") (hK : X.K = C.K) (hg : L2.Gl X x) (hm : X.mg x = none) (hs : ∀ z p, e ≠ .Starred z p) (he : PE X e (TX C ce)) : PE X (.Call (.Name x p) [e] [] pos) (TF C (.ofl ce)) := by
  subst hx
  refine (pe_callTy call_list_of hg hm (by decide +kernel) (pa_cons he pa_nil (star_false hs _)) (by decide) (by decide) (star_false hs _) (by rfl)).imp fun σ H Q ⟨R, F, env, M, QQ, XX, t, st, w, k, kx⟩ => ?_
  refine ⟨R, F, env, M, _, XX, t, st, w, fun F1 H1 M1 y v s1 t1 r1 q1 => ?_, kx⟩
  have q1 : (match itemsOf M1 y with | some xs => QQ xs M1 | none => False) := q1
  cases hi : itemsOf M1 y with
  | none => rw [hi] at q1; exact q1.elim
  | some xs =>
    rw [hi] at q1
    obtain ⟨a, vs, rfl, ra, hq⟩ := t1.items r1 hi
    refine ⟨a, vs, rfl, ?_, fun l hl => k F1 H1 M1 xs vs l s1 t1 ra q1 hl⟩
    rw [hK]
    rcases hq with hq | hq
    · exact .inl (.of hq)
    · exact .inr hq
end
end IB
end

section
set_option Elab.async false
set_option linter.all false
set_option maxRecDepth 100000
set_option maxHeartbeats 4000000
/-! X1: own exceptions over ValueError whose __init__ says super().__init__() and keeps what is given. -/
namespace IB
open PySem PySem.Spec PySem.Calls PyProof.Rows PySem.HandSPX L2
open PySem.W (Looks InstAt clsIn findIn subIn mroIn nsIn typeIn keepIn hasDictIn codeIn ks_superIn)
def xA (f : Str) (p1 p2 : Pos) : Arguments := { posonlyargs := [], args := [{ arg := "self", annotation := none, pos := p1 }, { arg := f, annotation := none, pos := p2 }], vararg := none, kwonlyargs := [], kw_defaults := [], kwarg := none, defaults := [] }
def xB (f : Str) (p1 p2 p3 p4 p5 q1 q2 q3 q4 : Pos) : List Stmt :=
  [.Expr (.Call (.Attribute (.Call (.Name "super" p1) [] [] p2) "__init__" p3) [] [] p4) p5, .Assign [.Attribute (.Name "self" q1) f q2] (.Name f q3) q4]
theorem kin_but {K : Frag} {h h' : Heap} {x : Addr} (X : K.In h) (hx : K.lookup x = none) (k : ∀ b o, b ≠ x → h.get? b = some o → h'.get? b = some o) : K.In h' := fun a o e => by
  refine k a o ?_ (X a o e)
  rintro rfl
  rw [hx] at e
  cases e
theorem mcall_eq {o : Expr} {name : Str} {apos pos : Pos} {args : List Expr} {kws : List Keyword} {env : PySem.Env} (hf : methodCallForm (args.length + kws.length) (backTo pos (starEach args env)) (backToKw pos (keywordEach kws env)) = true) (hl : (apos.endLine == pos.line) = true) :
    eval (.Call (.Attribute o name apos) args kws pos) env = (do
      let ov ← attributeBase o name env (eval o env)
      standAt apos.atName
      let (f, first) ← holding [ov] (getMethod ov name (do return (← importBound o env).getD true))
      callWith pos f first (backTo pos (starEach args env)) (backToKw pos (keywordEach kws env))) := by
  rw [arm_eval_Call]
  unfold methodCall
  rw [hf]
  have e1 : ∀ ov, calleeOf true o env ov name = getMethod ov name (do return (← importBound o env).getD true) := fun _ => rfl
  have e2 : methodCallPos true o env apos pos = pure pos := by unfold methodCallPos; rw [hl]; rfl
  simp only [e1, e2, pure_bind]
/-- what is written of such a class at C, of its __init__ at fI -/
structure ExTxt (prog : Program) (K : Frag) (C fI : Addr) (f : Str) : Prop where
  cls : ∃ nm q N bs bm sn sub ab col dd k0 k1 k2 k3 k5, K.lookup C = some (excClassObj nm q C N bs bm true sn sub ab col dd k0 k1 k2 k3 k5 "ValueError.__new__") ∧ refsVE bm = true
  sa : findIn K (.ref C) "__setattr__" = some (some (.builtin "object.__setattr__"))
  noN : findIn K (.ref C) f = some none
  iC : findIn K (.ref C) "__init__" = some (some (.ref fI))
  tC : typeIn K (.ref fI) = some (.type "function")
  kC : keepIn K (.ref C) = true
  exC : subIn K (.ref C) (.type "BaseException") = some true
  tyC : typeIn K (.ref C) = some (.type "type")
  vC : subIn K (.ref C) (.type "ValueError") = some true
  mC : mroIn K C (.ref C) = some true
  sup : ks_superIn K C C "__init__" = some (some (.builtin "ValueError.__init__"))
  any : nsIn K cStatics "thirdparty.any" = some none
  top : (prog.main.scope.names.lookup ("super" : Str)).isSome = false
  nself : f ≠ "self"
  ndbg : (f == ("__debug__" : Str)) = false
  fn : ∃ (oc : Value) (od : Option Addr) (doc pm : Value) (an : Option Addr) (cda cc : Addr) (ct : Value) (osl : Array (Option Value)) (qual : Str) (scope : Scope) (a1 a2 p1 p2 p3 p4 p5 q1 q2 q3 q4 : Pos) (ccl : Value) (cdd : Option Addr) (vs : Array Value) (ccs : Array (Option Value)) (file : Str) (tf : Tok) (cl : Value) (cld : Option Addr) (csl : Array (Option Value)), (p3.endLine == p4.line) = true ∧
    K.lookup fI = some ⟨oc, od, .func (PySem.W.ksFn "__init__" qual (xA f a1 a2) (xB f p1 p2 p3 p4 p5 q1 q2 q3 q4) scope .none .none doc pm an (.ref cda) ct cc), osl⟩ ∧ codeIn K (.ref cda) qual = true ∧
    scope.kind = .function ∧ scope.isCoroutine = false ∧ scope.isGenerator = false ∧ (∀ x ∈ scope.names, x.2 ≠ .cell) ∧ scope.names.lookup ("super" : Str) = some .globalImplicit ∧ scope.names.lookup ("__class__" : Str) = some .free ∧ scope.names.lookup ("self" : Str) = some .local ∧ scope.names.lookup f = some .local ∧
    K.lookup cda = some ⟨ccl, cdd, .fields vs, ccs⟩ ∧ vs[2]? = some (.str file tf) ∧ ((prog.main.file : Str) == file) = true ∧ K.lookup cc = some ⟨cl, cld, .cell (some (.ref C)), csl⟩
/-- what __init__ leaves of a fresh exception at x -/
structure XEnd (h h' : Heap) (x C dx : Addr) (f : Str) (v : Value) : Prop where
  keep : ∀ b o, b ≠ x → h.get? b = some o → h'.get? b = some o
  obj : ∃ t1 : Addr, h'.get? x = some { cls := .ref C, dict := some dx, data := .fields #[.ref t1, .none, .none, .none, .bool false, .none] }
  dbig : h.objs.size ≤ dx
  dne : dx ≠ x
  ns : h'.Ns1 dx (fun y => if y = f then some v else none)
theorem ld_loc {M : Model} {A : Around} {E : Value → Shared → Prop} {s : Shared} {env : PySem.Env} {m : Str → Option Value} {x : Str} {pos : Pos} {v : Value} {Q : Value → Shared → Prop} (hn : s.heap.Ns env.locals m) (hv : m x = some v) (hk : env.scope.kind = .function) (hl : env.kindOf x = some .local) (hd : (x == ("__debug__" : Str)) = false) (h : Q v s) :
    wpAny M A (eval (.Name x pos) env) Q E s := wpAny_Name (wpAny_loadName_local hk hl hn hv h) hd
section
variable {prog : Program} {w : World} {A : Around} {E : Value → Shared → Prop} {R : Result → Shared → Prop} {s : Shared} {K : Frag} {C fI : Addr} {f : Str}
theorem ex_init {mg mb : Str → Option Value} (T : ExTxt prog K C fI f) {x t0 : Addr} {v : Value} (X : K.In s.heap) (hlim : s.heap.NoLimit) (hg : s.heap.Ns mainGlobals mg) (hb : s.heap.Ns builtinsNs mb) (hms : mg "super" = none) (hmb : mb "super" = some (.type "super")) (hx : s.heap.get? x = some (excO C t0)) (hnx : K.lookup x = none) (hroom : A.depth < recursionLimit)
    (hq : ∀ h' tk dx, XEnd s.heap h' x C dx f v → R (.ok (.ret .none)) { s with heap := h', toks := tk }) :
    codeAny (model prog w) A (.call (.ref fI) ⟨[.ref x, v], []⟩) R s := by
  obtain ⟨oc, od, doc, pm, an, cda, cc, ct, osl, qual, scope, a1, a2, p1, p2, p3, p4, p5, q1, q2, q3, q4, ccl, cdd, vs, ccs, file, tf, cl, cld, csl, hline, ho, hcd, hk, hco, hge, hnc, hsu, hcl, hse, hfl, hcode, hvs, hfile, hcell⟩ := T.fn
  obtain ⟨nm, q, N, bs, bm, sn, sub, ab, col, dd, k0, k1, k2, k3, k5, hC, hbm⟩ := T.cls
  have hcls : clsIn K C = some { name := nm, bases := bs, mro := .ref C :: bm, ns := N, qualname := q, hasDict := true, slotNames := sn, subclasses := sub, abstract := ab, collection := col, hasDel := false } := by unfold clsIn; rw [hC] <;> rfl
  have hN : ∀ y, ([(("self" : Str), Value.ref x), (f, v)] : List (Str × Value)).reverse.lookup y = if y = f then some v else if y = "self" then some (.ref x) else none := fun y => by
    show List.lookup y [(f, v), (("self" : Str), Value.ref x)] = _
    by_cases h1 : y = f
    · subst h1; simp [List.lookup]
    · have e1 : (y == f) = false := by simpa using h1
      rw [if_neg h1, List.lookup_cons, e1]
      by_cases h2 : y = "self"
      · subst h2; simp [List.lookup]
      · have e2 : (y == ("self" : Str)) = false := by simpa using h2
        rw [if_neg h2]
        show (match y == ("self" : Str) with | true => some (Value.ref x) | false => none) = none
        rw [e2]
  refine ks_codeAny_call_defAt (binds := [("self", .ref x), (f, v)]) hroom (X _ _ ho) rfl hlim (PySem.W.codeRec_of X hcd) rfl (BindsTo.of_eq ?_) hnc (fun y hy => ?_) (fun h₁ hns k => ?_) hco hge hk
  · exact bind_simple (us := [.ref x, v]) (kws := []) (ps := [("self" : Str), f]) ⟨rfl, rfl, rfl, rfl, rfl⟩ rfl (Nat.le_refl 2) (fun _ h => by cases h) List.nodup_nil (fun n hn => by
      rw [List.append_nil]
      have ne : (f == ("self" : Str)) = false := by simpa using T.nself
      rcases List.mem_cons.mp hn with rfl | hn
      · simp [List.lookup]
      · rcases List.mem_cons.mp hn with rfl | hn
        · show (List.lookup n [(("self" : Str), Value.ref x), (n, v)]).isSome = true
          rw [List.lookup_cons, ne]
          simp [List.lookup]
        · cases hn) |>.trans (by
      congr 1
      have ne : (f == ("self" : Str)) = false := by simpa using T.nself
      show List.filterMap (fun n => (List.lookup n ([(("self" : Str), Value.ref x), (f, v)] ++ [])).map (n, ·)) [("self" : Str), f] = _
      rw [List.append_nil]
      have e1 : List.lookup ("self" : Str) [(("self" : Str), Value.ref x), (f, v)] = some (.ref x) := by simp [List.lookup]
      have e2 : List.lookup f [(("self" : Str), Value.ref x), (f, v)] = some v := by rw [List.lookup_cons, ne]; simp [List.lookup]
      simp only [List.filterMap_cons, List.filterMap_nil, e1, e2, Option.map_some])
  · rcases List.mem_cons.mp hy with rfl | hy
    · exact hse
    · rcases List.mem_cons.mp hy with rfl | hy
      · exact hfl
      · cases hy
  · show PySem.wpAt _ _ (.func (xB f p1 p2 p3 p4 p5 q1 q2 q3 q4) (PySem.W.ksEnv qual scope s.heap.objs.size fI (.ref cda) cc)) (execs (xB f p1 p2 p3 p4 p5 q1 q2 q3 q4) (PySem.W.ksEnv qual scope s.heap.objs.size fI (.ref cda) cc)) _ _ _
    have hx1 := k _ _ hx
    have X1 : K.In h₁ := X.keeps k
    have hL : s.heap.objs.size ≠ x := Nat.ne_of_gt (Heap.lt_size hx)
    have hlt : s.heap.objs.size < h₁.objs.size := hns.lt
    refine ks_wpAt_execs_cons (ks_wpAt_Expr_any (ks_wpAt_MethodCall ?_ (mcall_eq rfl hline)) (by show (scope.kind == .module && _) = false; rw [hk]; rfl))
    refine ks_wpAt_super_base (env := PySem.W.ksEnv qual scope s.heap.objs.size fI (.ref cda) cc) hsu hcl (by decide) rfl (X1 _ _ ho) rfl rfl rfl (X1 _ _ hcode) rfl hvs hfile T.top ?_
    refine PySem.W.ks_loadName_global hk hsu (loadGlobal_builtin (env := PySem.W.ksEnv qual scope s.heap.objs.size fI (.ref cda) cc) (hg.keeps k) hms (hb.keeps k) hmb ⟨rfl, ?_⟩)
    refine wpAny_loadName_free hk hcl rfl ⟨_, X1 _ _ hcell, rfl⟩ ?_
    refine wpAny_loadName_local hk hse hns (by rw [hN, if_neg (Ne.symm T.nself), if_pos rfl]) ?_
    obtain ⟨oD, hD1, hD2⟩ : ∃ oD, h₁.get? C = some oD ∧ oD.data = .cls { name := nm, bases := bs, mro := .ref C :: bm, ns := N, qualname := q, hasDict := true, slotNames := sn, subclasses := sub, abstract := ab, collection := col, hasDel := false } := ⟨_, X1 _ _ hC, rfl⟩
    refine ks_wpAny_isType_cls hD1 hD2 ⟨rfl, ?_⟩
    refine ks_wpAny_call_super hD1 hD2 hx1 rfl (fun c e => by cases e) (PySem.W.looks_mroIn X1 T.mC) (fun h2 e2 kk2 => ?_)
    have X2 : K.In h2 := X1.keeps kk2
    have I2 : InstAt h2 x (excO C t0) C none := ⟨kk2 _ _ hx1, rfl, rfl, trivial⟩
    have hI : Looks (model prog w) h2 (isInstance (.ref x) (.type "ValueError")) true := I2.type.andThen (PySem.W.looks_subIn X2 T.vC)
    have hsup := T.sup
    unfold ks_superIn at hsup
    rw [hcls, Option.bind_some] at hsup
    refine PySem.W.kxs_getMethod PySem.W.kxs_ValueError e2 (PySem.W.looks_opaque X2 T.any) (l₀ := .ref C :: bm) ?_ rfl X2 hsup hI (PySem.W.ks_ne X2 I2 hcls) (by decide) ?_
    · exact fun A Q E s k q => wpAny_bind ((PySem.W.looks_clsIn X2 hcls) A _ E s k (wpAny_pure q))
    have h2s : h₁.objs.size < h2.objs.size := Heap.lt_size e2
    have kp3 : ∀ b o, h2.get? b = some o → (h2.push (PySem.W.kxs_mw "ValueError.__init__" x)).get? b = some o := fun b o e => Heap.get?_push_of_some _ e
    have hu : (h2.push (PySem.W.kxs_mw "ValueError.__init__" x)).get? h2.objs.size = some (PySem.W.kxs_mw "ValueError.__init__" x) := Heap.get?_push_at rfl rfl
    refine PySem.W.kxs_callWith (i := "ValueError.__init__") (x := x) rfl (evalArgs_empty ⟨hu, ?_⟩)
    have hx3 := kp3 _ _ (kk2 _ _ hx1)
    -- the wrapper is called
    refine wpAny_call (codeAny_of_tree ?_)
    show wpAny _ _ (callAny (.ref h2.objs.size) ⟨[], []⟩) _ _ _
    simp only [callAny]
    refine wpAny_bind (wpAny_load hu ?_)
    simp only [PySem.W.kxs_mw, show (Value.type "method-wrapper" == Value.type "method" || Value.type "method-wrapper" == Value.type "builtin_function_or_method" || Value.type "method-wrapper" == Value.type "method-wrapper") = true by decide, if_true]
    refine PySem.W.KFB.if_so (by decide) ?_
    have hC3 := (X2.keeps kp3) _ _ hC
    refine wpAny_bind (PySem.W.check_bound_init F.excBase_ValueError.toExcCallFacts hC3 hx3 rfl ?_)
    refine wpAny_bind (wpAny_pure (wpAny_pure ?_))
    refine ⟨plainId_quiet F.excBase_ValueError.init.plain _, codeAny_builtin F.excBase_ValueError.initEntry ?_⟩
    refine PySem.W.exc_init_tree (cls := .ref C) (t0 := t0) (dv := none) (c2 := .none) (c3 := .none) (b4 := .bool false) hx3 (by show 0 ≤ _; exact Nat.zero_le _) (fun h4 k4 hx4 _ => ?_)
    -- self.f = given
    have X4 : K.In h4 := kin_but (X2.keeps kp3) hnx k4
    have hns4 : h4.Ns s.heap.objs.size fun y => if y = f then some v else if y = "self" then some (.ref x) else none := by
      obtain ⟨oL, es, ep, hL', r⟩ := hns
      have e : (fun y => ([(("self" : Str), Value.ref x), (f, v)] : List (Str × Value)).reverse.lookup y) = fun y => if y = f then some v else if y = "self" then some (.ref x) else none := funext hN
      rw [← e]
      exact ⟨oL, es, ep, k4 _ _ hL (kp3 _ _ (kk2 _ _ hL')), r⟩
    refine ks_wpAt_execs_cons (ks_wpAt_Assign_Attr (wpAt_of_wpAny ?_))
    refine ld_loc (v := v) hns4 (if_pos rfl) hk hfl T.ndbg (ld_loc (v := .ref x) hns4 (by rw [if_neg (Ne.symm T.nself), if_pos rfl]) hk hse (by decide) ?_)
    refine PySem.W.set_plain X4 (ox := excO C _) (od := none) ⟨hx4, rfl, rfl, trivial⟩ T.sa ?_
    refine exc_osa X4 hx4 hcls (show refsVE (.ref C :: bm) = true from hbm) rfl T.noN (fun h5 tk5 dx k5 dn dne hx5 hn5 => ?_)
    refine wpAt_of_wpAny (wpAny_execs_nil (hq h5 tk5 dx ⟨fun b o hb e => k5 b o hb (k4 b o hb (kp3 _ _ (kk2 _ _ (k b o e)))), ⟨_, hx5⟩, Nat.le_trans (Nat.le_of_lt hns4.lt) dn, dne, hn5⟩))
end
end IB
end

section
set_option Elab.async false
set_option linter.all false
set_option maxRecDepth 100000
set_option maxHeartbeats 4000000
/-! X2: such an exception is made and raised. -/
namespace IB
open PySem PySem.Spec PySem.Calls PyProof.Rows PySem.HandSPX L2
/-- a made one -/
structure XMade (h h' : Heap) (e C d : Addr) (f : Str) (v : Value) : Prop where
  keep : ∀ b o, h.get? b = some o → h'.get? b = some o
  new : h.objs.size ≤ e
  obj : ∃ oe vs, h'.get? e = some oe ∧ oe.cls = .ref C ∧ oe.dict = some d ∧ oe.data = .fields vs ∧ vs[1]? = some .none
  dbig : h.objs.size ≤ d
  dne : d ≠ e
  ns : h'.Ns1 d (fun y => if y = f then some v else none)
section
variable {prog : Program} {w : World} {A : Around} {R : Result → Shared → Prop} {s : Shared} {K : Frag} {C fI : Addr} {f : Str}
theorem ex_made {mg mb : Str → Option Value} (T : ExTxt prog K C fI f) {v : Value} (X : K.In s.heap) (hlim : s.heap.NoLimit) (hg : s.heap.Ns mainGlobals mg) (hb : s.heap.Ns builtinsNs mb) (hms : mg "super" = none) (hmb : mb "super" = some (.type "super")) (hroom : A.depth + 1 < recursionLimit)
    (hq : ∀ h' tk e d, XMade s.heap h' e C d f v → R (.ok (.ret (.ref e))) { s with heap := h', toks := tk }) :
    codeAny (model prog w) A (.call (.ref C) ⟨[v], []⟩) R s := by
  obtain ⟨nm, q, N, bs, bm, sn, sub, ab, col, dd, k0, k1, k2, k3, k5, hC, hbm⟩ := T.cls
  obtain ⟨hp, g, dr, tk, os⟩ := s
  have kk : ∀ b o, hp.get? b = some o → ((hp.push (PySem.W.kdv_tup [v])).push (excO C hp.objs.size)).get? b = some o := fun b o e => Heap.get?_push_of_some _ (Heap.get?_push_of_some _ e)
  have hsz : ((hp.push (PySem.W.kdv_tup [v])).push (excO C hp.objs.size)).get? (hp.objs.size + 1) = some (excO C hp.objs.size) := by heap_get
  have hnx : K.lookup (hp.objs.size + 1) = none := by
    cases e : K.lookup (hp.objs.size + 1) with
    | none => rfl
    | some o =>
      have z := Heap.lt_size (show hp.get? (hp.objs.size + 1) = some o from X _ _ e)
      exact absurd (Nat.lt_of_succ_lt z) (Nat.lt_irrefl _)
  refine call_own F.excBase_ValueError (fun Y => refsVE_contains Y bm hbm) (X _ _ hC) (PySem.W.looks_findIn X T.iC) (fun self => PySem.W.bind_fn X self T.tC) (by rw [sizeLine_eq]; exact (by decide : 1 ≤ 16777216)) ?_
  refine ex_init (s := ⟨(hp.push (PySem.W.kdv_tup [v])).push (excO C hp.objs.size), g, dr, tk, os⟩) T (X.keeps kk) (hlim.keeps kk) (hg.keeps kk) (hb.keeps kk) hms hmb hsz hnx (by show A.depth + 1 < recursionLimit; exact hroom) fun h' tk' dx Z => ?_
  have old : ∀ b o, hp.get? b = some o → h'.get? b = some o := fun b o e => Z.keep b o (Nat.ne_of_lt (Nat.lt_succ_of_lt (Heap.lt_size e))) (kk b o e)
  have z : hp.objs.size + 1 + 1 ≤ dx := by
    have q := Z.dbig
    first
      | exact q
      | (rw [Heap.size_push, Heap.size_push] at q; exact q)
  obtain ⟨t1, hx⟩ := Z.obj
  exact ⟨rfl, hq h' tk' (hp.objs.size + 1) dx ⟨old, Nat.le_succ _, ⟨_, _, hx, rfl, rfl, rfl, rfl⟩, Nat.le_trans (Nat.le_trans (Nat.le_succ _) (Nat.le_succ _)) z, Z.dne, Z.ns⟩⟩
end
theorem relO_one {f : Str} {v : V} {u : Value} (r : RelV v u) (g : Str) : RelO (List.lookup g [(f, v)]) (if g = f then some u else none) := relO_put (fs := []) (mA := fun _ => none) r (fun _ => True.intro) g
/-- C(e): a fresh one; its dict -/
def tMkX (C : Addr) (f : Str) (ta : TA) : L2.St → Hp → L2.XK → Prop := fun σ H Q => ta σ H fun vs H1 => ∃ v, vs = [v] ∧ ∀ d, H1 d = none → Q (.ref C) (some d) (L2.upd H1 d (.xd [(f, v)]))
section
variable {X : Cx} {C fI : Addr} {f : Str}
theorem pmk_ex {a : Expr} {ta : TA} {x : Str} {p pos : Pos} (T : ExTxt X.prog X.K C fI f) (hms : X.mg "super" = none) (hr : X.A.depth + 1 < recursionLimit) (ha : PA X [a] ta) (hg : L2.Gl X x) (gC : X.mg x = some (.ref C)) (hd : (x == ("__debug__" : Str)) = false) (hs : ∀ z p, a ≠ .Starred z p) :
    PMk X (.Call (.Name x p) [a] [] pos) (tMkX C f ta) := by
  intro pins s σ H Q I h
  refine wpAny_Call_Name_kw (ld_glob I hg gC ?_ hd)
  refine PySem.W.callWith_K (h₀ := X.base) I.ok.mod.kin T.kC (thn (ha.run pos pins s σ H _ I h) fun us s1 hh => ?_) (star_false hs _) rfl
  obtain ⟨vs, H1, I1, r1, v, ev, q1⟩ := hh
  subst ev
  refine ⟨I1.kIn, ?_⟩
  cases r1 with
  | cons rv rn =>
    rename_i u us'
    cases rn
    show wpAny _ _ (call (.ref C) [u]) _ _ _
    have hlim := I1.nolimit
    have hg1 := I1.ok.mod.glob.keeps I1.bk
    obtain ⟨mb, hb0, hb1⟩ := I1.ok.mod.blt
    have hb2 := hb0.keeps I1.bk
    have hmb : mb "super" = some (.type "super") := (hb1 "super" (by decide)).trans (by first | rfl | kernel_rfl)
    obtain ⟨hp, g, dr, tk, os⟩ := s1
    refine wpAny_call (ex_made T I1.kIn hlim hg1 hb2 hms hmb hr fun h' tk' e d M => ?_)
    show MkP X pins σ Q (.ref e) ⟨h', g, dr, tk', os⟩
    obtain ⟨oe, fv, hoe, hc, hdd, hdat, h1⟩ := M.obj
    obtain ⟨G', g1, g2⟩ := restrict h' fun b => decide (b ≠ e)
    have gk : ∀ b, b ≠ e → G'.get? b = h'.get? b := fun b hb => g1 b (decide_eq_true hb)
    have ge : G'.get? e = none := g2 e (by simp)
    have kept : ∀ b o, hp.get? b = some o → G'.get? b = some o := fun b o q => (gk b (Nat.ne_of_lt (Nat.lt_of_lt_of_le (Heap.lt_size q) M.new))).trans (M.keep b o q)
    have ob : ObjOk X.prog X.w (L2.upd H1 d (.xd [(f, v)])) G' d (.xd [(f, v)]) := ⟨_, M.ns.at (fun o q => (gk d M.dne).trans q), fun g => relO_one rv g⟩
    have J : Inv X pins σ (L2.upd H1 d (.xd [(f, v)])) ⟨G', g, dr, tk', os⟩ := I1.laid (t' := tk') kept M.dbig ob
    refine ⟨e, oe, fv, ⟨G', g, dr, tk', os⟩, _, .ref C, some d, rfl, J, fun b o q => ?_, ge, hoe, ⟨hc, hdd⟩, hdat, h1, ?_, rfl, I1.bare, raises_own T.exC T.tyC, q1 d (I1.hok.fresh M.dbig)⟩
    · by_cases hb : b = e
      · have q' : G'.get? b = some o := q
        rw [hb, ge] at q'
        cases q'
      · exact (gk b hb).symm.trans q
    · rw [upd_ne (Ne.symm M.dne)]
      exact I1.hok.fresh M.new
end
end IB
end

section
set_option Elab.async false
set_option linter.all false
set_option maxRecDepth 100000
set_option maxHeartbeats 4000000
/-! S11: statements. -/
namespace IB
open PySem PySem.Spec PyProof.Rows L2
theorem _root_.L2.PS.imp {X : Cx} {e : Stmt} {t t' : TS} (h : PS X e t) (i : ∀ D σ H, t' D σ H → t D σ H) : PS X e t' := ⟨fun pins s σ H D I q => h.run pins s σ H D I (i D σ H q)⟩
theorem _root_.L2.PSs.imp {X : Cx} {e : List Stmt} {t t' : TS} (h : PSs X e t) (i : ∀ D σ H, t' D σ H → t D σ H) : PSs X e t' := ⟨fun pins s σ H D I q => h.run pins s σ H D I (i D σ H q)⟩
def KontN (C : Co) (R F : Hp) (QQ : Env → MM → Prop) (Q : L2.St → Hp → Prop) : Prop := ∀ (F' H' : Hp) (M' : MM) (σ' : L2.St) (env' : Env), Sub F F' → Sto C.K C.cA R F' H' M' → StS C R F' σ' env' → QQ env' M' → Q σ' H'
theorem KontN.sub {C : Co} {R F F1 : Hp} {QQ : Env → MM → Prop} {Q : L2.St → Hp → Prop} (h : KontN C R F QQ Q) (s : Sub F F1) : KontN C R F1 QQ Q := fun F' H' M' σ' env' s' => h F' H' M' σ' env' (s.trans s')
structure KontD (C : Co) (R F : Hp) (DD : IB.Ends) (D : L2.Ends) : Prop where
  nx : KontN C R F DD.nx D.nx
  rt : Kont C.K C.cA R F DD.rt D.rt
  bk : KontN C R F DD.bk D.bk
  ct : KontN C R F DD.ct D.ct
theorem KontD.sub {C : Co} {R F F1 : Hp} {DD : IB.Ends} {D : L2.Ends} (h : KontD C R F DD D) (s : Sub F F1) : KontD C R F1 DD D := ⟨h.nx.sub s, h.rt.sub s, h.bk.sub s, h.ct.sub s⟩
def KontXS (C : Co) (R F : Hp) (XX : XE) : Prop :=
  ∀ (F' H' : Hp) (M' : MM) (σ' : L2.St) (env' : Env) (cn : String) (fs : List (String × PV)) (cls : Value) (d : Option Addr), Sub F F' → Sto C.K C.cA R F' H' M' → StS C R F' σ' env' → ExR C F' H' cn fs cls d → XX env' cn fs M' → C.W cls d σ' H'
theorem KontXS.sub {C : Co} {R F F1 : Hp} {XX : XE} (h : KontXS C R F XX) (s : Sub F F1) : KontXS C R F1 XX := fun F' H' M' σ' env' cn fs cls d s' => h F' H' M' σ' env' cn fs cls d (s.trans s')
theorem KontXS.at {C : Co} {R F : Hp} {σ : L2.St} {env : Env} {XX : XE} (h : KontXS C R F XX) (st : StS C R F σ env) : KontX C R F σ (XX env) := fun F' H' M' cn fs cls d s' t' => h F' H' M' σ env cn fs cls d s' t' (st.sub s')
def TS' (C : Co) (c : CS) : TS := fun D σ H => ∃ R F env M DD XX, Sto C.K C.cA R F H M ∧ StS C R F σ env ∧ wS C.G C.call c env M DD XX ∧ KontD C R F DD D ∧ KontXS C R F XX
def TSs' (C : Co) (c : CSs) : TS := fun D σ H => ∃ R F env M DD XX, Sto C.K C.cA R F H M ∧ StS C R F σ env ∧ wSs C.G C.call c env M DD XX ∧ KontD C R F DD D ∧ KontXS C R F XX
section
variable {X : Cx} {C : Co} {e tg : Expr} {ce : CE} {ct : CT} {pos : Pos} {s : Stmt} {r a b : List Stmt} {cs : CS} {cr ca cb : CSs}
theorem z_nil : PSs X [] (TSs' C .nil) := pss_nil.imp fun D σ H ⟨R, F, env, M, DD, XX, t, st, w, k, kx⟩ => k.nx F H M σ env (Sub.refl F) t st w
theorem z_cons (h1 : PS X s (TS' C cs)) (h2 : PSs X r (TSs' C cr)) : PSs X (s :: r) (TSs' C (.cons cs cr)) := by
  refine (pss_cons h1 h2).imp fun D σ H ⟨R, F, env, M, DD, XX, t, st, w, k, kx⟩ => ?_
  exact ⟨R, F, env, M, _, XX, t, st, w, ⟨fun F1 H1 M1 σ1 env1 s1 t1 st1 q1 => ⟨R, F1, env1, M1, DD, XX, t1, st1, q1, k.sub s1, kx.sub s1⟩, k.rt, k.bk, k.ct⟩, kx⟩
theorem z_expr (he : PE X e (TX C ce)) (hs : swapsWith e none pos.line X.env = pure false) : PS X (.Expr e pos) (TS' C (.expr ce)) := by
  refine (ps_expr he hs).imp fun D σ H ⟨R, F, env, M, DD, XX, t, st, w, k, kx⟩ => ?_
  exact ⟨R, F, env, M, _, _, t, st, w, fun F1 H1 M1 x v s1 t1 r1 q1 => k.nx F1 H1 M1 σ env s1 t1 (st.sub s1) q1, kx.at st⟩
theorem z_ret (he : PE X e (TX C ce)) : PS X (.Return (some e) pos) (TS' C (.ret ce)) := by
  refine (ps_ret he).imp fun D σ H ⟨R, F, env, M, DD, XX, t, st, w, k, kx⟩ => ?_
  exact ⟨R, F, env, M, _, _, t, st, w, k.rt, kx.at st⟩
theorem z_retn : PS X (.Return none pos) (TS' C .retn) := ps_retN.imp fun D σ H ⟨R, F, env, M, DD, XX, t, st, w, k, kx⟩ => k.rt F H M _ _ (Sub.refl F) t .non w
theorem z_pass : PS X (.Pass pos) (TS' C .pass) := ps_pass.imp fun D σ H ⟨R, F, env, M, DD, XX, t, st, w, k, kx⟩ => k.nx F H M σ env (Sub.refl F) t st w
theorem z_brk : PS X (.Break pos) (TS' C .brk) := ps_break.imp fun D σ H ⟨R, F, env, M, DD, XX, t, st, w, k, kx⟩ => k.bk F H M σ env (Sub.refl F) t st w
theorem z_cont : PS X (.Continue pos) (TS' C .cont) := ps_continue.imp fun D σ H ⟨R, F, env, M, DD, XX, t, st, w, k, kx⟩ => k.ct F H M σ env (Sub.refl F) t st w
theorem z_if (hc : PT X e (TY C ce)) (ha : PSs X a (TSs' C ca)) (hb : PSs X b (TSs' C cb)) : PS X (.If e a b pos) (TS' C (.ife ce ca cb)) := by
  refine (ps_if hc ha hb).imp fun D σ H ⟨R, F, env, M, DD, XX, t, st, w, k, kx⟩ => ?_
  refine ⟨R, F, env, M, _, _, t, st, w, fun F1 H1 M1 c s1 t1 q1 => ?_, kx.at st⟩
  cases c with
  | true => exact ⟨R, F1, env, M1, DD, XX, t1, st.sub s1, q1, k.sub s1, kx.sub s1⟩
  | false => exact ⟨R, F1, env, M1, DD, XX, t1, st.sub s1, q1, k.sub s1, kx.sub s1⟩
theorem asg_rd {D : L2.Ends} {σ : L2.St} {H : Hp} (h : TS' C (.asg ct ce) D σ H) : tAsg (TX C ce) (TG' C ct) D σ H := by
  obtain ⟨R, F, env, M, DD, XX, t, st, w, k, kx⟩ := h
  refine ⟨R, F, env, M, _, _, t, st, w, fun F1 H1 M1 x v s1 t1 r1 q1 => ?_, kx.at st⟩
  exact ⟨R, F1, env, M1, x, _, XX env, t1, st.sub s1, r1, q1, fun F2 H2 M2 σ2 env2 s2 t2 st2 _ q2 => k.nx F2 H2 M2 σ2 env2 (s1.trans s2) t2 st2 q2⟩
theorem z_asg (he : PE X e (TX C ce)) (hg : PG X tg (TG' C ct)) (hs : swapsWithSole [tg] e pos.line X.env = pure false) (hw : swappedStores [tg] e X.env = pure none) (h1 : (assignEach [tg] X.env).map (·.2) = [assign tg X.env]) : PS X (.Assign [tg] e pos) (TS' C (.asg ct ce)) :=
  (ps_asg he hg hs hw h1).imp fun D σ H h => asg_rd h
theorem two_of {F : Hp} {K : Frag} {xs : List PV} {vs : List V} (r : RepVs K F xs vs) (h : xs.length = 2) : ∃ x y v w, xs = [x, y] ∧ vs = [v, w] ∧ RepV K F x v ∧ RepV K F y w := by
  cases r with
  | nil => cases h
  | cons a r =>
    cases r with
    | nil => cases h
    | cons b r =>
      cases r with
      | nil => exact ⟨_, _, _, _, rfl, rfl, a, b⟩
      | cons c r => simp at h
theorem three_of {F : Hp} {K : Frag} {xs : List PV} {vs : List V} (r : RepVs K F xs vs) (h : xs.length = 3) : ∃ x y z u v w, xs = [x, y, z] ∧ vs = [u, v, w] ∧ RepV K F x u ∧ RepV K F y v ∧ RepV K F z w := by
  cases r with
  | nil => cases h
  | cons a r =>
    obtain ⟨x, y, v, w, rfl, rfl, h1, h2⟩ := two_of r (by simpa using h)
    exact ⟨_, _, _, _, _, _, rfl, rfl, a, h1, h2⟩
theorem z_par {i j : Nat} {x y : Str} {e1 e2 : Expr} {as : CAs} {px py pt : Pos} {kt k2 : Nat} {pt2 : Pos} (hc : X.calm = true) (hN : X.N.Nodup) (hi : X.N[i]? = some x) (hj : X.N[j]? = some y) (hij : i ≠ j)
    (hx : X.env.scope.names.lookup x = some .local) (hy : X.env.scope.names.lookup y = some .local) (ha : PA X [e1, e2] (TL C as))
    (hw : swappedStores [.Tuple [.Name x px, .Name y py] kt pt] (.Tuple [e1, e2] k2 pt2) X.env = pure (some [x, y])) :
    PS X (.Assign [.Tuple [.Name x px, .Name y py] kt pt] (.Tuple [e1, e2] k2 pt2) pos) (TS' C (.asg (.tup (.cons (.var i) (.cons (.var j) .nil))) (.tup as))) := by
  refine (ps_par hc hN hi hj hij hx hy ha hw).imp fun D σ H ⟨R, F, env, M, DD, XX, t, st, w, k, kx⟩ => ?_
  refine ⟨R, F, env, M, _, _, t, st, w, fun F1 H1 M1 xs vs s1 t1 r1 q1 => ?_, kx.at st⟩
  obtain ⟨_, q2, q3⟩ := q1
  obtain ⟨x, y, v, w, rfl, rfl, h1, h2⟩ := two_of r1 q2
  exact ⟨v, w, rfl, k.nx F1 H1 M1 _ _ s1 t1 (((st.sub s1).set h1).set h2) q3⟩
theorem z_par3 {i j l : Nat} {x y z : Str} {e1 e2 e3 : Expr} {as : CAs} {px py pz pt : Pos} {kt k2 : Nat} {pt2 : Pos} (hc : X.calm = true) (hN : X.N.Nodup) (hi : X.N[i]? = some x) (hj : X.N[j]? = some y) (hl : X.N[l]? = some z) (hij : i ≠ j) (hil : i ≠ l) (hjl : j ≠ l)
    (hx : X.env.scope.names.lookup x = some .local) (hy : X.env.scope.names.lookup y = some .local) (hz : X.env.scope.names.lookup z = some .local) (ha : PA X [e1, e2, e3] (TL C as))
    (hw : swappedStores [.Tuple [.Name x px, .Name y py, .Name z pz] kt pt] (.Tuple [e1, e2, e3] k2 pt2) X.env = pure (some [x, y, z])) :
    PS X (.Assign [.Tuple [.Name x px, .Name y py, .Name z pz] kt pt] (.Tuple [e1, e2, e3] k2 pt2) pos) (TS' C (.asg (.tup (.cons (.var i) (.cons (.var j) (.cons (.var l) .nil)))) (.tup as))) := by
  refine (ps_par3 hc hN hi hj hl hij hil hjl hx hy hz ha hw).imp fun D σ H ⟨R, F, env, M, DD, XX, t, st, w, k, kx⟩ => ?_
  refine ⟨R, F, env, M, _, _, t, st, w, fun F1 H1 M1 xs vs s1 t1 r1 q1 => ?_, kx.at st⟩
  obtain ⟨_, q2, q3⟩ := q1
  obtain ⟨x, y, z, u, v, w, rfl, rfl, h1, h2, h3⟩ := three_of r1 q2
  exact ⟨u, v, w, rfl, k.nx F1 H1 M1 _ _ s1 t1 ((((st.sub s1).set h1).set h2).set h3) q3⟩
theorem z_for {it : CI} {iter : Expr} (hp : PassesOwn (model X.prog X.w) X.A X.env X.xe) (hc : X.calm = true) (hi : PI X tg iter (TI' C it)) (hg : PG X tg (TG' C ct)) (hb : PSs X b (TSs' C cb)) (hs : ∀ x, foldedSetIterable iter X.env x = pure x) :
    PS X (.For tg iter b [] pos) (TS' C (.for ct it cb)) := by
  refine (ps_for hp hc hi hg hb hs).imp fun D σ H ⟨R, F, env, M, DD, XX, t, st, w, k, kx⟩ => ?_
  refine ⟨R, F, env, M, _, _, t, st, w, fun F1 H1 M1 xs g J s1 t1 jo q1 => ?_, kx.at st⟩
  refine ⟨fun i m σ' H' => m = xs.length - i ∧ i ≤ xs.length ∧ ∃ F2 M2 env2, Sub F1 F2 ∧ Sto C.K C.cA R F2 H' M2 ∧ StS C R F2 σ' env2 ∧
    forL g (fun v env M Q => wT C.G C.call ct v env M Q (XX env)) (fun env M D => wSs C.G C.call cb env M D XX) DD (xs.drop i) env2 M2, ⟨xs.length, rfl, Nat.zero_le _, F1, M1, env, Sub.refl F1, t1, st.sub s1, q1⟩, ?_⟩
  rintro i m σ' H' ⟨rfl, hle, F2, M2, env2, s2, t2, st2, fl⟩
  by_cases hlt : i < xs.length
  · rw [List.drop_eq_getElem_cons hlt] at fl
    obtain ⟨gg, fl⟩ := fl
    refine .inr ⟨jo.go R i F2 H' M2 hlt s2 t2 gg, fun σ'' H'' => ∃ F3 M3 env3, Sub F1 F3 ∧ Sto C.K C.cA R F3 H'' M3 ∧ StS C R F3 σ'' env3 ∧
      forL g (fun v env M Q => wT C.G C.call ct v env M Q (XX env)) (fun env M D => wSs C.G C.call cb env M D XX) DD (xs.drop (i + 1)) env3 M3,
      fun σ'' H'' ⟨F3, M3, env3, e1, e2, e3, e4⟩ => ⟨xs.length - (i + 1), by omega, rfl, hlt, F3, M3, env3, e1, e2, e3, e4⟩, fun x H3 hy => ?_⟩
    obtain ⟨F3, px, s3, t3, ex, rx⟩ := jo.yld R i F2 H' M2 x H3 hlt s2 t2 gg hy
    rw [List.getElem?_eq_getElem hlt] at ex
    obtain rfl := Option.some.inj ex
    refine ⟨R, F3, env2, M2, _, _, XX env2, t3, st2.sub s3, rx, fl, fun F4 H4 M4 σ4 env4 s4 t4 st4 _ q4 => ?_⟩
    have s14 := s2.trans (s3.trans s4)
    exact ⟨R, F4, env4, M4, _, XX, t4, st4, q4, ⟨fun F5 H5 M5 σ5 env5 s5 t5 st5 q5 => ⟨F5, M5, env5, s14.trans s5, t5, st5, q5⟩, k.rt.sub (s1.trans s14), k.nx.sub (s1.trans s14), fun F5 H5 M5 σ5 env5 s5 t5 st5 q5 => ⟨F5, M5, env5, s14.trans s5, t5, st5, q5⟩⟩, kx.sub (s1.trans s14)⟩
  · have e : i = xs.length := by omega
    subst e
    rw [List.drop_of_length_le (Nat.le_refl _)] at fl
    exact .inl ⟨jo.stop R _ F2 H' M2 (Nat.le_refl _) s2 t2 fl.1, k.nx F2 H' M2 σ' env2 (s1.trans s2) t2 st2 fl.2⟩
theorem z_while (hp : PassesOwn (model X.prog X.w) X.A X.env X.xe) (hc : PT X e (TY C ce)) (hb : PSs X b (TSs' C cb)) : PS X (.While e b [] pos) (TS' C (.whl ce cb)) := by
  refine (ps_while hp hc hb).imp fun D σ H ⟨R, F, env, M, DD, XX, t, st, w, k, kx⟩ => ?_
  obtain ⟨n, w⟩ := w
  refine ⟨fun m σ' H' => ∃ F2 M2 env2, Sub F F2 ∧ Sto C.K C.cA R F2 H' M2 ∧ StS C R F2 σ' env2 ∧ whileN (fun env M Q => wC C.G C.call ce env M Q (XX env)) (fun env M D => wSs C.G C.call cb env M D XX) DD m env2 M2, ⟨n, F, M, env, Sub.refl F, t, st, w⟩, ?_⟩
  rintro m σ' H' ⟨F2, M2, env2, s2, t2, st2, w2⟩
  cases m with
  | zero => exact (show False from w2).elim
  | succ m =>
    refine ⟨R, F2, env2, M2, _, _, t2, st2, w2, fun F3 H3 M3 c s3 t3 q3 => ?_, (kx.sub s2).at st2⟩
    cases c with
    | false => exact k.nx F3 H3 M3 σ' env2 (s2.trans s3) t3 (st2.sub s3) q3
    | true =>
      refine ⟨fun σ'' H'' => ∃ F4 M4 env4, Sub F F4 ∧ Sto C.K C.cA R F4 H'' M4 ∧ StS C R F4 σ'' env4 ∧ whileN (fun env M Q => wC C.G C.call ce env M Q (XX env)) (fun env M D => wSs C.G C.call cb env M D XX) DD m env4 M4, fun σ'' H'' ⟨F4, M4, env4, e1, e2, e3, e4⟩ => ⟨m, Nat.lt_succ_self m, F4, M4, env4, e1, e2, e3, e4⟩, ?_⟩
      have s23 := s2.trans s3
      exact ⟨R, F3, env2, M3, _, XX, t3, st2.sub s3, q3, ⟨fun F5 H5 M5 σ5 env5 s5 t5 st5 q5 => ⟨F5, M5, env5, s23.trans s5, t5, st5, q5⟩, k.rt.sub s23, k.nx.sub s23, fun F5 H5 M5 σ5 env5 s5 t5 st5 q5 => ⟨F5, M5, env5, s23.trans s5, t5, st5, q5⟩⟩, kx.sub s23⟩
/-- raise c(e) -/
theorem z_rais {x : Str} {c : String} {f : String} {ups : List String} {Cc fI : Addr} {as : CAs} {p p2 : Pos} (hc : X.calm = true) (hK : X.K = C.K) (tk : Takes X C.W) (T : ExTxt X.prog X.K Cc fI (Str.ofString f)) (hms : X.mg "super" = none) (hr : X.A.depth + 1 < recursionLimit) (ha : PA X [e] (TL C as)) (hg : L2.Gl X x) (gC : X.mg x = some (.ref Cc)) (hd : (x == ("__debug__" : Str)) = false) (hs : ∀ z p, e ≠ .Starred z p)
    (hE : C.eA c = some Cc) (hG : C.G.excs c = some (ups, [f])) : PS X (.Raise (some (.Call (.Name x p) [e] [] p2)) none pos) (TS' C (.rais c as)) := by
  refine (ps_raise hc tk (pmk_ex T hms hr ha hg gC hd hs)).imp fun D σ H ⟨R, F, env, M, DD, XX, t, st, w, k, kx⟩ => ?_
  have w : (match C.G.excs c with
    | some (_, ns) => wD C.G C.call as env M (fun vs M1 => vs.length = ns.length ∧ XX env c (ns.zip vs) M1) (XX env)
    | none => False) := w
  rw [hG] at w
  refine ⟨R, F, env, M, _, _, t, st, w, fun F1 H1 M1 xs vs s1 t1 r1 q1 => ?_, kx.at st⟩
  obtain ⟨q1, q2⟩ := q1
  cases r1 with
  | nil => cases q1
  | cons r1 r2 =>
    cases r2 with
    | cons _ _ => simp at q1
    | nil =>
      refine ⟨_, rfl, fun d nd => ?_⟩
      exact kx F1 _ M1 σ env c _ _ _ s1 (t1.more (sub_upd nd)) (st.sub s1) ⟨⟨Cc, d, _, hE, rfl, rfl, upd_same, .cons ⟨rfl, r1⟩ .nil⟩⟩ q2
end
end IB
end

section
set_option Elab.async false
set_option linter.all false
set_option maxRecDepth 100000
set_option maxHeartbeats 4000000
/-! S12: methods of lists, isinstance. -/
namespace IB
open PySem PySem.Spec PyProof.Rows L2
/-- what a method of a list does, in both worlds -/
def rMb (K : Frag) (cA : Tn) (m : String) : V → List V → Hp → VK → Prop := fun v vs H Q => ∃ R F M x xs QQ XX, Sto K cA R F H M ∧ RepV K F x v ∧ RepVs K F xs vs ∧ wMb x m xs M QQ XX ∧ Kont K cA R F QQ Q
section
variable {X : Cx} {C : Co} {o e : Expr} {co : CE} {as : CAs} {es : List Expr} {apos pos : Pos}
theorem lme_rd {m : String} {r : V → List V → Hp → VK → Prop} (hK : X.K = C.K) (hr : ∀ v vs H Q, rMb C.K C.cA m v vs H Q → r v vs H Q) {σ : L2.St} {H : Hp} {Q : VK} (h : TX C (.lme co m as) σ H Q) : tBM X.K "list" r (TX C co) (TL C as) σ H Q := by
  obtain ⟨R, F, env, M, QQ, XX, t, st, w, k, kx⟩ := h
  refine ⟨R, F, env, M, _, XX, t, st, w, fun F1 H1 M1 x v s1 t1 r1 q1 => ?_, kx⟩
  have q1 : (match listOf M1 x with | some _ => wD C.G C.call as env M1 (fun xs M2 => wMb x m xs M2 QQ XX) XX | none => False) := q1
  cases e1 : listOf M1 x with
  | none => rw [e1] at q1; exact q1.elim
  | some ys =>
    rw [e1] at q1
    obtain ⟨a, vs, rfl, ra, ha⟩ := t1.listOf r1 e1
    refine ⟨.inl ⟨rfl, vs, .of ha⟩, ?_⟩
    refine ⟨R, F1, env, M1, _, XX, t1, st.sub s1, q1, fun F2 H2 M2 xs ws s2 t2 r2 q2 => ?_, kx.sub s1⟩
    exact hr _ _ _ _ ⟨R, F2, M2, x, xs, QQ, XX, t2, r1.sub s2, r2, q2, k.sub (s1.trans s2)⟩
theorem mb_inv {m : String} {x : PV} {xs : List PV} {M : MM} {QQ : PV → MM → Prop} {XX : XK} (w : wMb x m xs M QQ XX) : ∃ a ys, x = .ref a ∧ M a = some (.lst ys) := by
  unfold wMb at w
  split at w <;> first | exact w.elim | skip
  split at w <;> first | exact w.elim | skip
  rename_i h
  exact ⟨_, _, rfl, h⟩
theorem mb_append {K : Frag} {cA : Tn} {v : V} {vs : List V} {H : Hp} {Q : VK} (h : rMb K cA "append" v vs H Q) : rAppend v vs H Q := by
  obtain ⟨R, F, M, x, xs, QQ, XX, t, rx, rxs, w, k⟩ := h
  obtain ⟨a, ys, rfl, e⟩ := mb_inv w
  unfold wMb at w
  simp only [e] at w
  cases rx
  obtain ⟨_, q⟩ := t.mem a _ e
  cases q with
  | lst h rs =>
    cases rxs with
    | nil => exact w.elim
    | cons r1 r2 =>
      cases r2 with
      | cons _ _ => exact w.elim
      | nil =>
        obtain ⟨w1, w2⟩ := w
        refine ⟨a, _, _, rfl, rfl, h, by rw [← rs.length, ← line_eq]; exact w1, ?_⟩
        exact k F _ _ _ _ (Sub.refl F) (t.write e (.lst upd_same (rs.app (.cons r1 .nil)))) .non w2
theorem mb_extend {K : Frag} {cA : Tn} {v : V} {vs : List V} {H : Hp} {Q : VK} (h : rMb K cA "extend" v vs H Q) : rExtend v vs H Q := by
  obtain ⟨R, F, M, x, xs, QQ, XX, t, rx, rxs, w, k⟩ := h
  obtain ⟨a, ys, rfl, e⟩ := mb_inv w
  unfold wMb at w
  simp only [e] at w
  cases rx
  obtain ⟨_, q⟩ := t.mem a _ e
  cases q with
  | lst h rs =>
    cases rxs with
    | nil => exact w.elim
    | cons r1 r2 =>
      cases r2 with
      | cons _ _ => exact w.elim
      | nil =>
        rename_i y vy
        have w : (match listOf M y with | some zs => ys.length + zs.length ≤ line ∧ QQ .non (IB.upd M a (.lst (ys ++ zs))) | none => False) := w
        cases e2 : listOf M y with
        | none => rw [e2] at w; exact w.elim
        | some zs =>
          rw [e2] at w
          obtain ⟨w1, w2⟩ := w
          obtain ⟨b, ws, rfl, rb, hb⟩ := t.listOf r1 e2
          refine ⟨a, b, _, _, rfl, rfl, h, hb, by rw [← rs.length, ← rb.length, ← line_eq]; exact w1, ?_⟩
          exact k F _ _ _ _ (Sub.refl F) (t.write e (.lst upd_same (rs.app rb))) .non w2
theorem mb_pop {K : Frag} {cA : Tn} {v : V} {vs : List V} {H : Hp} {Q : VK} (h : rMb K cA "pop" v vs H Q) : rPop v vs H Q := by
  obtain ⟨R, F, M, x, xs, QQ, XX, t, rx, rxs, w, k⟩ := h
  obtain ⟨a, ys, rfl, e⟩ := mb_inv w
  unfold wMb at w
  simp only [e] at w
  cases rx
  obtain ⟨_, q⟩ := t.mem a _ e
  cases q with
  | lst h rs =>
    cases rxs with
    | cons _ _ => exact w.elim
    | nil =>
      have w : (match ys.getLast? with | some y => QQ y (IB.upd M a (.lst ys.dropLast)) | none => False) := w
      cases e2 : ys.getLast? with
      | none => rw [e2] at w; exact w.elim
      | some y =>
        rw [e2] at w
        rw [List.getLast?_eq_getElem?] at e2
        obtain ⟨vy, hv, ry⟩ := rs.get e2
        refine ⟨a, _, vy, rfl, rfl, h, by rw [← rs.length]; exact hv, ?_⟩
        exact k F _ _ _ _ (Sub.refl F) (t.write e (.lst upd_same rs.dropLast)) ry w
theorem g_append (hK : X.K = C.K) (hl : (apos.endLine == pos.line) = true) (hs : ∀ z p, e ≠ .Starred z p) (ho : PE X o (TX C co)) (ha : PA X [e] (TL C as)) (hb : attributeBase o "append" X.env (eval o X.env) = eval o X.env) : PE X (.Call (.Attribute o "append" apos) [e] [] pos) (TX C (.lme co "append" as)) :=
  (pe_bm PySem.F.plainAttrs_list PySem.F.slot_list_append PySem.F.type_list_append mt_append ho ha hb (by rw [star_false hs]; rfl) hl (star_false hs _) rfl).imp fun σ H Q h => lme_rd hK (fun _ _ _ _ => mb_append) h
theorem g_extend (hK : X.K = C.K) (hl : (apos.endLine == pos.line) = true) (hs : ∀ z p, e ≠ .Starred z p) (ho : PE X o (TX C co)) (ha : PA X [e] (TL C as)) (hb : attributeBase o "extend" X.env (eval o X.env) = eval o X.env) : PE X (.Call (.Attribute o "extend" apos) [e] [] pos) (TX C (.lme co "extend" as)) :=
  (pe_bm PySem.F.plainAttrs_list PySem.F.slot_list_extend PySem.F.type_list_extend mt_extend ho ha hb (by rw [star_false hs]; rfl) hl (star_false hs _) rfl).imp fun σ H Q h => lme_rd hK (fun _ _ _ _ => mb_extend) h
theorem g_pop (hK : X.K = C.K) (hl : (apos.endLine == pos.line) = true) (ho : PE X o (TX C co)) (hb : attributeBase o "pop" X.env (eval o X.env) = eval o X.env) : PE X (.Call (.Attribute o "pop" apos) [] [] pos) (TX C (.lme co "pop" .nil)) := by
  refine (pe_bm0 PySem.F.plainAttrs_list PySem.F.slot_list_pop PySem.F.type_list_pop mt_pop ho hb hl).imp fun σ H Q h => ?_
  obtain ⟨R, F, env, M, QQ, XX, t, st, w, k, kx⟩ := lme_rd (r := rPop) hK (fun _ _ _ _ => mb_pop) h
  refine ⟨R, F, env, M, QQ, XX, t, st, w, fun F1 H1 M1 x v s1 t1 r1 q1 => ?_, kx⟩
  obtain ⟨h1, h2⟩ := k F1 H1 M1 x v s1 t1 r1 q1
  refine ⟨h1, ?_⟩
  obtain ⟨R, F, env, M, QQ, XX, t, st, w, k, kx⟩ := h2
  exact k F _ M [] [] (Sub.refl F) t .nil w
end
/-! ### isinstance -/
/-- a kind's class object -/
def tyVal (cA : Tn) : Ty → Option (V × Value)
  | .int => some (.ty "int", .type "int")
  | .bool => some (.ty "bool", .type "bool")
  | .str => some (.ty "str", .type "str")
  | .tuple => some (.ty "tuple", .type "tuple")
  | .list => some (.ty "list", .type "list")
  | .dict => some (.ty "dict", .type "dict")
  | .cls c => (cA.cls c).map fun D => (.ref D, .ref D)
theorem tyVal_cls {cA : Tn} {d : String} {p : V × Value} (h : tyVal cA (.cls d) = some p) : ∃ D, cA.cls d = some D ∧ p = (.ref D, .ref D) := by
  have h : (cA.cls d).map (fun D => ((.ref D, .ref D) : V × Value)) = some p := h
  cases hD : cA.cls d with
  | none => rw [hD] at h; cases h
  | some D => rw [hD] at h; exact ⟨D, rfl, (Option.some.inj h).symm⟩
/-- what isinstance asks of the classes -/
structure IsC (K : Frag) (cA : Tn) : Prop where
  cls : ∀ c D, cA.cls c = some D → Cls K D ∧ PySem.W.findIn K (.ref D) "__class__" = some (some (.builtin "object.__class__")) ∧ PySem.W.mroIn K D (.type "object") = some true
  get : PySem.W.specialIn K (.builtin "object.__class__") "__get__" = some (some (.builtin "getset_descriptor.__get__"))
  tk : PySem.W.takesIn K (.builtin "object.__class__") = some true
  no : ∀ c D b, cA.cls c = some D → (b = "NoneType" ∨ b = "bool" ∨ b = "int" ∨ b = "str" ∨ b = "tuple" ∨ b = "list") → PySem.W.kitOne K (.type b) (.ref D) = some false
  bi : ∀ c D b, cA.cls c = some D → (b = "bool" ∨ b = "int" ∨ b = "str" ∨ b = "tuple" ∨ b = "list" ∨ b = "dict") → PySem.W.kitOne K (.ref D) (.type b) = some false
  two : ∀ c d C D, cA.cls c = some C → cA.cls d = some D → PySem.W.kitOne K (.ref C) (.ref D) = some (c == d)
section
variable {K : Frag} {cA : Tn} {R F H : Hp} {M : MM}
theorem tyx_tup {a : Addr} {vs : List V} (h : SqT K H a vs) : TyX K H (.ref a) (.type "tuple") := by
  rcases h with (h | ⟨o, h⟩) | ⟨o, its, n, h, hc, _⟩
  · exact .base (.tup h)
  · exact .fTuple h
  · exact .kTuple h hc
theorem tyx_lst {a : Addr} {vs : List V} (h : SqL K H a vs) : TyX K H (.ref a) (.type "list") := by
  rcases h with (h | ⟨o, h⟩) | ⟨o, its, n, h, hc, _⟩
  · exact .base (.lst h)
  · exact .base (.frz h)
  · exact .kList h hc
/-- a value's type, the answers about it -/
theorem isOf_ok (S : IsC K cA) (t : Sto K cA R F H M) {x : PV} {v : V} {ty : Ty} {b : Bool} {c : V} {u : Value} (r : RepV K F x v) (e : isOf M x ty = some b) (hc : tyVal cA ty = some (c, u)) : ∃ tv, TyX K H v tv ∧ PySem.W.kitOne K tv u = some b := by
  have kb : ∀ {p q : String} {r : Bool}, kitB p q = some r → PySem.W.kitOne K (.type p) (.type q) = some r := kit_ty
  have fin : ∀ {tn : String} (hx : TyX K H v (.type tn)) (hn : tn = "NoneType" ∨ tn = "bool" ∨ tn = "int" ∨ tn = "str" ∨ tn = "tuple" ∨ tn = "list") (ht : ∀ c, ty = .cls c → b = false) (hb : ∀ q : String, u = .type q → kitB tn q = some b), ∃ tv, TyX K H v tv ∧ PySem.W.kitOne K tv u = some b := by
    intro tn hx hn ht hb
    refine ⟨_, hx, ?_⟩
    cases ty with
    | cls d =>
      obtain ⟨D, hD, hp⟩ := tyVal_cls hc
      cases hp
      rw [ht d rfl]
      exact S.no d D tn hD hn
    | int => cases hc; exact kb (hb _ rfl)
    | bool => cases hc; exact kb (hb _ rfl)
    | str => cases hc; exact kb (hb _ rfl)
    | tuple => cases hc; exact kb (hb _ rfl)
    | list => cases hc; exact kb (hb _ rfl)
    | dict => cases hc; exact kb (hb _ rfl)
  cases r with
  | non => exact fin (.base .non) (by decide) (fun c h => by subst h; cases e; rfl) (fun q h => by cases ty <;> cases e <;> first | (cases hc; cases h; decide +kernel) | (obtain ⟨D, hD, hp⟩ := tyVal_cls hc; cases hp; cases h))
  | bl y => exact fin (.base (.bl y)) (by decide) (fun c h => by subst h; cases e; rfl) (fun q h => by cases ty <;> cases e <;> first | (cases hc; cases h; decide +kernel) | (obtain ⟨D, hD, hp⟩ := tyVal_cls hc; cases hp; cases h))
  | int y => exact fin (.base (.int y)) (by decide) (fun c h => by subst h; cases e; rfl) (fun q h => by cases ty <;> cases e <;> first | (cases hc; cases h; decide +kernel) | (obtain ⟨D, hD, hp⟩ := tyVal_cls hc; cases hp; cases h))
  | str y => exact fin (.base (.str _)) (by decide) (fun c h => by subst h; cases e; rfl) (fun q h => by cases ty <;> cases e <;> first | (cases hc; cases h; decide +kernel) | (obtain ⟨D, hD, hp⟩ := tyVal_cls hc; cases hp; cases h))
  | tup hq rs => exact fin (tyx_tup (sqT_sub t.sub hq)) (by decide) (fun c h => by subst h; cases e; rfl) (fun q h => by cases ty <;> cases e <;> first | (cases hc; cases h; decide +kernel) | (obtain ⟨D, hD, hp⟩ := tyVal_cls hc; cases hp; cases h))
  | lst hq rs => exact fin (.base (.lst (t.sub _ _ hq))) (by decide) (fun c h => by subst h; cases e; rfl) (fun q h => by cases ty <;> cases e <;> first | (cases hc; cases h; decide +kernel) | (obtain ⟨D, hD, hp⟩ := tyVal_cls hc; cases hp; cases h))
  | rol hq rs => exact fin (tyx_lst (sqL_sub t.sub hq)) (by decide) (fun c h => by subst h; cases e; rfl) (fun q h => by cases ty <;> cases e <;> first | (cases hc; cases h; decide +kernel) | (obtain ⟨D, hD, hp⟩ := tyVal_cls hc; cases hp; cases h))
  | ref a =>
    have e0 : isOf M (.ref a) ty = isOf M (.ref a) ty := rfl
    conv at e0 => rhs; unfold isOf
    rw [e0] at e
    simp only at e
    cases hm : M a with
    | none => rw [hm] at e; cases e
    | some o =>
      rw [hm] at e
      obtain ⟨_, q⟩ := t.mem a o hm
      cases q with
      | lst h rs => exact fin (.base (.lst h)) (by decide) (fun c h => by subst h; cases e; rfl) (fun q h => by cases ty <;> cases e <;> first | (cases hc; cases h; decide +kernel) | (obtain ⟨D, hD, hp⟩ := tyVal_cls hc; cases hp; cases h))
      | ins hC h rs =>
        rename_i D dx cn fs gs
        obtain ⟨c1, c2, c3⟩ := S.cls _ _ hC
        refine ⟨.ref D, .base (.ins h c1 c2 S.get S.tk c3), ?_⟩
        cases ty with
        | cls d =>
          obtain ⟨D', hD, hp⟩ := tyVal_cls hc
          cases hp
          cases e
          exact S.two _ _ _ _ hC hD
        | int => cases hc; cases e; exact S.bi _ _ _ hC (by decide)
        | bool => cases hc; cases e; exact S.bi _ _ _ hC (by decide)
        | str => cases hc; cases e; exact S.bi _ _ _ hC (by decide)
        | tuple => cases hc; cases e; exact S.bi _ _ _ hC (by decide)
        | list => cases hc; cases e; exact S.bi _ _ _ hC (by decide)
        | dict => cases hc; cases e; exact S.bi _ _ _ hC (by decide)
end
section
variable {X : Cx} {C : Co} {e : Expr} {ce : CE} {pos : Pos}
/-- the name of a kind in the text -/
def tyName : Ty → String
  | .int => "int" | .bool => "bool" | .str => "str" | .tuple => "tuple" | .list => "list" | .dict => "dict" | .cls c => c
theorem g_isi {ty : Ty} {te : Expr} {x : Str} {c : V} {u : Value} {p : Pos} (hx : x = Str.ofString "isinstance") (hK : X.K = C.K) (S : IsC C.K C.cA) (hg : L2.Gl X x) (hm : X.mg x = none) (hs : ∀ z p, e ≠ .Starred z p) (hs2 : ∀ z p, te ≠ .Starred z p) (he : PE X e (TX C ce)) (ht : PE X te (tC c)) (hc : tyVal C.cA ty = some (c, u)) (hcv : ClsV c u) :
    PE X (.Call (.Name x p) [e, te] [] pos) (TX C (.isi ce ty)) := by
  subst hx
  refine (pe_callB call_isi hg hm (by decide +kernel) (pa_cons he (pa_cons ht pa_nil (star_false hs2 _)) (star_false hs _)) (by decide) (by decide) (star_false hs _) (by rw [star_false hs2]; rfl)).imp fun σ H Q ⟨R, F, env, M, QQ, XX, t, st, w, k, kx⟩ => ?_
  refine ⟨R, F, env, M, _, XX, t, st, w, fun F1 H1 M1 x v s1 t1 r1 q1 => ?_, kx⟩
  have q1 : (match isOf M1 x ty with | some b => QQ (.bl b) M1 | none => False) := q1
  cases e1 : isOf M1 x ty with
  | none => rw [e1] at q1; exact q1.elim
  | some b =>
    rw [e1] at q1
    obtain ⟨tv, h1, h2⟩ := isOf_ok S t1 r1 e1 hc
    rw [hK]
    exact ⟨v, c, tv, u, b, rfl, hcv, h1, h2, (k.sub s1).at t1 (.bl b) q1⟩
end
end IB
end

section
set_option Elab.async false
set_option linter.all false
set_option maxRecDepth 100000
set_option maxHeartbeats 4000000
/-! S13: try. -/
namespace IB
open PySem PySem.Spec PyProof.Rows L2
/-- a thing of the heap that is none of the store is known from now on -/
theorem Sto.pin {K : Frag} {cA : Tn} {R F H : Hp} {M : MM} {d : Addr} {gs : List (Str × V)} (t : Sto K cA R F H M) (h : H d = some (.xd gs)) : ∃ F1, Sub F F1 ∧ Sto K cA R F1 H M ∧ F1 d = some (.xd gs) := by
  have fc : ∀ o, F d = some o → o = .xd gs := fun o z => by
    have := t.sub _ _ z
    rw [h] at this
    exact (Option.some.inj this).symm
  have sb : Sub F (L2.upd F d (.xd gs)) := fun a o z => by
    by_cases hb : a = d
    · subst hb; rw [upd_same, fc o z]
    · rw [upd_ne hb]; exact z
  refine ⟨L2.upd F d (.xd gs), sb, ⟨fun a o z => ?_, fun a o z => ?_, fun a o z => ?_, t.tab, fun a ps z => ?_, t.rl⟩, upd_same⟩
  · by_cases hb : a = d
    · subst hb; rw [upd_same] at z; rw [← z]; exact h
    · rw [upd_ne hb] at z; exact t.sub _ _ z
  · obtain ⟨h1, h2⟩ := t.mem a o z
    have hb : a ≠ d := fun q => by
      cases h2 with
      | lst e _ => rw [q, h] at e; cases e
      | ins _ e _ => rw [q, h] at e; cases e
    exact ⟨by rw [upd_ne hb]; exact h1, h2.keep sb fun v q => q⟩
  · obtain ⟨h1, h2, h3⟩ := t.res a o z
    obtain ⟨xs, rfl⟩ := t.rl a o z
    have hb : a ≠ d := fun q => by rw [q, h] at h1; cases h1
    exact ⟨h1, by rw [upd_ne hb]; exact h2, h3⟩
  · by_cases hb : a = d
    · subst hb; rw [upd_same] at z; cases z
    · rw [upd_ne hb] at z; exact t.ft a ps z
/-- in an except suite: the caught exception is at a -/
def suiteCo (C : Co) (a : Addr) (cls : Value) (d : Option Addr) : Co := { C with
  Cl := fun R F sv v => match sv with
    | .exc c fs => v = .ref a ∧ ∃ E dd gs, C.eA c = some E ∧ cls = .ref E ∧ d = some dd ∧ F dd = some (.xd gs) ∧ RepFs C.K F fs gs
    | sv => C.Cl R F sv v
  W := fun _ _ _ _ => False
  mono := fun R F F' sv v s h => by
    cases sv with
    | exc c fs =>
      obtain ⟨e1, E, dd, gs, h1, h2, h3, h4, h5⟩ := h
      exact ⟨e1, E, dd, gs, h1, h2, h3, s _ _ h4, h5.sub s⟩
    | pv p => exact C.mono _ _ _ _ _ s h
    | fn f => exact C.mono _ _ _ _ _ s h
    | clo _ _ _ => exact C.mono _ _ _ _ _ s h }
/-- what the body's exceptions are to meet -/
def tryCo (C : Co) (W : WX) : Co := { C with W := W }
theorem KontN.try {C : Co} {W : WX} {R F : Hp} {QQ : Env → MM → Prop} {Q : L2.St → Hp → Prop} (h : KontN C R F QQ Q) : KontN (tryCo C W) R F QQ Q := fun F' H' M' σ' env' s' t' st' q => h F' H' M' σ' env' s' t' ⟨st'.len, st'.at_⟩ q
theorem KontD.try {C : Co} {W : WX} {R F : Hp} {DD : IB.Ends} {D : L2.Ends} (k : KontD C R F DD D) : KontD (tryCo C W) R F DD D := ⟨k.nx.try, k.rt, k.bk.try, k.ct.try⟩
def noExc : SV → Bool
  | .exc _ _ => false
  | _ => true
theorem slot_dropX {env : Env} {j : Nat} {sv : SV} (h : slot (dropX env) j = some sv) : slot env j = some sv ∧ noExc sv = true := by
  unfold slot dropX at h
  rw [List.getElem?_map] at h
  unfold slot
  cases e : env[j]? with
  | none => rw [e] at h; cases h
  | some x =>
    rw [e] at h
    cases x with
    | none => cases h
    | some y =>
      cases y with
      | pv p => exact ⟨h, by obtain rfl := Option.some.inj h; rfl⟩
      | fn f => exact ⟨h, by obtain rfl := Option.some.inj h; rfl⟩
      | clo _ _ _ => exact ⟨h, by obtain rfl := Option.some.inj h; rfl⟩
      | exc _ _ => cases h
theorem dropX_len (env : Env) : (dropX env).length = env.length := by unfold dropX; rw [List.length_map]
theorem RepS.suite {C : Co} {a : Addr} {cls : Value} {d : Option Addr} {R F : Hp} {sv : SV} {v : V} (h : noExc sv = true) : RepS (suiteCo C a cls d) R F sv v ↔ RepS C R F sv v := by
  cases sv with
  | pv p => exact Iff.rfl
  | fn f => exact Iff.rfl
  | clo _ _ _ => exact Iff.rfl
  | exc _ _ => cases h
/-- what an exception class answers -/
structure ExOk (C : Co) (K : Frag) : Prop where
  one : ∀ cn E, C.eA cn = some E → XfC K E ∧ ExcC K E
section
variable {X : Cx} {C : Co} {body suite : List Stmt} {b₀ : Stmt} {np pos pos' : Pos} {cb cs : CSs}
/-- the suite's reading, entered -/
theorem suite_rd {R F H : Hp} {M : MM} {σ : L2.St} {env : Env} {DD : IB.Ends} {D : L2.Ends} {i : Nat} {a : Addr} {cn : String} {fs : List (String × PV)} {cls : Value} {d : Option Addr} (t : Sto C.K C.cA R F H M) (st : StS C R F σ env) (er : ExR C F H cn fs cls d) (k : KontD C R F DD D)
    (w : wSs C.G C.call cs ((dropX env).set i (some (.exc cn fs))) M { nx := fun env' M' => DD.nx (dropX (env'.set i none)) M', rt := DD.rt, bk := fun env' M' => DD.bk (dropX (env'.set i none)) M', ct := fun env' M' => DD.ct (dropX (env'.set i none)) M' } (fun _ _ _ _ => False)) :
    TSs' (suiteCo C a cls d) cs { nx := fun σ' H' => D.nx (σ'.set i none) H', rt := D.rt, bk := fun σ' H' => D.bk (σ'.set i none) H', ct := fun σ' H' => D.ct (σ'.set i none) H' } (σ.set i (some (.ref a))) H := by
  obtain ⟨E, dd, gs, e1, e2, e3, e4, e5⟩ := er.ex
  obtain ⟨F1, s1, t1, f1⟩ := t.pin e4
  have back : ∀ {F2 : Hp} {σ' : L2.St} {env' : Env}, StS (suiteCo C a cls d) R F2 σ' env' → StS C R F2 (σ'.set i none) (dropX (env'.set i none)) := fun {F2 σ' env'} st' => by
    refine ⟨by rw [dropX_len, List.length_set, List.length_set]; exact st'.len, fun j sv e => ?_⟩
    obtain ⟨h1, h2⟩ := slot_dropX e
    rw [slot_set] at h1
    by_cases c : i = j ∧ j < env'.length
    · rw [if_pos c] at h1; cases h1
    · rw [if_neg c] at h1
      obtain ⟨v, h3, h4⟩ := st'.at_ j sv h1
      refine ⟨v, ?_, (RepS.suite h2).mp h4⟩
      have hj : j < σ'.length := (List.getElem?_eq_some_iff.mp h3).1
      have ne : i ≠ j := fun z => c ⟨z, by rw [st'.len]; exact hj⟩
      rw [List.getElem?_set_ne ne]
      exact h3
  refine ⟨R, F1, _, M, _, _, t1, ⟨by rw [List.length_set, List.length_set, dropX_len]; exact st.len, fun j sv e => ?_⟩, w, ⟨fun F2 H2 M2 σ2 env2 s2 t2 st2 q2 => k.nx F2 H2 M2 _ _ (s1.trans s2) t2 (back st2) q2, fun F2 H2 M2 p v s2 t2 r2 q2 => k.rt F2 H2 M2 p v (s1.trans s2) t2 r2 q2, fun F2 H2 M2 σ2 env2 s2 t2 st2 q2 => k.bk F2 H2 M2 _ _ (s1.trans s2) t2 (back st2) q2, fun F2 H2 M2 σ2 env2 s2 t2 st2 q2 => k.ct F2 H2 M2 _ _ (s1.trans s2) t2 (back st2) q2⟩, fun _ _ _ _ _ _ _ _ _ _ _ _ _ z => z.elim⟩
  rw [slot_set] at e
  by_cases c : i = j ∧ j < (dropX env).length
  · rw [if_pos c] at e
    cases e
    obtain ⟨rfl, h2⟩ := c
    rw [dropX_len, st.len] at h2
    exact ⟨.ref a, List.getElem?_set_self h2, rfl, E, dd, gs, e1, e2, e3, f1, e5.sub s1⟩
  · rw [if_neg c] at e
    obtain ⟨h1, h2⟩ := slot_dropX e
    obtain ⟨v, h3, h4⟩ := st.at_ j sv h1
    refine ⟨v, ?_, (RepS.suite h2).mpr (h4.sub s1)⟩
    have hj : j < σ.length := (List.getElem?_eq_some_iff.mp h3).1
    have ne : i ≠ j := fun z => c ⟨z, by rw [dropX_len, st.len]; exact hj⟩
    rw [List.getElem?_set_ne ne]
    exact h3
/-- .. of a clause without a name -/
theorem suite_rd0 {R F H : Hp} {M : MM} {σ : L2.St} {env : Env} {DD : IB.Ends} {D : L2.Ends} {a : Addr} {cls : Value} {d : Option Addr} (t : Sto C.K C.cA R F H M) (st : StS C R F σ env) (k : KontD C R F DD D)
    (w : wSs C.G C.call cs env M DD (fun _ _ _ _ => False)) : TSs' (tryCo C fun _ _ _ _ => False) cs D σ H :=
  ⟨R, F, env, M, DD, _, t, ⟨st.len, st.at_⟩, w, k.try, fun _ _ _ _ _ _ _ _ _ _ _ _ _ z => z.elim⟩
/-- try: .. except x as n: .. -/
theorem z_tryAs {xn : String} {x n : Str} {c : Value} {i : Nat} (hK : X.K = C.K) (hs : X.stack = X.env :: X.outer) (hf : X.env.frame = some X.env.locals) (hN : X.N.Nodup) (hi : X.N[i]? = some n) (hln : X.env.kindOf n = some .local) (hc : Names X x c) (tk : Takes X C.W)
    (hex : ∀ cn E ups ns, C.eA cn = some E → C.G.excs cn = some (ups, ns) → PySem.W.exmOne C.K (.ref E) c = some (ups.contains xn))
    (hb : ∀ (W : WX) (pn : List (Addr × Obj)) (xe : Value → Shared → Prop), Takes (X.tr pn xe) W → PassesOwn (model X.prog X.w) X.A X.env xe → PSs (X.tr pn xe) body (TSs' (tryCo C W) cb))
    (hsu : ∀ (a : Addr) (oe : Obj) (cls : Value) (d : Option Addr) (pn : List (Addr × Obj)), Zc cls d oe → (∃ vs, oe.data = .fields vs) → PSs (X.suite a ((a, oe) :: pn)) (b₀ :: suite) (TSs' (suiteCo C a cls d) cs)) :
    PS X (.Try body [.ExceptHandler (some (.Name x np)) (some n) (b₀ :: suite) pos'] [] [] pos) (TS' C (.try cb (.cons xn (some i) cs .nil))) := by
  refine (ps_try_as (tb := fun W => TSs' (tryCo C W) cb) (ts := fun a cls d => TSs' (suiteCo C a cls d) cs) hs hf hN hi hln hc tk hb hsu).imp fun D σ H ⟨R, F, env, M, DD, XX, t, st, w, k, kx⟩ => ?_
  refine ⟨R, F, env, M, DD, _, t, ⟨st.len, st.at_⟩, w, k.try, fun F1 H1 M1 σ1 env1 cn fs cls d s1 t1 st1 er q1 => ?_⟩
  have st1' : StS C R F1 σ1 env1 := ⟨st1.len, st1.at_⟩
  have er' : ExR C F1 H1 cn fs cls d := ⟨er.ex⟩
  obtain ⟨E, dd, gs, e1, e2, e3, e4, e5⟩ := er'.ex
  have q1 : (match C.G.excs cn with
    | some (ups, _) => if ups.contains xn = true then
        wSs C.G C.call cs ((dropX env1).set i (some (.exc cn fs))) M1 { nx := fun env' M' => DD.nx (dropX (env'.set i none)) M', rt := DD.rt, bk := fun env' M' => DD.bk (dropX (env'.set i none)) M', ct := fun env' M' => DD.ct (dropX (env'.set i none)) M' } (fun _ _ _ _ => False)
      else XX env1 cn fs M1
    | none => False) := q1
  cases hg : C.G.excs cn with
  | none => rw [hg] at q1; exact q1.elim
  | some p =>
    obtain ⟨ups, ns⟩ := p
    rw [hg] at q1
    have q1 : (if ups.contains xn = true then
        wSs C.G C.call cs ((dropX env1).set i (some (.exc cn fs))) M1 { nx := fun env' M' => DD.nx (dropX (env'.set i none)) M', rt := DD.rt, bk := fun env' M' => DD.bk (dropX (env'.set i none)) M', ct := fun env' M' => DD.ct (dropX (env'.set i none)) M' } (fun _ _ _ _ => False)
      else XX env1 cn fs M1) := q1
    refine ⟨ups.contains xn, by rw [hK, e2]; exact hex cn E ups ns e1 hg, fun hu a na => ?_, fun hu => ?_⟩
    · rw [if_pos hu] at q1
      exact suite_rd t1 st1' er' (k.sub s1) q1
    · rw [if_neg (by rw [hu]; exact Bool.false_ne_true)] at q1
      exact kx F1 H1 M1 σ1 env1 cn fs cls d s1 t1 st1' er' q1
/-- try: .. except x: .. -/
theorem z_tryOnly {xn : String} {x : Str} {c : Value} (hK : X.K = C.K) (hs : X.stack = X.env :: X.outer) (hf : X.env.frame = some X.env.locals) (hc : Names X x c) (tk : Takes X C.W)
    (hex : ∀ cn E ups ns, C.eA cn = some E → C.G.excs cn = some (ups, ns) → PySem.W.exmOne C.K (.ref E) c = some (ups.contains xn))
    (hb : ∀ (W : WX) (pn : List (Addr × Obj)) (xe : Value → Shared → Prop), Takes (X.tr pn xe) W → PassesOwn (model X.prog X.w) X.A X.env xe → PSs (X.tr pn xe) body (TSs' (tryCo C W) cb))
    (hsu : ∀ (a : Addr) (oe : Obj) (cls : Value) (d : Option Addr) (pn : List (Addr × Obj)), Zc cls d oe → (∃ vs, oe.data = .fields vs) → PSs (X.suite a ((a, oe) :: pn)) (b₀ :: suite) (TSs' (tryCo C fun _ _ _ _ => False) cs)) :
    PS X (.Try body [.ExceptHandler (some (.Name x np)) none (b₀ :: suite) pos'] [] [] pos) (TS' C (.try cb (.cons xn none cs .nil))) := by
  refine (ps_try_only (tb := fun W => TSs' (tryCo C W) cb) (ts := fun a cls d => TSs' (tryCo C fun _ _ _ _ => False) cs) hs hf hc tk hb hsu).imp fun D σ H ⟨R, F, env, M, DD, XX, t, st, w, k, kx⟩ => ?_
  refine ⟨R, F, env, M, DD, _, t, ⟨st.len, st.at_⟩, w, k.try, fun F1 H1 M1 σ1 env1 cn fs cls d s1 t1 st1 er q1 => ?_⟩
  have st1' : StS C R F1 σ1 env1 := ⟨st1.len, st1.at_⟩
  have er' : ExR C F1 H1 cn fs cls d := ⟨er.ex⟩
  obtain ⟨E, dd, gs, e1, e2, e3, e4, e5⟩ := er'.ex
  have q1 : (match C.G.excs cn with
    | some (ups, _) => if ups.contains xn = true then wSs C.G C.call cs env1 M1 DD (fun _ _ _ _ => False) else XX env1 cn fs M1
    | none => False) := q1
  cases hg : C.G.excs cn with
  | none => rw [hg] at q1; exact q1.elim
  | some p =>
    obtain ⟨ups, ns⟩ := p
    rw [hg] at q1
    have q1 : (if ups.contains xn = true then wSs C.G C.call cs env1 M1 DD (fun _ _ _ _ => False) else XX env1 cn fs M1) := q1
    refine ⟨ups.contains xn, by rw [hK, e2]; exact hex cn E ups ns e1 hg, fun hu a na => ?_, fun hu => ?_⟩
    · rw [if_pos hu] at q1
      exact suite_rd0 (a := a) (cls := cls) (d := d) t1 st1' (k.sub s1) q1
    · rw [if_neg (by rw [hu]; exact Bool.false_ne_true)] at q1
      exact kx F1 H1 M1 σ1 env1 cn fs cls d s1 t1 st1' er' q1
/-! ### what a suite asks of its exception -/
/-- e.f -/
theorem g_exf {a : Addr} {oe : Obj} {cls : Value} {d : Option Addr} {pn : List (Addr × Obj)} {x : Str} {i : Nat} {f : String} {p : Pos} (hK : X.K = C.K) (O : ExOk C C.K) (hno : ∀ cn E, C.eA cn = some E → PySem.W.findIn C.K (.ref E) (Str.ofString f) = some none) (hz : Zc cls d oe) (hf : ∃ vs, oe.data = .fields vs)
    (hN : X.N[i]? = some x) (hv : Vis X.env.scope x) (hd : (x == ("__debug__" : Str)) = false) (hcd : (x == ("__classdict__" : Str)) = false) (hb : attributeBase (.Name x p) (Str.ofString f) X.env (eval (.Name x p) X.env) = eval (.Name x p) X.env) :
    PE (X.suite a ((a, oe) :: pn)) (.Attribute (.Name x p) (Str.ofString f) pos) (TX (suiteCo C a cls d) (.exf i f)) := by
  refine ⟨fun pins s σ H Q I h => ?_⟩
  obtain ⟨R, F, env, M, QQ, XX, t, st, w, k, kx⟩ := h
  have w : (match slot env i with
    | some (.exc _ fs) => (match fs.lookup f with | some v => QQ v M | none => False)
    | _ => False) := w
  cases q : slot env i with
  | none => rw [q] at w; exact w.elim
  | some sv =>
    rw [q] at w
    cases sv with
    | pv p => exact w.elim
    | fn f => exact w.elim
    | clo _ _ _ => exact w.elim
    | exc cn fs =>
      have w : (match fs.lookup f with | some v => QQ v M | none => False) := w
      obtain ⟨v, h1, h2⟩ := st.at_ i _ q
      obtain ⟨rfl, E, dd, gs, e1, e2, e3, e4, e5⟩ := h2
      cases hl : fs.lookup f with
      | none => rw [hl] at w; exact w.elim
      | some y =>
        rw [hl] at w
        have q2 := t.sub _ _ e4
        obtain ⟨vy, g1, g2⟩ := fs_lookup e5 hl
        obtain ⟨T1, T2⟩ := O.one cn E e1
        refine (pe_xf (X := X) (C := E) (te := tVar i) (by rw [hK]; exact T1) (by rw [hK]; exact hno cn E e1) hz hf (pe_var (X := X.suite a ((a, oe) :: pn)) hN hv hd hcd) hb).run pins s σ H Q I ⟨_, h1, rfl, e2, dd, gs, vy, e3, q2, g1, k.at t g2 w⟩
where
  fs_lookup {K : Frag} {F : Hp} : ∀ {fs : List (String × PV)} {gs : List (Str × V)} {f : String} {y : PV}, RepFs K F fs gs → fs.lookup f = some y → ∃ v, gs.lookup (Str.ofString f) = some v ∧ RepV K F y v
    | [], _, _, _, _, h => by cases h
    | _ :: _, [], _, _, r, _ => nomatch r
    | k :: fs, z :: gs, f, y, .cons a b, h => by
      rw [List.lookup_cons] at h
      rw [List.lookup_cons, a.1, show (Str.ofString f == Str.ofString k.1) = (f == k.1) from by rw [beq_ofString]]
      cases e : f == k.1 with
      | true =>
        rw [e] at h
        obtain rfl := Option.some.inj h
        exact ⟨_, rfl, a.2⟩
      | false =>
        rw [e] at h
        exact fs_lookup b h
end
end IB
end

section
set_option Elab.async false
set_option linter.all false
set_option maxRecDepth 100000
set_option maxHeartbeats 4000000
/-! X3: isinstance of a caught exception that has fields. -/
namespace IB
open PySem PySem.Spec PySem.Calls PyProof.Rows PySem.HandSPX L2
open PySem.W (Looks InstAt clsIn findIn subIn mroIn nsIn typeIn keepIn hasDictIn codeIn specialIn takesIn findObj KitX looks_findIn looks_find looks_subIn class_get any_some)
section
variable {prog : Program} {w : World} {A : Around} {E : Value → Shared → Prop} {s : Shared} {K : Frag} {x D : Addr} {ox : Obj} {od : Option Obj}
theorem findD (hc : (clsIn K D).isSome = true) (ha : findIn K (.ref D) "__class__" = some (some (.builtin "object.__class__"))) (hn : specialIn K (.builtin "object.__class__") "__get__" = some (some (.builtin "getset_descriptor.__get__"))) (htk : takesIn K (.builtin "object.__class__") = some true) :
    findObj K D od "__class__" = some (.bind (.builtin "getset_descriptor.__get__") (.builtin "object.__class__")) := by
  obtain ⟨cd, hc'⟩ := Option.isSome_iff_exists.mp hc
  unfold findObj; rw [hc', Option.bind_some, ha, Option.bind_some]; simp [hn, htk]
theorem classD {Q : Option Value → Shared → Prop} (T : ExcC K D) (X : K.In s.heap) (I : InstAt s.heap x ox D od) (h : Q (some (.ref D)) { s with toks := s.toks + 1 }) : wpAny (model prog w) A (getAttr? (.ref x) "__class__") Q E s := by
  have hf : findObj K D od "__class__" = some (.bind (.builtin "getset_descriptor.__get__") (.builtin "object.__class__")) := findD (by obtain ⟨cd, hc, _⟩ := any_some T.hd; rw [hc]; rfl) T.ha T.hn T.ht
  obtain ⟨hp, g, d, t, os⟩ := s
  have a0 := I.type (M := model prog w); have a1 := looks_findIn (M := model prog w) X T.hg
  have a2 := looks_findIn (M := model prog w) X T.hk; have a3 := looks_find (M := model prog w) X I hf
  have sb : Looks (model prog w) hp (isInstance (.ref x) (.type "BaseException")) true := a0.andThen (looks_subIn X T.hs)
  have n0 : (false && onTheHeap (Value.builtin "BaseException.__getattribute__")) = false := rfl
  have n2 : (Value.builtin "BaseException.__getattribute__" == Value.builtin "object.__getattribute__") = false := by decide +kernel
  have n1 : (onTheHeap (Value.ref D) && Value.builtin "BaseException.__getattribute__" == Value.builtin "object.__getattribute__") = false := by rw [n2]; rfl
  unfold getAttr? getAttrBy? getAttrBy; refine wpAny_bind (wpAny_mkText (wpAny_bind (wpAny_attempt (wpAny_holding (wpAny_bind (a0.at (wpAny_bind (a1.at ?_)))))))); show wpAny _ _ (if (onTheHeap (Value.ref D) && Value.builtin "BaseException.__getattribute__" == Value.builtin "object.__getattribute__") = true then _ else _) _ _ _; rw [n1, if_neg Bool.false_ne_true]
  unfold getAttrByItsOwn hookBefore; refine wpAny_bind ?_; rw [if_pos (show onTheHeap (Value.ref D) = true from rfl)]; refine a2.at ?_; refine wpAny_bind (wpAny_attempt (wpAny_holding ?_)); unfold callGetattribute; rw [n0, if_neg Bool.false_ne_true]; unfold boundAndCalled; rw [PySem.F.excAttr_ValueError.ga.bind (.ref x)]; refine wpAny_bind (wpAny_pure ?_)
  show wpAny _ _ (call (.builtin "BaseException.__getattribute__") [.ref x, .str "__class__" t]) _ _ _; refine wpAny_call (codeAny_call_builtin PySem.F.excAttr_ValueError.ga.plain PySem.F.entry_bexc_ga ?_); refine @PySem.W.check_slot (model prog w) _ _ ⟨hp, g, d, t + 1, os⟩ "BaseException.__getattribute__" "BaseException" "__getattribute__" (.ref x) [.str "__class__" t] [] _ (by decide +kernel) (by decide +kernel) sb (PySem.F.args_bexc_ga (.ref x) (.str "__class__" t)) ?_
  unfold Builtin.«object.__getattribute__»; refine wpAny_bind (wpAny_of_eq (a := ((Value.ref x : Value), [Value.str "__class__" t])) (by first | rfl | (simp only [slotArgs]; rfl)) ?_); refine wpAny_bind (wpAny_pure (wpAny_bind (a0.at (wpAny_bind (a3.at ?_)))))
  show wpAny _ _ (holding [Value.builtin "object.__class__"] (call (.builtin "getset_descriptor.__get__") [.builtin "object.__class__", .ref x, .ref D]) >>= ret) _ _ _; refine wpAny_bind (wpAny_holding (wpAny_call (class_get (s := ⟨hp, g, d, t + 1, os⟩) (ox := ox) (od := od) X I T.hm ?_))); refine wpAny_pure ?_; show wpAny _ _ (handedOut (.ref D)) _ _ _; rw [PySem.W.handedOut_of (v := .ref D) rfl]
  first
    | exact wpAny_pure (wpAny_pure h)
    | exact wpAny_pure h
    | exact wpAny_pure (wpAny_bind (wpAny_pure (wpAny_pure h)))
theorem cls_not_tup {h : Heap} (hdct : hasDictIn K D = true) (X : K.In h) : ∃ o cd, h.get? D = some o ∧ o.data = .cls cd := by
  obtain ⟨cdD, hcD, _⟩ := any_some hdct
  unfold clsIn at hcD
  split at hcD
  · rename_i ho
    exact ⟨_, _, X _ _ ho, rfl⟩
  · cases hcD
theorem kitxD (T : ExcC K D) : KitX K (.ref x) (.ref D) (fun h => InstAt h x ox D od) where
  ty := fun _ _ _ I => I.type
  it := fun _ _ X _ => by
    obtain ⟨o, cd, ho, hd⟩ := cls_not_tup T.hd X
    intro A' Q' E' s' k q
    unfold isType loadHead
    exact wpAny_bind (wpAny_loadPart (k _ _ ho) (wpAny_pure (by simp only [hd] at *; exact q)))
  ne := fun h tp dd its n sl X htp => by
    refine Bool.eq_false_iff.mpr fun q => ?_
    obtain ⟨o, cd, ho, hd⟩ := cls_not_tup T.hd X
    have e : D = tp := Value.ref.inj (beq_iff_eq.mp q)
    rw [e, htp] at ho
    cases ho
    cases hd
  ca := fun X I k => classD T X I k
end
section
variable {X : Cx} {C : Co} {pos : Pos}
/-- a class that a suite asks about, as a value -/
theorem call_isX {a D : Addr} {oe : Obj} {pn : List (Addr × Obj)} {d : Option Addr} (T : ExcC X.K D) (hz : Zc (.ref D) d oe) (hf : ∃ vs, oe.data = .fields vs) {pins : List (Addr × Obj)} {s : Shared} {σ : L2.St} {H : Hp} {u2 : Value} {b : Bool} {Q : VK} {gs : List (Str × V)} (I : Inv (X.suite a ((a, oe) :: pn)) pins σ H s) (hd : ∀ dd, d = some dd → H dd = some (.xd gs))
    (e : PySem.W.kitOne X.K (.ref D) u2 = some b) (q : Q (.bl b) H) : wpAny (model X.prog X.w) (X.suite a ((a, oe) :: pn)).A (call (.builtin "isinstance") [.ref a, u2]) (EP (X.suite a ((a, oe) :: pn)) pins σ Q) (X.suite a ((a, oe) :: pn)).xe s := by
  obtain ⟨hget, _⟩ := I.pin (a, oe) (List.mem_append.mpr (.inl List.mem_cons_self))
  obtain ⟨vs, hv⟩ := hf
  obtain ⟨od, J⟩ : ∃ od, InstAt s.heap a oe D od := by
    obtain ⟨oc, odc, oda, osl⟩ := oe
    obtain ⟨h1, h2⟩ := hz
    dsimp only at h1 h2 hv
    subst h1 h2 hv
    cases odc with
    | none => exact ⟨none, hget, rfl, rfl, trivial⟩
    | some dd =>
      have hx : ObjOk X.prog X.w H s.heap dd (.xd gs) := I.hok dd _ (hd dd rfl)
      obtain ⟨mA, hns, hr⟩ := hx
      obtain ⟨o, ho, hl⟩ := lookIn_ns hns
      exact ⟨some o, hget, rfl, rfl, ho⟩
  exact PySem.W.kia_one (kitxD T) I.kIn J e (fun z => nomatch z) fun tk => ⟨.bl b, H, I.kept (t' := tk) fun _ _ z => z, rfl, q⟩
/-- isinstance(e, c) -/
theorem g_exi {a : Addr} {oe : Obj} {cls : Value} {d : Option Addr} {pn : List (Addr × Obj)} {x xi : Str} {i : Nat} {c : String} {te : Expr} {cv : V} {u : Value} {p p2 : Pos} (hxi : xi = Str.ofString "isinstance") (hK : X.K = C.K) (O : ExOk C C.K) (hk : ∀ cn E ups ns, C.eA cn = some E → C.G.excs cn = some (ups, ns) → PySem.W.kitOne C.K (.ref E) u = some (ups.contains c)) (hz : Zc cls d oe) (hf : ∃ vs, oe.data = .fields vs)
    (hg : L2.Gl X xi) (hm : X.mg xi = none) (hN : X.N[i]? = some x) (hv : Vis X.env.scope x) (hd : (x == ("__debug__" : Str)) = false) (hcd : (x == ("__classdict__" : Str)) = false) (hs2 : ∀ z p, te ≠ .Starred z p) (ht : PE (X.suite a ((a, oe) :: pn)) te (tC cv)) (hcv : ClsV cv u) :
    PE (X.suite a ((a, oe) :: pn)) (.Call (.Name xi p) [.Name x p2, te] [] pos) (TX (suiteCo C a cls d) (.exi i c)) := by
  subst hxi
  refine ⟨fun pins s σ H Q I h => ?_⟩
  obtain ⟨R, F, env, M, QQ, XX, t, st, w, k, kx⟩ := h
  have w : (match slot env i with
    | some (.exc d _) => (match C.G.excs d with | some (ups, _) => QQ (.bl (ups.contains c)) M | none => False)
    | _ => False) := w
  cases q : slot env i with
  | none => rw [q] at w; exact w.elim
  | some sv =>
    rw [q] at w
    cases sv with
    | pv p => exact w.elim
    | fn f => exact w.elim
    | clo _ _ _ => exact w.elim
    | exc cn fs =>
      have w : (match C.G.excs cn with | some (ups, _) => QQ (.bl (ups.contains c)) M | none => False) := w
      obtain ⟨v, h1, h2⟩ := st.at_ i _ q
      obtain ⟨rfl, E, dd, gs, e1, e2, e3, e4, e5⟩ := h2
      cases hG : C.G.excs cn with
      | none => rw [hG] at w; exact w.elim
      | some pr =>
        obtain ⟨ups, ns⟩ := pr
        rw [hG] at w
        obtain ⟨T1, T2⟩ := O.one cn E e1
        have wq : QQ (.bl (ups.contains c)) M := w
        subst e2
        have hcall : CallR (X.suite a ((a, oe) :: pn)) (.builtin "isinstance") (fun xs H Q => xs = [.ref a, cv] ∧ H dd = some (.xd gs) ∧ Q (.bl (ups.contains c)) H) := by
          intro pins s σ H xs us Q I r hh
          obtain ⟨rfl, hdd, hq⟩ := hh
          obtain ⟨u1, u2, rfl, r1, r2⟩ := vals2 r
          cases (show u1 = Value.ref a from r1)
          have e2 := hcv.eq r2
          subst e2
          exact call_isX (by rw [hK]; exact T2) hz hf I (fun d' h' => by rw [e3] at h'; cases h'; exact hdd) (by rw [hK]; exact hk cn E ups ns e1 hG) hq
        refine (pe_callB (X := X.suite a ((a, oe) :: pn)) hcall hg hm (by decide +kernel) (pa_cons (pe_var (X := X.suite a ((a, oe) :: pn)) hN hv hd hcd) (pa_cons ht pa_nil (star_false hs2 _)) (star_false (fun z p q => by cases q) _)) (by decide) (by decide) (star_false (fun z p q => by cases q) _) (by rw [star_false hs2]; rfl)).run pins s σ H Q I ?_
        exact ⟨_, h1, rfl, t.sub _ _ e4, k.at t (.bl _) wq⟩
end
end IB
end

section
set_option Elab.async false
set_option linter.all false
set_option maxRecDepth 100000
set_option maxHeartbeats 4000000
/-! S14: whether a text is Core's. -/
namespace IB
open PySem PySem.Spec PyProof.Rows L2
/-- what is known of the names of the module -/
structure Tb where
  defs : List String
  clss : List String
  /-- own exceptions and their field -/
  excs : List (String × String)
  /-- names in except clauses; in isinstance of caught ones; fields of caught ones -/
  hnd : List String
  xis : List String
  xfs : List String
structure Cfg where
  N : List Str
  sc : Scope
  /-- the scope as written -/
  st : Scope
  hot : Bool
  lam : Bool
  exv : Bool
def visK (g : Cfg) (x : Str) : Bool := match g.sc.names.lookup x with
  | some .local => true
  | some .cell => true
  | some .free => true
  | _ => false
def locK (g : Cfg) (x : Str) : Bool := match g.sc.names.lookup x with
  | some .local => true
  | some .cell => (match g.st.names.lookup x with | some .cell => true | _ => false)
  | _ => false
/-- a block's scope, behind its entry -/
def relS (scope sc : Scope) : Scope := { scope with names := scope.names.map fun (n, k) => if (k == NameKind.free && sc.kind == .function && sc.names.lookup n == some .cell) then (n, NameKind.cell) else (n, k) }
def isAt (g : Cfg) (i : Nat) (x : Str) : Bool := match g.N[i]? with
  | some y => y == x
  | none => false
def glB (g : Cfg) (x : Str) : Bool := (match g.sc.names.lookup x with | some .globalImplicit => true | _ => false) && !(x == ("__debug__" : Str))
def notStar : Expr → Bool
  | .Starred _ _ => false
  | _ => true
def notSet : Expr → Bool
  | .Set _ _ _ => false
  | _ => true
def notSlice : Expr → Bool
  | .Slice _ _ _ _ => false
  | _ => true
def notComp : Expr → Bool
  | .ListComp _ _ _ _ => false
  | .SetComp _ _ _ _ => false
  | .DictComp _ _ _ _ _ => false
  | _ => true
/-- no call: nothing is asked about super -/
def notCall : Expr → Bool
  | .Call _ _ _ _ => false
  | _ => true
def biName : Bi → String
  | .len => "len" | .sum => "sum" | .int => "int" | .abs => "abs" | .min => "min" | .max => "max" | .tuple => "tuple" | .all => "all" | .any => "any" | .divmod => "divmod" | .str => "str"
def ownL (N : List Str) (own : List Nat) : List (Str × Nat) := own.map fun i => (N[i]?.getD default, i)
def blkB (g : Cfg) (scope : Scope) (own : List Nat) : Bool :=
  decide (scope.kind = .function) && scope.names.all (fun y => decide (scope.names.lookup y.1 = some y.2)) && own.all (fun i => decide (i < g.N.length)) &&
  scope.names.all (fun y => match y.2 with
    | .free => (match g.sc.names.lookup y.1 with | some .cell => true | some .free => true | _ => false)
    | .local => own.any (fun i => isAt g i y.1) || !g.N.contains y.1
    | .cell => own.any (fun i => isAt g i y.1) || !g.N.contains y.1
    | _ => true)
def nnB (N : List Str) : Bool := N.all fun x => !(x == ("__debug__" : Str)) && !(x == ("__classdict__" : Str))
def simpleB (p : Arguments) (ps : List Str) : Bool := match p with
  | ⟨[], as, none, [], _, none, _⟩ => decide (as.map (·.arg) = ps)
  | _ => false
def noDef (p : Arguments) : Bool := match p with
  | ⟨_, _, _, _, [], _, []⟩ => true
  | _ => false
/-- a lambda's names -/
def cloB (p : Arguments) (scope : Scope) (ps fr : List Str) : Bool :=
  decide (scope.kind = .function) && !scope.isCoroutine && !scope.isGenerator && scope.names.all (fun y => !decide (y.2 = .cell)) && ps.all (fun x => decide (scope.names.lookup x = some .local)) && fr.all (fun x => decide (scope.names.lookup x = some .free)) && decide (ps ++ fr).Nodup && simpleB p ps && nnB (ps ++ fr)
def tgLocal : Expr → Option Str
  | .Name x _ => some x
  | _ => none
mutual
def chkE (T : Tb) : Nat → Cfg → Expr → CE → Bool
  | 0, _, _, _ => false
  | n + 1, g, e, c => match c with
    | .non => (match e with | .Constant .none _ _ => true | _ => false)
    | .bl b => (match e with | .Constant (.bool d) _ _ => b == d | _ => false)
    | .int i => (match e with | .Constant (.int j) _ _ => i == j | _ => false)
    | .str s => (match e with | .Constant (.str x) _ _ => x == Str.ofString s | _ => false)
    | .var i => (match e with | .Name x _ => isAt g i x && visK g x | _ => false)
    | .glob s => (match e with | .Name x _ => x == Str.ofString s && glB g x | _ => false)
    | .tup as => (match e with | .Tuple es _ _ => chkD T n g es as | _ => false)
    | .frh _ f => chkF T n g e f
    | .bin op a b => (match e with | .BinOp x o y _ => decide (o = opOf op) && chkE T n g x a && chkE T n g y b | _ => false)
    | .neg a => (match e with | .UnaryOp .USub x _ => chkE T n g x a | _ => false)
    | .cmp op a b => (match e with | .Compare x [o] [y] _ => decide (o = cmpOf op) && !behindInMarks (cmpOf op) y && chkE T n g x a && chkE T n g y b | _ => false)
    | .chn a o1 b o2 d => (match e with | .Compare x [p1, p2] [y, z] _ => decide (p1 = cmpOf o1) && decide (p2 = cmpOf o2) && !lastMarks [cmpOf o1, cmpOf o2] [y, z] && chkE T n g x a && chkE T n g y b && chkE T n g z d | _ => false)
    | .and a b => (match e with
      | .BoolOp .And (x :: y :: r) p => chkE T n g x a && (match r with | [] => chkE T n g y b | _ :: _ => chkE T n g (.BoolOp .And (y :: r) p) b)
      | _ => false)
    | .or a b => (match e with
      | .BoolOp .Or (x :: y :: r) p => chkE T n g x a && (match r with | [] => chkE T n g y b | _ :: _ => chkE T n g (.BoolOp .Or (y :: r) p) b)
      | _ => false)
    | .not a => (match e with | .UnaryOp .Not x _ => chkE T n g x a | _ => false)
    | .ife a b d => (match e with | .IfExp x y z _ => chkE T n g x a && chkE T n g y b && chkE T n g z d | _ => false)
    | .call f as => (match e with
      | .Call (.Name x _) es kws _ => !g.hot && x == Str.ofString f && T.defs.contains f && glB g x && chkA T n g es kws as
      | _ => false)
    | .calv i as => (match e with
      | .Call (.Name x _) es kws _ => !g.hot && kws.isEmpty && isAt g i x && visK g x && chkA T n g es kws as
      | _ => false)
    | .bi b as => (match e with
      | .Call (.Name x _) (y :: ys) [] _ => !g.hot && x == Str.ofString (biName b) && glB g x && notStar y && ys.all notStar && chkD T n g (y :: ys) as
      | _ => false)
    | .isi a t => (match e with
      | .Call (.Name x _) [y, .Name z _] [] _ => !g.hot && x == Str.ofString "isinstance" && glB g x && z == Str.ofString (tyName t) && glB g z && (match t with | .cls c => T.clss.contains c | _ => true) && notStar y && chkE T n g y a
      | _ => false)
    | .exf i f => (match e with
      | .Attribute (.Name x _) y _ => g.exv && y == Str.ofString f && T.xfs.contains f && isAt g i x && visK g x
      | _ => false)
    | .exi i c => (match e with
      | .Call (.Name x _) [.Name y _, .Name z _] [] _ => g.exv && x == Str.ofString "isinstance" && glB g x && z == Str.ofString c && glB g z && T.xis.contains c && isAt g i y && visK g y
      | _ => false)
    | .sub a i => (match e with | .Subscript x y _ => notSlice y && chkE T n g x a && chkE T n g y i | _ => false)
    | .sli a lo hi => (match e with
      | .Subscript x (.Slice l h none _) _ => chkE T n g x a && (match l with | none => isNon lo | some y => !isNon lo && chkE T n g y lo) && (match h with | none => isNon hi | some y => !isNon hi && chkE T n g y hi)
      | _ => false)
    | .lme a m as => (match e with
      | .Call (.Attribute o nm ap) es [] p => !g.hot && ap.endLine == p.line && notCall o && chkE T n g o a && nm == Str.ofString m && (match es with
        | [] => m == "pop" && (match as with | .nil => true | _ => false)
        | [y] => (m == "append" || m == "extend") && notStar y && chkD T n g [y] as
        | _ => false)
      | _ => false)
    | .att a f => (match e with
      | .Attribute o y _ => !g.hot && notCall o && y == Str.ofString f && chkE T n g o a
      | _ => false)
    | .mth a m as => (match e with
      | .Call (.Attribute o y ap) es kws p => !g.hot && ap.endLine == p.line && notCall o && y == Str.ofString m && decide (es.length + kws.length < 29) && chkE T n g o a && chkA T n g es kws as
      | _ => false)
    | .new c as => (match e with
      | .Call (.Name x _) es kws _ => !g.hot && x == Str.ofString c && T.clss.contains c && glB g x && chkA T n g es kws as
      | _ => false)
    | .ide ne a b => (match e with | .Compare x [o] [y] _ => decide (o = ideOp ne) && !behindInMarks (ideOp ne) y && chkE T n g x a && chkE T n g y b | _ => false)
def chkD (T : Tb) : Nat → Cfg → List Expr → CAs → Bool
  | 0, _, _, _ => false
  | n + 1, g, es, as => match as with
    | .nil => (match es with | [] => true | _ => false)
    | .pos c r => (match es with | e :: es => notStar e && chkE T n g e c && chkD T n g es r | _ => false)
    | .star c r => (match es with | .Starred e _ :: es => !g.hot && chkE T n g e c && chkD T n g es r | _ => false)
    | _ => false
def chkA (T : Tb) : Nat → Cfg → List Expr → List Keyword → CAs → Bool
  | 0, _, _, _, _ => false
  | n + 1, g, es, kws, as => match as with
    | .nil => (match es with | [] => kws.isEmpty | _ => false)
    | .pos c r => (match es with | e :: es => notStar e && chkE T n g e c && chkA T n g es kws r | _ => false)
    | .fn f r => (match es with | .Name x _ :: es => x == Str.ofString f && T.defs.contains f && glB g x && chkA T n g es kws r | _ => false)
    | .kw x c r => (match es with
      | [] => (match kws with | ⟨some y, e, _⟩ :: kws => y == Str.ofString x && chkE T n g e c && chkA T n g [] kws r | _ => false)
      | _ => false)
    | .lam np caps b .nil => (match es with
      | [.Lambda ps body scope _] => g.lam && kws.isEmpty && noDef ps && decide ((ps.args.map (·.arg)).length = np) && cloB ps scope (ps.args.map (·.arg)) (caps.map fun i => g.N[i]?.getD default) &&
          caps.all (fun i => decide (i < g.N.length)) && scope.names.all (fun y => match y.2 with | .free => (match g.sc.names.lookup y.1 with | some .cell => true | some .free => true | _ => false) | _ => true) &&
          caps.all (fun i => match g.sc.names.lookup (g.N[i]?.getD default) with | some .cell => true | some .free => true | _ => false) &&
          chkE T n { N := ps.args.map (·.arg) ++ caps.map fun i => g.N[i]?.getD default, sc := scope, st := scope, hot := false, lam := false, exv := false } body b
      | _ => false)
    | _ => false
def chkF (T : Tb) : Nat → Cfg → Expr → CF → Bool
  | 0, _, _, _ => false
  | n + 1, g, e, f => match f with
    | .dis as => (match e with | .List es _ => chkD T n g es as | _ => false)
    | .cmp el t it c own => (match e with
      | .ListComp elt [⟨tg, iter, ifs, k⟩] scope _ => !g.hot && k == 0 && blkB g scope own && chkI T n g tg iter it && notSet iter && (tgVars t).all own.contains &&
          chkG T n { N := g.N, sc := relS scope g.sc, st := scope, hot := false, lam := false, exv := false } tg t && chkE T n { N := g.N, sc := relS scope g.sc, st := scope, hot := false, lam := false, exv := false } elt el &&
          (match ifs with
            | [] => (match c with | .bl true => true | _ => false)
            | [y] => chkE T n { N := g.N, sc := relS scope g.sc, st := scope, hot := false, lam := false, exv := false } y c
            | _ => false)
      | _ => false)
    | .ofl a => (match e with | .Call (.Name x _) [y] [] _ => !g.hot && x == Str.ofString "list" && glB g x && notStar y && chkE T n g y a | _ => false)
def chkI (T : Tb) : Nat → Cfg → Expr → Expr → CI → Bool
  | 0, _, _, _, _ => false
  | n + 1, g, tg, e, it => match it with
    | .seq c => chkE T n g e c
    | .rng1 a => (match e with | .Call (.Name x _) [y] [] _ => x == Str.ofString "range" && glB g x && notStar y && chkE T n g y a | _ => false)
    | .rng2 a b => (match e with | .Call (.Name x _) [y, z] [] _ => x == Str.ofString "range" && glB g x && notStar y && notStar z && chkE T n g y a && chkE T n g z b | _ => false)
    | .rng3 a b d => (match e with | .Call (.Name x _) [y, z, u] [] _ => x == Str.ofString "range" && glB g x && notStar y && notStar z && notStar u && chkE T n g y a && chkE T n g z b && chkE T n g u d | _ => false)
    | .enum a => (match tg with
      | .Tuple _ _ _ => (match e with | .Call (.Name x _) [y] [] _ => x == Str.ofString "enumerate" && glB g x && notStar y && chkE T n g y a | _ => false)
      | _ => false)
    | _ => false
def chkG (T : Tb) : Nat → Cfg → Expr → CT → Bool
  | 0, _, _, _ => false
  | n + 1, g, e, t => match t with
    | .var i => (match e with | .Name x _ => isAt g i x && locK g x | _ => false)
    | .tup ts => (match e with | .Tuple es _ _ => !g.hot && chkGs T n g es ts | _ => false)
    | .sub a i => (match e with | .Subscript x y _ => notSlice y && chkE T n g x a && chkE T n g y i | _ => false)
    | .att a f => (match e with | .Attribute x y _ => y == Str.ofString f && chkE T n g x a | _ => false)
def chkGs (T : Tb) : Nat → Cfg → List Expr → CTs → Bool
  | 0, _, _, _ => false
  | n + 1, g, es, ts => match ts with
    | .nil => (match es with | [] => true | _ => false)
    | .cons t r => (match es with | e :: es => notStar e && chkG T n g e t && chkGs T n g es r | _ => false)
end
/-- a lambda -/
def chkL (T : Tb) : Chk := fun n ps fr params scope e c => cloB params scope ps fr && chkE T n { N := ps ++ fr, sc := scope, st := scope, hot := false, lam := false, exv := false } e c
end IB
end

section
set_option Elab.async false
set_option linter.all false
set_option maxRecDepth 100000
set_option maxHeartbeats 4000000
/-! S15: the checker is right. -/
namespace IB
open PySem PySem.Spec PyProof.Rows L2
def bltNames : List String := ["len", "sum", "int", "abs", "min", "max", "tuple", "all", "any", "divmod", "str", "isinstance", "range", "enumerate", "zip", "list", "bool", "dict", "super"]
/-- the class that a name tells -/
def NameIs (mg : Str → Option Value) (x : Str) (c : Value) : Prop := mg x = some c ∨ (mg x = none ∧ bootBuiltins x = some c ∧ x ≠ "__name__")
/-- what is known of the module -/
structure GOk (T : Tb) (P : Program) (K : Frag) (mg : Str → Option Value) (cA : Tn) (eA fA : String → Option Addr) (G : Gl) : Prop where
  defs : ∀ f ∈ T.defs, ∃ a, fA f = some a ∧ mg (Str.ofString f) = some (.ref a)
  consts : ∀ s p, G.consts s = some p → ∃ u v, mg (Str.ofString s) = some u ∧ RelV v u ∧ RepV K (fun _ => none) p v
  blt : ∀ b ∈ bltNames, mg (Str.ofString b) = none
  clss : ∀ c ∈ T.clss, ∃ D, cA.cls c = some D ∧ mg (Str.ofString c) = some (.ref D)
  isc : IsC K cA
  excs : ∀ p ∈ T.excs, ∃ C fI ups, mg (Str.ofString p.1) = some (.ref C) ∧ ExTxt P K C fI (Str.ofString p.2) ∧ eA p.1 = some C ∧ G.excs p.1 = some (ups, [p.2])
  hnd : ∀ x ∈ T.hnd, ∃ c, NameIs mg (Str.ofString x) c ∧ ∀ cn E ups ns, eA cn = some E → G.excs cn = some (ups, ns) → PySem.W.exmOne K (.ref E) c = some (ups.contains x)
  xis : ∀ x ∈ T.xis, ∃ cv u, ClsV cv u ∧ NameIs mg (Str.ofString x) u ∧ ∀ cn E ups ns, eA cn = some E → G.excs cn = some (ups, ns) → PySem.W.kitOne K (.ref E) u = some (ups.contains x)
  xfs : ∀ f ∈ T.xfs, ∀ cn E, eA cn = some E → PySem.W.findIn K (.ref E) (Str.ofString f) = some none
  exo : ∀ cn E, eA cn = some E → XfC K E ∧ ExcC K E
  own : ClsOk K cA fA G
  pln : PlainOk K cA G
/-- a context that a configuration tells of -/
structure Ok (T : Tb) (fA : String → Option Addr) (n : Nat) (g : Cfg) (X : Cx) (C : Co) : Prop where
  hN : X.N = g.N
  sc : X.env.scope = g.sc
  nd : g.N.Nodup
  nn : nnB g.N = true
  hK : X.K = C.K
  go : GOk T X.prog C.K X.mg C.cA C.eA fA C.G
  hu : X.A.units + 65 < cLine
  fn : ∀ x, g.st.names.lookup x = some .cell → X.fn x = true
  fit : g.hot = false → Fit (chkL T) fA n X C
  lam : g.lam = true → LamOk X C
  sui : g.exv = true → ∃ X0 C0 a oe cls d pn, X = Cx.suite X0 a ((a, oe) :: pn) ∧ C = suiteCo C0 a cls d ∧ Zc cls d oe ∧ ∃ vs, oe.data = .fields vs
section
variable {T : Tb} {fA : String → Option Addr} {n : Nat} {g : Cfg} {X : Cx} {C : Co}
theorem ns {e : Expr} (h : notStar e = true) : ∀ z p, e ≠ .Starred z p := fun z p q => by subst q; cases h
theorem Ok.calm (o : Ok T fA n g X C) (h : (!g.hot) = true) : X.calm = true := (o.fit (by simpa using h)).calm
theorem Ok.fit' (o : Ok T fA n g X C) (h : (!g.hot) = true) : Fit (chkL T) fA n X C := o.fit (by simpa using h)
theorem Ok.at (o : Ok T fA n g X C) {i : Nat} {x : Str} (h : isAt g i x = true) : X.N[i]? = some x ∧ (x == ("__debug__" : Str)) = false ∧ (x == ("__classdict__" : Str)) = false := by
  unfold isAt at h
  cases e : g.N[i]? with
  | none => rw [e] at h; cases h
  | some y =>
    rw [e] at h
    have : y = x := by simpa using h
    subst this
    have nn := o.nn
    unfold nnB at nn
    rw [List.all_eq_true] at nn
    have q := nn y (List.mem_of_getElem? e)
    simp only [Bool.and_eq_true, Bool.not_eq_true'] at q
    exact ⟨by rw [o.hN]; exact e, q.1, q.2⟩
theorem Ok.vis (o : Ok T fA n g X C) {x : Str} (h : visK g x = true) : Vis X.env.scope x := by
  unfold Vis
  rw [o.sc]
  unfold visK at h
  split at h <;> first | (cases h; done) | simp_all
theorem Ok.loc (o : Ok T fA n g X C) {x : Str} (h : locK g x = true) : Loc X.env.scope x ∧ (X.fn x = true ∨ X.env.scope.names.lookup x = some .local) := by
  show (X.env.scope.names.lookup x = some .local ∨ X.env.scope.names.lookup x = some .cell) ∧ _
  rw [o.sc]
  unfold locK at h
  split at h
  · rename_i e; exact ⟨.inl e, .inr e⟩
  · rename_i e
    split at h
    · rename_i e2; exact ⟨.inr e, .inl (o.fn x e2)⟩
    · cases h
  · cases h
theorem Ok.gl (o : Ok T fA n g X C) {x : Str} (h : glB g x = true) : L2.Gl X x ∧ (x == ("__debug__" : Str)) = false := by
  unfold glB at h
  rw [Bool.and_eq_true] at h
  obtain ⟨h1, h2⟩ := h
  refine ⟨?_, by simpa using h2⟩
  show X.env.scope.names.lookup x = some .globalImplicit
  rw [o.sc]
  split at h1
  · assumption
  · cases h1
theorem abase {o : Expr} (h : notCall o = true) (m : Str) (env : PySem.Env) (w : Sem Value) : attributeBase o m env w = w := by
  cases o <;> first | rfl | cases h
theorem plainIx {b : Expr} (h : notSlice b = true) : PlainIx b := by
  intro o i
  cases b <;> first | rfl | cases h
theorem set_eq {a i : Expr} {pos : Pos} {env : PySem.Env} (h : notSlice i = true) : ∀ v, assign (.Subscript a i pos) env v = (do
      let ov ← holding [v] (eval a env)
      let iv ← holding [v, ov] (eval i env)
      standAt pos
      holding [v, ov, iv] (setItem ov iv v)
      release [v, ov, iv] []) := by
  intro v
  cases i <;> first | rfl | cases h
theorem notSet_eq {e : Expr} (h : notSet e = true) (env : PySem.Env) : ∀ x, foldedSetIterable e env x = pure x := by
  intro x
  cases e <;> first | rfl | cases h
end
end IB
end

section
set_option Elab.async false
set_option linter.all false
set_option maxRecDepth 100000
set_option maxHeartbeats 4000000
/-! S16: expressions. -/
namespace IB
open PySem PySem.Spec PyProof.Rows L2
/-- the checker is right with so much fuel -/
structure Snd (T : Tb) (fA : String → Option Addr) (m : Nat) : Prop where
  E : ∀ g e c, chkE T m g e c = true → ∀ n X C, Ok T fA n g X C → PE X e (TX C c) ∧ PT X e (TY C c)
  D : ∀ g es as, chkD T m g es as = true → ∀ n X C, Ok T fA n g X C → PA X es (TL C as)
  A : ∀ g es kws as, chkA T m g es kws as = true → g.hot = false → ∀ n X C, Ok T fA n g X C → ∃ rest, PosR (chkL T) fA X C es as rest ∧ KwsR X C kws rest ∧ (es = [] → as = rest) ∧ (∀ e r, es = e :: r → ∀ z p, e ≠ .Starred z p) ∧ (kws = [] → rest = .nil)
  F : ∀ g e f, chkF T m g e f = true → ∀ n X C, Ok T fA n g X C → PE X e (TF C f)
  I : ∀ g tg e it, chkI T m g tg e it = true → ∀ n X C, Ok T fA n g X C → PI X tg e (TI' C it)
  G : ∀ g e t, chkG T m g e t = true → ∀ n X C, Ok T fA n g X C → PG X e (TG' C t)
  Gs : ∀ g es ts, chkGs T m g es ts = true → ∀ n X C, Ok T fA n g X C → PGs X es (TGs' C ts) ∧ (∀ env, (assignEach es env).findIdx? (·.1) = none) ∧ ∀ env, (assignEach es env).length = tgLen ts
section
variable {T : Tb} {fA : String → Option Addr} {n m : Nat} {g : Cfg} {X : Cx} {C : Co}
theorem mem_of_contains {l : List String} {x : String} (h : l.contains x = true) : x ∈ l := by simpa using h
/-- a plain expression as value and as test -/
theorem both {e : Expr} {c : CE} (he : ∀ whole, isTrue e X.env whole = (do let v ← whole; standAt e.pos; holding [v] (truthy v))) (h : PE X e (TX C c)) : PE X e (TX C c) ∧ PT X e (TY C c) := ⟨h, t_val he h⟩
theorem t_one {op : BoolOp} {a : Expr} {t : TT} {pos : Pos} (h : PT X a t) : PW X (.BoolOp op [a] pos) t := by
  cases op
  · exact pw_and1 h
  · exact pw_or1 h
/-- an own class or a built-in one, as a value -/
theorem name_val {mg : Str → Option Value} {z : Str} {c : V} {u : Value} {p : Pos} (hmg : X.mg = mg) (hg : L2.Gl X z) (hd : (z == ("__debug__" : Str)) = false) (h : NameIs mg z u) (r : ClsV c u) : PE X (.Name z p) (tC c) := by
  subst hmg
  have rv : RelV c u := by cases r <;> rfl
  rcases h with h | ⟨h1, h2, h3⟩
  · exact pe_glob hg h rv hd
  · exact pe_bltn hg h1 h2 rv h3 hd
theorem ty_name (go : GOk T X.prog C.K X.mg C.cA C.eA fA C.G) {t : Ty} (h : (match t with | .cls c => T.clss.contains c | _ => true) = true) : ∃ c u, tyVal C.cA t = some (c, u) ∧ ClsV c u ∧ NameIs X.mg (Str.ofString (tyName t)) u := by
  cases t with
  | int => exact ⟨_, _, rfl, .ty "int", .inr ⟨go.blt "int" (by decide), by decide +kernel, by decide +kernel⟩⟩
  | bool => exact ⟨_, _, rfl, .ty "bool", .inr ⟨go.blt "bool" (by decide), by decide +kernel, by decide +kernel⟩⟩
  | str => exact ⟨_, _, rfl, .ty "str", .inr ⟨go.blt "str" (by decide), by decide +kernel, by decide +kernel⟩⟩
  | tuple => exact ⟨_, _, rfl, .ty "tuple", .inr ⟨go.blt "tuple" (by decide), by decide +kernel, by decide +kernel⟩⟩
  | list => exact ⟨_, _, rfl, .ty "list", .inr ⟨go.blt "list" (by decide), by decide +kernel, by decide +kernel⟩⟩
  | dict => exact ⟨_, _, rfl, .ty "dict", .inr ⟨go.blt "dict" (by decide), by decide +kernel, by decide +kernel⟩⟩
  | cls c =>
    obtain ⟨D, h1, h2⟩ := go.clss c (mem_of_contains h)
    exact ⟨.ref D, .ref D, by show (C.cA.cls c).map _ = _; rw [h1]; rfl, .own D, .inl h2⟩
theorem bi_mg (go : GOk T X.prog C.K X.mg C.cA C.eA fA C.G) (b : Bi) : X.mg (Str.ofString (biName b)) = none := go.blt _ (by cases b <;> decide)
theorem anyStar : ∀ {es : List Expr}, es.all notStar = true → ∀ (pos : Pos) env, (backTo pos (starEach es env)).any (·.1) = false
  | [], _, _, _ => rfl
  | e :: es, h, pos, env => by
    rw [List.all_cons, Bool.and_eq_true] at h
    rw [back_false (ns h.1)]
    show (false || _) = false
    rw [Bool.false_or]
    exact anyStar h.2 pos env
theorem snd_E (h : Snd T fA m) : ∀ g e c, chkE T (m + 1) g e c = true → ∀ n X C, Ok T fA n g X C → PE X e (TX C c) ∧ PT X e (TY C c) := by
  intro g e c hc n X C o
  cases c with
  | non =>
    unfold chkE at hc; dsimp only at hc
    split at hc
    · exact both (fun _ => rfl) g_non
    · cases hc
  | bl b =>
    unfold chkE at hc; dsimp only at hc
    split at hc
    · obtain rfl := (beq_iff_eq.mp hc)
      exact both (fun _ => rfl) g_bl
    · cases hc
  | int i =>
    unfold chkE at hc; dsimp only at hc
    split at hc
    · obtain rfl := (beq_iff_eq.mp hc)
      exact both (fun _ => rfl) g_int
    · cases hc
  | str s =>
    unfold chkE at hc; dsimp only at hc
    split at hc
    · exact both (fun _ => rfl) (g_str (by simpa using hc))
    · cases hc
  | var i =>
    unfold chkE at hc; dsimp only at hc
    split at hc
    · rw [Bool.and_eq_true] at hc
      obtain ⟨a1, a2, a3⟩ := o.at hc.1
      exact both (fun _ => rfl) (g_var a1 (o.vis hc.2) a2 a3)
    · cases hc
  | glob s =>
    unfold chkE at hc; dsimp only at hc
    split at hc
    · rw [Bool.and_eq_true] at hc
      have e1 := beq_iff_eq.mp hc.1
      obtain ⟨a1, a2⟩ := o.gl hc.2
      exact both (fun _ => rfl) (g_glob e1 a1 (fun p hp => by rw [e1]; exact o.go.consts s p hp) a2)
    · cases hc
  | tup as =>
    unfold chkE at hc; dsimp only at hc
    split at hc
    · exact both (fun _ => rfl) (g_tup (h.D _ _ _ hc n X C o))
    · cases hc
  | frh box f =>
    unfold chkE at hc; dsimp only at hc
    have q := g_frh (box := box) (h.F _ _ _ hc n X C o)
    refine both (fun _ => ?_) q
    cases m with
    | zero => unfold chkF at hc; cases hc
    | succ m =>
      unfold chkF at hc
      split at hc
      · split at hc
        · rfl
        · cases hc
      · split at hc
        · rfl
        · cases hc
      · split at hc
        · rfl
        · cases hc
  | bin op a b =>
    unfold chkE at hc; dsimp only at hc
    split at hc
    · simp only [Bool.and_eq_true, decide_eq_true_eq] at hc
      obtain ⟨⟨rfl, h1⟩, h2⟩ := hc
      exact both (fun _ => rfl) (g_bin o.hK (h.E _ _ _ h1 n X C o).1 (h.E _ _ _ h2 n X C o).1)
    · cases hc
  | neg a =>
    unfold chkE at hc; dsimp only at hc
    split at hc
    · exact both (fun _ => rfl) (g_neg (h.E _ _ _ hc n X C o).1)
    · cases hc
  | cmp op a b =>
    unfold chkE at hc; dsimp only at hc
    split at hc
    · simp only [Bool.and_eq_true, decide_eq_true_eq, Bool.not_eq_true'] at hc
      obtain ⟨⟨⟨rfl, h0⟩, h1⟩, h2⟩ := hc
      exact ⟨g_cmp o.hK o.hu h0 (h.E _ _ _ h1 n X C o).1 (h.E _ _ _ h2 n X C o).1, t_cmp o.hK o.hu h0 (h.E _ _ _ h1 n X C o).1 (h.E _ _ _ h2 n X C o).1⟩
    · cases hc
  | chn a o1 b o2 d =>
    unfold chkE at hc; dsimp only at hc
    split at hc
    · simp only [Bool.and_eq_true, decide_eq_true_eq, Bool.not_eq_true'] at hc
      obtain ⟨⟨⟨⟨⟨rfl, rfl⟩, h0⟩, h1⟩, h2⟩, h3⟩ := hc
      exact ⟨g_chn o.hK o.hu h0 (h.E _ _ _ h1 n X C o).1 (h.E _ _ _ h2 n X C o).1 (h.E _ _ _ h3 n X C o).1, t_chn o.hK o.hu h0 (h.E _ _ _ h1 n X C o).1 (h.E _ _ _ h2 n X C o).1 (h.E _ _ _ h3 n X C o).1⟩
    · cases hc
  | and a b =>
    unfold chkE at hc; dsimp only at hc
    split at hc
    · rename_i x y r p
      rw [Bool.and_eq_true] at hc
      obtain ⟨p1, t1⟩ := h.E _ _ _ hc.1 n X C o
      have hb : PE X (.BoolOp .And (y :: r) p) (TX C b) ∧ PW X (.BoolOp .And (y :: r) p) (TY C b) := by
        have h2 := hc.2
        cases r with
        | nil =>
          obtain ⟨p2, t2⟩ := h.E _ _ _ h2 n X C o
          exact ⟨pe_one p2, t_one t2⟩
        | cons z r =>
          obtain ⟨p2, t2⟩ := h.E _ _ _ h2 n X C o
          refine ⟨p2, ⟨fun whole pins s σ H Q I q => ?_⟩⟩
          exact t2.run pins s σ H Q I q
      exact ⟨g_and p1 hb.1, (w_and t1 hb.2).pt⟩
    · cases hc
  | or a b =>
    unfold chkE at hc; dsimp only at hc
    split at hc
    · rename_i x y r p
      rw [Bool.and_eq_true] at hc
      obtain ⟨p1, t1⟩ := h.E _ _ _ hc.1 n X C o
      have hb : PE X (.BoolOp .Or (y :: r) p) (TX C b) ∧ PW X (.BoolOp .Or (y :: r) p) (TY C b) := by
        have h2 := hc.2
        cases r with
        | nil =>
          obtain ⟨p2, t2⟩ := h.E _ _ _ h2 n X C o
          exact ⟨pe_one p2, t_one t2⟩
        | cons z r =>
          obtain ⟨p2, t2⟩ := h.E _ _ _ h2 n X C o
          refine ⟨p2, ⟨fun whole pins s σ H Q I q => ?_⟩⟩
          exact t2.run pins s σ H Q I q
      exact ⟨g_or p1 hb.1, (w_or t1 hb.2).pt⟩
    · cases hc
  | not a =>
    unfold chkE at hc; dsimp only at hc
    split at hc
    · obtain ⟨p1, t1⟩ := h.E _ _ _ hc n X C o
      exact ⟨g_not p1, t_not t1⟩
    · cases hc
  | ife a b d =>
    unfold chkE at hc; dsimp only at hc
    split at hc
    · simp only [Bool.and_eq_true] at hc
      obtain ⟨⟨h1, h2⟩, h3⟩ := hc
      obtain ⟨p1, t1⟩ := h.E _ _ _ h1 n X C o
      obtain ⟨p2, t2⟩ := h.E _ _ _ h2 n X C o
      obtain ⟨p3, t3⟩ := h.E _ _ _ h3 n X C o
      exact ⟨g_ife t1 p2 p3, t_ife t1 t2 t3⟩
    · cases hc
  | call f as =>
    unfold chkE at hc; dsimp only at hc
    split at hc
    · rename_i x p es kws pos
      simp only [Bool.and_eq_true] at hc
      obtain ⟨⟨⟨⟨h0, h1⟩, h2⟩, h3⟩, h4⟩ := hc
      have e1 := beq_iff_eq.mp h1
      obtain ⟨a1, a2⟩ := o.gl h3
      obtain ⟨fa, f1, f2⟩ := o.go.defs f (mem_of_contains h2)
      obtain ⟨rest, ha, hk, h5, h6, h7⟩ := h.A _ _ _ _ h4 (by simpa using h0) n X C o
      rw [← e1] at f2
      refine both (fun _ => rfl) ?_
      cases es with
      | nil =>
        rw [h5 rfl]
        exact g_call0 (o.fit' h0) a1 f2 f1 a2 hk
      | cons e es => exact g_call (o.fit' h0) a1 f2 f1 a2 (h6 e es rfl) ha hk
    · cases hc
  | calv i as =>
    unfold chkE at hc; dsimp only at hc
    split at hc
    · rename_i x p es kws pos
      simp only [Bool.and_eq_true] at hc
      obtain ⟨⟨⟨⟨h0, h1⟩, h2⟩, h3⟩, h4⟩ := hc
      have e1 : kws = [] := by simpa using h1
      subst e1
      obtain ⟨a1, a2, a3⟩ := o.at h2
      obtain ⟨rest, ha, hk, h5, h6, h7⟩ := h.A _ _ _ _ h4 (by simpa using h0) n X C o
      refine both (fun _ => rfl) ?_
      obtain rfl := h7 rfl
      exact g_calv (o.fit' h0) a1 (o.vis h3) a2 a3 (fun e r z p q => h6 e r q z p) ha h5
    · cases hc
  | bi b as =>
    unfold chkE at hc; dsimp only at hc
    split at hc
    · simp only [Bool.and_eq_true] at hc
      obtain ⟨⟨⟨⟨⟨h0, h1⟩, h2⟩, h3⟩, h4⟩, h5⟩ := hc
      have e1 := beq_iff_eq.mp h1
      obtain ⟨a1, a2⟩ := o.gl h2
      have hm := bi_mg o.go b
      rw [← e1] at hm
      exact both (fun _ => rfl) (g_bi o.hK (o.calm h0) (by rw [e1]; cases b <;> rfl) a1 hm (ns h3) (fun env => anyStar h4 _ env) (h.D _ _ _ h5 n X C o))
    · cases hc
  | isi a t =>
    unfold chkE at hc; dsimp only at hc
    split at hc
    · simp only [Bool.and_eq_true] at hc
      obtain ⟨⟨⟨⟨⟨⟨⟨h0, h1⟩, h2⟩, h3⟩, h4⟩, h5⟩, h6⟩, h7⟩ := hc
      have e1 := beq_iff_eq.mp h1
      have e2 := beq_iff_eq.mp h3
      obtain ⟨a1, a2⟩ := o.gl h2
      obtain ⟨b1, b2⟩ := o.gl h4
      obtain ⟨c, u, q1, q2, q3⟩ := ty_name o.go h5
      rw [← e2] at q3
      exact both (fun _ => rfl) (g_isi e1 o.hK o.go.isc a1 (by rw [e1]; exact o.go.blt _ (by decide)) (ns h6) (fun z p q => by cases q) (h.E _ _ _ h7 n X C o).1 (name_val rfl b1 b2 q3 q2) q1 q2)
    · cases hc
  | exf i f =>
    unfold chkE at hc; dsimp only at hc
    split at hc
    · simp only [Bool.and_eq_true] at hc
      obtain ⟨⟨⟨⟨h0, h1⟩, h2⟩, h3⟩, h4⟩ := hc
      have e1 := beq_iff_eq.mp h1
      subst e1
      obtain ⟨a1, a2, a3⟩ := o.at h3
      have hv := o.vis h4
      have hK := o.hK
      have go := o.go
      obtain ⟨X0, C0, a, oe, cls, d, pn, rfl, rfl, hz, hf⟩ := o.sui h0
      exact both (fun _ => rfl) (g_exf (X := X0) (C := C0) hK ⟨go.exo⟩ (fun cn E hE => go.xfs f (mem_of_contains h2) cn E hE) hz hf a1 hv a2 a3 (abase rfl _ _ _))
    · cases hc
  | exi i c =>
    unfold chkE at hc; dsimp only at hc
    split at hc
    · simp only [Bool.and_eq_true] at hc
      obtain ⟨⟨⟨⟨⟨⟨⟨h0, h1⟩, h2⟩, h3⟩, h4⟩, h5⟩, h6⟩, h7⟩ := hc
      have e1 := beq_iff_eq.mp h1
      have e2 := beq_iff_eq.mp h3
      obtain ⟨a1, a2⟩ := o.gl h2
      obtain ⟨b1, b2⟩ := o.gl h4
      obtain ⟨c1, c2, c3⟩ := o.at h6
      have hv := o.vis h7
      have hK := o.hK
      have go := o.go
      obtain ⟨cv, u, q1, q2, q3⟩ := go.xis c (mem_of_contains h5)
      rw [← e2] at q2
      have nv := fun p => name_val (X := X) (p := p) rfl b1 b2 q2 q1
      obtain ⟨X0, C0, a, oe, cls, d, pn, rfl, rfl, hz, hf⟩ := o.sui h0
      exact both (fun _ => rfl) (g_exi (X := X0) (C := C0) e1 hK ⟨go.exo⟩ q3 hz hf a1 (by rw [e1]; exact go.blt _ (by decide)) c1 hv c2 c3 (fun z p q => by cases q) (nv _) q1)
    · cases hc
  | sub a i =>
    unfold chkE at hc; dsimp only at hc
    split at hc
    · simp only [Bool.and_eq_true] at hc
      obtain ⟨⟨h0, h1⟩, h2⟩ := hc
      exact both (fun _ => rfl) (g_sub o.hK (plainIx h0) (h.E _ _ _ h1 n X C o).1 (h.E _ _ _ h2 n X C o).1)
    · cases hc
  | sli a lo hi =>
    unfold chkE at hc; dsimp only at hc
    split at hc
    · rename_i x l hh p1 p2
      simp only [Bool.and_eq_true] at hc
      obtain ⟨⟨h0, h1⟩, h2⟩ := hc
      have part : ∀ {y : Option Expr} {c : CE}, (match y with | none => isNon c | some y => !isNon c && chkE T m g y c) = true → PartOk X C y c := fun {y c} q => by
        cases y with
        | none =>
          have q : isNon c = true := q
          show c = .non
          cases c <;> first | rfl | cases q
        | some y =>
          have q : (!isNon c && chkE T m g y c) = true := q
          rw [Bool.and_eq_true] at q
          exact ⟨by simpa using q.1, (h.E _ _ _ q.2 n X C o).1⟩
      exact both (fun _ => rfl) (g_sli o.hK (h.E _ _ _ h0 n X C o).1 (part h1) (part h2))
    · cases hc
  | lme a mm as =>
    unfold chkE at hc; dsimp only at hc
    split at hc
    · rename_i ob nm ap es p
      simp only [Bool.and_eq_true] at hc
      obtain ⟨⟨⟨⟨⟨h0, h1⟩, h2⟩, h3⟩, h4⟩, h5⟩ := hc
      have e1 := beq_iff_eq.mp h4
      subst e1
      obtain ⟨p1, _⟩ := h.E _ _ _ h3 n X C o
      refine both (fun _ => rfl) ?_
      split at h5
      · rw [Bool.and_eq_true] at h5
        obtain ⟨h6, h7⟩ := h5
        obtain rfl := beq_iff_eq.mp h6
        split at h7
        · exact g_pop o.hK h1 p1 (abase h2 _ _ _)
        · cases h7
      · rename_i y
        simp only [Bool.and_eq_true, Bool.or_eq_true] at h5
        obtain ⟨⟨h6, h7⟩, h8⟩ := h5
        rcases h6 with h6 | h6
        · obtain rfl := beq_iff_eq.mp h6
          exact g_append o.hK h1 (ns h7) p1 (h.D _ _ _ h8 n X C o) (abase h2 _ _ _)
        · obtain rfl := beq_iff_eq.mp h6
          exact g_extend o.hK h1 (ns h7) p1 (h.D _ _ _ h8 n X C o) (abase h2 _ _ _)
      · cases h5
    · cases hc
  | att a f =>
    unfold chkE at hc; dsimp only at hc
    split at hc
    · simp only [Bool.and_eq_true] at hc
      obtain ⟨⟨⟨h0, h1⟩, h2⟩, h3⟩ := hc
      have e1 := beq_iff_eq.mp h2
      exact both (fun _ => rfl) (g_att e1 (o.fit' h0) (by rw [o.hK]; exact o.go.own) (abase h1 _ _ _) (h.E _ _ _ h3 n X C o).1)
    · cases hc
  | mth a mm as =>
    unfold chkE at hc; dsimp only at hc
    split at hc
    · simp only [Bool.and_eq_true, decide_eq_true_eq] at hc
      obtain ⟨⟨⟨⟨⟨⟨h0, h1⟩, h2⟩, h3⟩, h4⟩, h5⟩, h6⟩ := hc
      have e1 := beq_iff_eq.mp h3
      obtain ⟨rest, q1, q2, q3, q4, q5⟩ := h.A _ _ _ _ h6 (by simpa using h0) n X C o
      exact both (fun _ => rfl) (g_mth e1 (o.fit' h0) (by rw [o.hK]; exact o.go.own) (abase h2 _ _ _) h4 h1 (h.E _ _ _ h5 n X C o).1 (fun e r z p q => q4 e r q z p) q1 q2 q3)
    · cases hc
  | new c as =>
    unfold chkE at hc; dsimp only at hc
    split at hc
    · simp only [Bool.and_eq_true] at hc
      obtain ⟨⟨⟨⟨h0, h1⟩, h2⟩, h3⟩, h4⟩ := hc
      have e1 := beq_iff_eq.mp h1
      subst e1
      obtain ⟨a1, a2⟩ := o.gl h3
      obtain ⟨D, d1, d2⟩ := o.go.clss c (mem_of_contains h2)
      obtain ⟨rest, q1, q2, q3, q4, q5⟩ := h.A _ _ _ _ h4 (by simpa using h0) n X C o
      exact both (fun _ => rfl) (g_new (o.fit' h0) (by rw [o.hK]; exact o.go.own) a1 d2 d1 a2 (fun e r z p q => q4 e r q z p) q1 q2 q3)
    · cases hc
  | ide ne a b =>
    unfold chkE at hc; dsimp only at hc
    split at hc
    · simp only [Bool.and_eq_true, decide_eq_true_eq, Bool.not_eq_true'] at hc
      obtain ⟨⟨⟨h0, h1⟩, h2⟩, h3⟩ := hc
      subst h0
      exact ⟨g_ide o.hK o.hu o.go.pln h1 (h.E _ _ _ h2 n X C o).1 (h.E _ _ _ h3 n X C o).1, t_ide o.hK o.hu o.go.pln h1 (h.E _ _ _ h2 n X C o).1 (h.E _ _ _ h3 n X C o).1⟩
    · cases hc
end
end IB
end

section
set_option Elab.async false
set_option linter.all false
set_option maxRecDepth 100000
set_option maxHeartbeats 4000000
/-! S17: arguments, lists, targets; all fuel. -/
namespace IB
open PySem PySem.Spec PyProof.Rows L2
section
variable {T : Tb} {fA : String → Option Addr} {n m : Nat} {g : Cfg} {X : Cx} {C : Co}
theorem snd_D (h : Snd T fA m) : ∀ g es as, chkD T (m + 1) g es as = true → ∀ n X C, Ok T fA n g X C → PA X es (TL C as) := by
  intro g es as hc n X C o
  cases as with
  | nil =>
    unfold chkD at hc; dsimp only at hc
    split at hc
    · exact l_nil
    · cases hc
  | pos c r =>
    unfold chkD at hc; dsimp only at hc
    split at hc
    · simp only [Bool.and_eq_true] at hc
      obtain ⟨⟨h0, h1⟩, h2⟩ := hc
      exact l_pos (ns h0) (h.E _ _ _ h1 n X C o).1 (h.D _ _ _ h2 n X C o)
    · cases hc
  | star c r =>
    unfold chkD at hc; dsimp only at hc
    split at hc
    · simp only [Bool.and_eq_true] at hc
      obtain ⟨⟨h0, h1⟩, h2⟩ := hc
      exact l_star (h.E _ _ _ h1 n X C o).1 (h.D _ _ _ h2 n X C o) o.hK
    · cases hc
  | kw x e r => unfold chkD at hc; dsimp only at hc; cases hc
  | fn f r => unfold chkD at hc; dsimp only at hc; cases hc
  | lam np caps b r => unfold chkD at hc; dsimp only at hc; cases hc
theorem simple_of {p : Arguments} (h : simpleB p (p.args.map (·.arg)) = true) : SimpleP p (p.args.map (·.arg)) := by
  unfold simpleB at h
  split at h
  · exact ⟨rfl, rfl, rfl, rfl, rfl⟩
  · cases h
theorem simple_by {p : Arguments} {ps : List Str} (h : simpleB p ps = true) : SimpleP p ps := by
  unfold simpleB at h
  split at h
  · exact ⟨rfl, of_decide_eq_true h, rfl, rfl, rfl⟩
  · cases h
theorem clo_by {p : Arguments} {scope : Scope} {ps fr : List Str} (h : cloB p scope ps fr = true) : CloS p scope ps fr ∧ nnB (ps ++ fr) = true := by
  unfold cloB at h
  simp only [Bool.and_eq_true, decide_eq_true_eq, Bool.not_eq_true', List.all_eq_true, decide_eq_false_iff_not] at h
  obtain ⟨⟨⟨⟨⟨⟨⟨⟨h1, h2⟩, h3⟩, h4⟩, h5⟩, h6⟩, h7⟩, h8⟩, h9⟩ := h
  exact ⟨⟨h1, h2, h3, h4, h5, h6, h7, simple_by h8⟩, h9⟩
theorem noDef_eq {p : Arguments} (h : noDef p = true) : ∀ env, defaultsOf p env = ([], []) := by
  unfold noDef at h
  split at h
  · intro env; rfl
  · cases h
theorem snd_A (h : Snd T fA m) : ∀ g es kws as, chkA T (m + 1) g es kws as = true → g.hot = false → ∀ n X C, Ok T fA n g X C → ∃ rest, PosR (chkL T) fA X C es as rest ∧ KwsR X C kws rest ∧ (es = [] → as = rest) ∧ (∀ e r, es = e :: r → ∀ z p, e ≠ .Starred z p) ∧ (kws = [] → rest = .nil) := by
  intro g es kws as hc hh n X C o
  cases as with
  | nil =>
    unfold chkA at hc; dsimp only at hc
    split at hc
    · have e : kws = [] := by simpa using hc
      subst e
      exact ⟨.nil, a_nil, k_nil, fun _ => rfl, fun e r q => (by cases q), fun _ => rfl⟩
    · cases hc
  | pos c r =>
    unfold chkA at hc; dsimp only at hc
    split at hc
    · simp only [Bool.and_eq_true] at hc
      obtain ⟨⟨h0, h1⟩, h2⟩ := hc
      obtain ⟨rest, ha, hk, _, _, h7⟩ := h.A _ _ _ _ h2 hh n X C o
      exact ⟨rest, a_pos (ns h0) (h.E _ _ _ h1 n X C o).1 ha, hk, fun q => (by cases q), fun e r q => (by cases q; exact ns h0), h7⟩
    · cases hc
  | star c r => unfold chkA at hc; dsimp only at hc; cases hc
  | kw x c r =>
    unfold chkA at hc; dsimp only at hc
    split at hc
    · split at hc
      · simp only [Bool.and_eq_true] at hc
        obtain ⟨⟨h0, h1⟩, h2⟩ := hc
        have e1 := beq_iff_eq.mp h0
        obtain ⟨rest, ha, hk, h5, _, h7⟩ := h.A _ _ _ _ h2 hh n X C o
        obtain rfl := h5 rfl
        exact ⟨_, a_nil, k_cons e1 (h.E _ _ _ h1 n X C o).1 hk, fun _ => rfl, fun e r q => (by cases q), fun q => (by cases q)⟩
      · cases hc
    · cases hc
  | fn f r =>
    unfold chkA at hc; dsimp only at hc
    split at hc
    · simp only [Bool.and_eq_true] at hc
      obtain ⟨⟨⟨h0, h1⟩, h2⟩, h3⟩ := hc
      have e1 := beq_iff_eq.mp h0
      obtain ⟨a1, a2⟩ := o.gl h2
      obtain ⟨fa, f1, f2⟩ := o.go.defs f (mem_of_contains h1)
      rw [← e1] at f2
      obtain ⟨rest, ha, hk, _, _, h7⟩ := h.A _ _ _ _ h3 hh n X C o
      exact ⟨rest, a_fn e1 a1 f2 f1 a2 ha, hk, fun q => (by cases q), fun e r q => (by cases q; exact fun z p q => by cases q), h7⟩
    · cases hc
  | lam np caps b r =>
    cases r with
    | nil =>
      unfold chkA at hc; dsimp only at hc
      split at hc
      · rename_i ps body scope lp
        simp only [Bool.and_eq_true] at hc
        obtain ⟨⟨⟨⟨⟨⟨⟨⟨h0, h1⟩, h2⟩, h3⟩, h4⟩, h5⟩, h6⟩, h7⟩, h8⟩ := hc
        have e : kws = [] := by simpa using h1
        subst e
        refine ⟨.nil, a_lam (m := m) (ps := ps.args.map (·.arg)) (fr := caps.map fun i => g.N[i]?.getD default) (o.lam h0) (by unfold chkL; rw [h4, h8]; rfl) (of_decide_eq_true h3) (by rw [List.length_map]) (fun i j hj => ?_) (fun y hy e => ?_) (fun y hy => ?_) (noDef_eq h2), k_nil, fun q => (by cases q), fun e r q => (by cases q; exact fun z p q => by cases q), fun _ => rfl⟩
        · rw [List.all_eq_true] at h5
          have hl := of_decide_eq_true (h5 j (List.mem_of_getElem? hj))
          rw [List.getElem?_map, hj, o.hN, List.getElem?_eq_getElem hl]
          simp [List.getElem?_eq_getElem hl]
        · rw [List.all_eq_true] at h6
          have q := h6 y hy
          rw [e] at q
          dsimp only at q
          rw [o.sc]
          split at q
          · rename_i z; exact .inl z
          · rename_i z; exact .inr z
          · cases q
        · rw [List.all_eq_true] at h7
          obtain ⟨i, hi, rfl⟩ := List.mem_map.mp hy
          have q := h7 i hi
          rw [o.sc]
          split at q
          · rename_i z; exact .inl z
          · rename_i z; exact .inr z
          · cases q
      · cases hc
    | pos c r => unfold chkA at hc; dsimp only at hc; cases hc
    | star c r => unfold chkA at hc; dsimp only at hc; cases hc
    | kw x c r => unfold chkA at hc; dsimp only at hc; cases hc
    | fn c r => unfold chkA at hc; dsimp only at hc; cases hc
    | lam a b c d => unfold chkA at hc; dsimp only at hc; cases hc
theorem blk_by {scope : Scope} {own : List Nat} (hN : X.N = g.N) (hs : X.env.scope = g.sc) (h : blkB g scope own = true) : BlkOk X.N X.env.scope scope (ownL g.N own) ∧ (ownL g.N own).map (·.2) = own ∧ scope.kind = .function := by
  unfold blkB at h
  simp only [Bool.and_eq_true, decide_eq_true_eq, List.all_eq_true] at h
  obtain ⟨⟨⟨h1, h2⟩, h3⟩, h4⟩ := h
  have mem : ∀ {i : Nat} {x : Str}, i ∈ own → isAt g i x = true → x ∈ (ownL g.N own).map (·.1) := fun {i x} hi q => by
    unfold isAt at q
    unfold ownL
    rw [List.map_map]
    refine List.mem_map.mpr ⟨i, hi, ?_⟩
    cases e : g.N[i]? with
    | none => rw [e] at q; cases q
    | some y =>
      rw [e] at q
      have : y = x := by simpa using q
      show (g.N[i]?.getD default) = x
      rw [e]; exact this
  refine ⟨⟨h1, h2, fun p hp => ?_, fun y hy e => ?_, fun y hy e => ?_⟩, ?_, h1⟩
  · unfold ownL at hp
    obtain ⟨i, hi, rfl⟩ := List.mem_map.mp hp
    rw [hN]
    show g.N[i]? = some (g.N[i]?.getD default)
    rw [List.getElem?_eq_getElem (h3 i hi)]; rfl
  · have q := h4 y hy
    rw [e] at q
    dsimp only at q
    rw [hs]
    split at q
    · rename_i z; exact .inl z
    · rename_i z; exact .inr z
    · cases q
  · have q := h4 y hy
    have fin : (own.any (fun i => isAt g i y.1) || !g.N.contains y.1) = true → y.1 ∈ (ownL g.N own).map (·.1) ∨ y.1 ∉ X.N := fun q => by
      rw [Bool.or_eq_true] at q
      rcases q with q | q
      · obtain ⟨i, hi, q⟩ := List.any_eq_true.mp q
        exact .inl (mem hi q)
      · rw [hN]
        exact .inr (by simpa using q)
    rcases e with e | e <;> (rw [e] at q; exact fin q)
  · unfold ownL
    rw [List.map_map]
    show List.map (fun i => i) own = own
    rw [List.map_id']
/-- the block's context -/
theorem Ok.blk (o : Ok T fA n g X C) (hh : g.hot = false) {scope : Scope} {own : List Nat} (hb : blkB g scope own = true) (s : Shared) (H : Hp) (A : Addr) (cl : List (Str × Addr)) (fp : List Addr) :
    Ok T fA n { N := g.N, sc := relS scope g.sc, st := scope, hot := false, lam := false, exv := false } (X.blk s H scope (compEnvC scope cl A X.env) fp) (blkCo C) := by
  have f := o.fit hh
  refine ⟨o.hN, by rw [← o.sc]; rfl, o.nd, o.nn, o.hK, o.go, o.hu, fun x hx => ?_, fun _ => ⟨f.hK, f.calm, f.nd, ?_, f.roomS, f.call, @fun _ _ _ _ _ _ _ _ _ _ h => h.elim, f.fn⟩, fun h => (by cases h), fun h => (by cases h)⟩
  · have hx : scope.names.lookup x = some .cell := hx
    show (scope.names.lookup x == some .cell) = true
    rw [hx]; rfl
  · exact LamX.takes0
theorem snd_F (h : Snd T fA m) : ∀ g e f, chkF T (m + 1) g e f = true → ∀ n X C, Ok T fA n g X C → PE X e (TF C f) := by
  intro g e f hc n X C o
  cases f with
  | dis as =>
    unfold chkF at hc; dsimp only at hc
    split at hc
    · exact g_dis (h.D _ _ _ hc n X C o)
    · cases hc
  | cmp el t it c own =>
    unfold chkF at hc; dsimp only at hc
    split at hc
    · rename_i elt tg iter ifs k scope pos
      simp only [Bool.and_eq_true] at hc
      obtain ⟨⟨⟨⟨⟨⟨⟨⟨h0, h1⟩, h2⟩, h3⟩, h4⟩, h5⟩, h6⟩, h7⟩, h8⟩ := hc
      have e1 : k = 0 := by simpa using h1
      subst e1
      have hh : g.hot = false := by simpa using h0
      obtain ⟨b1, b2, b3⟩ := blk_by o.hN o.sc h2
      have ob := fun s H A cl fp => o.blk hh h2 s H A cl fp
      have q := g_comp (X := X) (C := C) (elt := elt) (tg := tg) (iter := iter) (ifs := ifs) (scope := scope) (own := ownL g.N own) (pos := pos) (cel := el) (cc := c) (ct := t) (it := it) (o.calm h0) (by rw [o.hN]; exact o.nd) (h.I _ _ _ _ h3 n X C o) b1
        (fun s H A cl fp => h.G _ _ _ h6 n _ _ (ob s H A cl fp)) (fun s H A cl fp => ?_) (fun s H A cl fp => (h.E _ _ _ h7 n _ _ (ob s H A cl fp)).1) (notSet_eq h4 _) (fun i hi => ?_)
      · rw [b2] at q
        exact q
      · split at h8
        · split at h8
          · exact pts_none
          · cases h8
        · exact pts_one' ((h.E _ _ _ h8 n _ _ (ob s H A cl fp)).2)
        · cases h8
      · rw [b2]
        rw [List.all_eq_true] at h5
        simpa using h5 i hi
    · cases hc
  | ofl a =>
    unfold chkF at hc; dsimp only at hc
    split at hc
    · simp only [Bool.and_eq_true] at hc
      obtain ⟨⟨⟨⟨h0, h1⟩, h2⟩, h3⟩, h4⟩ := hc
      have e1 := beq_iff_eq.mp h1
      exact g_ofl e1 o.hK (o.gl h2).1 (by rw [e1]; exact o.go.blt _ (by decide)) (ns h3) (h.E _ _ _ h4 n X C o).1
    · cases hc
where
  pts_one' {X : Cx} {c : Expr} {t : TT} (h : PT X c t) : PTs X [c] t := by
    refine ⟨fun pins s σ H Q I q => ?_⟩
    rw [List.forIn_cons]
    refine wpAny_bind ?_
    rw [if_pos rfl]
    refine wpAny_bind (thn (h.run pins s σ H Q I q) fun b s1 hb => ?_)
    refine wpAny_pure ?_
    show wpAny _ _ (forIn [] b _) _ _ _
    rw [List.forIn_nil]
    exact wpAny_pure hb
theorem snd_I (h : Snd T fA m) : ∀ g tg e it, chkI T (m + 1) g tg e it = true → ∀ n X C, Ok T fA n g X C → PI X tg e (TI' C it) := by
  intro g tg e it hc n X C o
  cases it with
  | seq c =>
    unfold chkI at hc; dsimp only at hc
    exact i_seq o.hK (h.E _ _ _ hc n X C o).1
  | rng1 a =>
    unfold chkI at hc; dsimp only at hc
    split at hc
    · simp only [Bool.and_eq_true] at hc
      obtain ⟨⟨⟨h0, h1⟩, h2⟩, h3⟩ := hc
      have e1 := beq_iff_eq.mp h0
      exact i_rng1 e1 (o.gl h1).1 (by rw [e1]; exact o.go.blt _ (by decide)) (ns h2) (h.E _ _ _ h3 n X C o).1
    · cases hc
  | rng2 a b =>
    unfold chkI at hc; dsimp only at hc
    split at hc
    · simp only [Bool.and_eq_true] at hc
      obtain ⟨⟨⟨⟨⟨h0, h1⟩, h2⟩, h3⟩, h4⟩, h5⟩ := hc
      have e1 := beq_iff_eq.mp h0
      exact i_rng2 e1 (o.gl h1).1 (by rw [e1]; exact o.go.blt _ (by decide)) (ns h2) (ns h3) (h.E _ _ _ h4 n X C o).1 (h.E _ _ _ h5 n X C o).1
    · cases hc
  | rng3 a b c =>
    unfold chkI at hc; dsimp only at hc
    split at hc
    · simp only [Bool.and_eq_true] at hc
      obtain ⟨⟨⟨⟨⟨⟨⟨h0, h1⟩, h2⟩, h3⟩, h4⟩, h5⟩, h6⟩, h7⟩ := hc
      have e1 := beq_iff_eq.mp h0
      exact i_rng3 e1 (o.gl h1).1 (by rw [e1]; exact o.go.blt _ (by decide)) (ns h2) (ns h3) (ns h4) (h.E _ _ _ h5 n X C o).1 (h.E _ _ _ h6 n X C o).1 (h.E _ _ _ h7 n X C o).1
    · cases hc
  | enum a =>
    unfold chkI at hc; dsimp only at hc
    split at hc
    · split at hc
      · simp only [Bool.and_eq_true] at hc
        obtain ⟨⟨⟨h0, h1⟩, h2⟩, h3⟩ := hc
        have e1 := beq_iff_eq.mp h0
        exact i_enum e1 o.hK (o.gl h1).1 (by rw [e1]; exact o.go.blt _ (by decide)) (ns h2) (h.E _ _ _ h3 n X C o).1
      · cases hc
    · cases hc
  | zip a b => unfold chkI at hc; dsimp only at hc; cases hc
theorem snd_G (h : Snd T fA m) : ∀ g e t, chkG T (m + 1) g e t = true → ∀ n X C, Ok T fA n g X C → PG X e (TG' C t) := by
  intro g e t hc n X C o
  cases t with
  | var i =>
    unfold chkG at hc; dsimp only at hc
    split at hc
    · rw [Bool.and_eq_true] at hc
      obtain ⟨l1, l2⟩ := o.loc hc.2
      exact s_var (by rw [o.hN]; exact o.nd) (o.at hc.1).1 l1 l2
    · cases hc
  | tup ts =>
    unfold chkG at hc; dsimp only at hc
    split at hc
    · rw [Bool.and_eq_true] at hc
      obtain ⟨q1, q2, q3⟩ := h.Gs _ _ _ hc.2 n X C o
      exact s_tup o.hK (o.calm hc.1) q1 q2 q3
    · cases hc
  | sub a i =>
    unfold chkG at hc; dsimp only at hc
    split at hc
    · simp only [Bool.and_eq_true] at hc
      obtain ⟨⟨h0, h1⟩, h2⟩ := hc
      exact s_sub (h.E _ _ _ h1 n X C o).1 (h.E _ _ _ h2 n X C o).1 (set_eq h0)
    · cases hc
  | att a f =>
    unfold chkG at hc; dsimp only at hc
    split at hc
    · rw [Bool.and_eq_true] at hc
      exact s_att (beq_iff_eq.mp hc.1) (by rw [o.hK]; exact o.go.own) (h.E _ _ _ hc.2 n X C o).1
    · cases hc
theorem assign_star {e : Expr} {es : List Expr} (hs : notStar e = true) : ∀ env, assignEach (e :: es) env = (false, assign e env) :: assignEach es env := by
  intro env
  cases e <;> first | rfl | cases hs
theorem snd_Gs (h : Snd T fA m) : ∀ g es ts, chkGs T (m + 1) g es ts = true → ∀ n X C, Ok T fA n g X C → PGs X es (TGs' C ts) ∧ (∀ env, (assignEach es env).findIdx? (·.1) = none) ∧ ∀ env, (assignEach es env).length = tgLen ts := by
  intro g es ts hc n X C o
  cases ts with
  | nil =>
    unfold chkGs at hc; dsimp only at hc
    split at hc
    · exact ⟨ss_nil, fun _ => rfl, fun _ => rfl⟩
    · cases hc
  | cons t r =>
    unfold chkGs at hc; dsimp only at hc
    split at hc
    · simp only [Bool.and_eq_true] at hc
      obtain ⟨⟨h0, h1⟩, h2⟩ := hc
      obtain ⟨q1, q2, q3⟩ := h.Gs _ _ _ h2 n X C o
      refine ⟨ss_cons (ns h0) (h.G _ _ _ h1 n X C o) q1, fun env => ?_, fun env => ?_⟩
      · rw [assign_star h0, List.findIdx?_cons, if_neg Bool.false_ne_true, q2]; rfl
      · rw [assign_star h0, List.length_cons, q3]; rfl
    · cases hc
theorem snd : ∀ m, Snd T fA m := by
  intro m
  induction m with
  | zero =>
    refine ⟨fun g e c h => ?_, fun g e c h => ?_, fun g e k c h => ?_, fun g e c h => ?_, fun g tg e c h => ?_, fun g e c h => ?_, fun g e c h => ?_⟩
    · unfold chkE at h; cases h
    · unfold chkD at h; cases h
    · unfold chkA at h; cases h
    · unfold chkF at h; cases h
    · unfold chkI at h; cases h
    · unfold chkG at h; cases h
    · unfold chkGs at h; cases h
  | succ m ih => exact ⟨snd_E ih, snd_D ih, snd_A ih, snd_F ih, snd_I ih, snd_G ih, snd_Gs ih⟩
end
end IB
end

section
set_option Elab.async false
set_option linter.all false
set_option maxRecDepth 100000
set_option maxHeartbeats 4000000
/-! S18: statements, checked. -/
namespace IB
open PySem PySem.Spec PyProof.Rows L2
/-- whether a pair or a triple is stored from the right; nothing where it is not known -/
def swS (g : Cfg) (ts vs : List Expr) : Option (Option (List Str)) :=
  if (!(ts.length == 2 || ts.length == 3) || vs.length != ts.length || ScopeKind.function != ScopeKind.function) = true then some none
  else if (vs.any fun | .Starred .. => true | _ => false) = true then some none
  else
    let line := (ts.head?.map (·.pos.line)).getD 0
    let names := ts.filterMap fun
      | .Name id pos => if (g.sc.names.lookup id == some .local && pos.line == line) = true then some id else none
      | _ => none
    if (names.length != ts.length || names.eraseDups.length != names.length) = true then some none
    else if vs.all (foldedForSure 8) = true then some none
    else if vs.all (constantsAlone 8) = true then none
    else some (some names)
theorem swS_ok {g : Cfg} {env : PySem.Env} {ts vs : List Expr} {k k2 : Nat} {p p2 : Pos} {r : Option (List Str)} (hs : env.scope = g.sc) (hk : g.sc.kind = .function) (h : swS g ts vs = some r) : swappedStores [.Tuple ts k p] (.Tuple vs k2 p2) env = pure r := by
  have hb : env.blockKind = .function := by unfold PySem.Env.blockKind; rw [hs, hk]; rfl
  have hkd : ∀ id, env.kindOf id = g.sc.names.lookup id := fun id => by show env.scope.names.lookup id = _; rw [hs]
  unfold swS at h
  unfold swappedStores
  dsimp only at h ⊢
  rw [hb]
  simp only [hkd]
  split at h
  · rename_i c1
    obtain rfl := Option.some.inj h
    exact if_pos c1
  · rename_i c1
    refine (if_neg c1).trans ?_
    split at h
    · rename_i c2
      obtain rfl := Option.some.inj h
      exact if_pos c2
    · rename_i c2
      refine (if_neg c2).trans ?_
      split at h
      · rename_i c3
        obtain rfl := Option.some.inj h
        exact if_pos c3
      · rename_i c3
        refine (if_neg c3).trans ?_
        split at h
        · rename_i c4
          obtain rfl := Option.some.inj h
          exact if_pos c4
        · rename_i c4
          refine (if_neg c4).trans ?_
          split at h
          · cases h
          · rename_i c5
            obtain rfl := Option.some.inj h
            exact if_neg c5
theorem sw_none {tg v : Expr} {env : PySem.Env} (h : (match tg, v with | .Tuple _ _ _, .Tuple _ _ _ => false | .List _ _, .Tuple _ _ _ => false | _, _ => true) = true) : swappedStores [tg] v env = pure none := by
  unfold swappedStores
  cases tg <;> cases v <;> first | rfl | cases h
theorem swaps_none {v : Expr} {t : Option Expr} {l : Nat} {env : PySem.Env} (h : notComp v = true) : swapsWith v t l env = pure false := by
  unfold swapsWith
  cases v <;> first | rfl | cases h
def swSole (tg v : Expr) : Bool := notComp v
/-- name = [..]: whether the block's stores go to its own frame -/
def swLc (g : Cfg) (scope : Scope) (y : Str) (py pos : Pos) : Bool := g.sc.names.lookup y == some .local && py.line == pos.line && !(scope.names.any fun (n, k) => n == y && (k == .local || k == .cell))
theorem swLc_eq {g : Cfg} {env : PySem.Env} {elt : Expr} {gens : List Comprehension} {scope : Scope} {y : Str} {py pos : Pos} {l : Nat} (hs : env.scope = g.sc) (hk : g.sc.kind = .function) : swapsWith (.ListComp elt gens scope pos) (some (.Name y py)) l env = pure (swLc g scope y py pos) := by
  have hb : env.blockKind = .function := by unfold PySem.Env.blockKind; rw [hs, hk]; rfl
  unfold swapsWith swLc
  dsimp only
  rw [hb]
  show pure (_ && env.scope.names.lookup y == some .local && _ && _) = _
  rw [hs]
  rfl
mutual
def chkS (T : Tb) : Nat → Cfg → Stmt → CS → Bool
  | 0, _, _, _ => false
  | n + 1, g, s, c => match c with
    | .expr a => (match s with | .Expr e _ => notComp e && chkE T n g e a | _ => false)
    | .asg t a => (match s with
      | .Assign [tg] v _ =>
        (match v with
        | .ListComp elt gens scope pos => (match tg with
          | .Name y py => if swLc g scope y py pos = true then (match t with | .var i => (match a with | .frh _ f => !g.hot && isAt g i y && (g.sc.names.lookup y == some .local) && chkF T n g v f | _ => false) | _ => false)
            else chkE T n g v a && chkG T n g tg t
          | _ => false)
        | .Tuple vs _ _ => (match tg with
          | .Tuple ts _ _ => (match swS g ts vs with
            | some none => chkE T n g v a && chkG T n g tg t
            | some (some _) => !g.hot && (match a with | .tup as => chkD T n g vs as | _ => false) && (match ts, t with
              | [.Name x _, .Name y _], .tup (.cons (.var i) (.cons (.var j) .nil)) => decide (swS g ts vs = some (some [x, y])) && (g.sc.names.lookup x == some .local) && (g.sc.names.lookup y == some .local) && isAt g i x && isAt g j y && i != j && vs.length == 2
              | [.Name x _, .Name y _, .Name z _], .tup (.cons (.var i) (.cons (.var j) (.cons (.var l) .nil))) => decide (swS g ts vs = some (some [x, y, z])) && (g.sc.names.lookup x == some .local) && (g.sc.names.lookup y == some .local) && (g.sc.names.lookup z == some .local) && isAt g i x && isAt g j y && isAt g l z && i != j && i != l && j != l && vs.length == 3
              | _, _ => false)
            | none => false)
          | .List _ _ => false
          | _ => chkE T n g v a && chkG T n g tg t && notStar tg)
        | _ => notComp v && chkE T n g v a && chkG T n g tg t && notStar tg)
      | _ => false)
    | .ife a p q => (match s with | .If e b1 b2 _ => chkE T n g e a && chkSs T n g b1 p && chkSs T n g b2 q | _ => false)
    | .for t it b => (match s with | .For tg iter body [] _ => !g.hot && chkI T n g tg iter it && chkG T n g tg t && chkSs T n g body b && notSet iter | _ => false)
    | .whl a b => (match s with | .While e body [] _ => !g.hot && chkE T n g e a && chkSs T n g body b | _ => false)
    | .ret a => (match s with | .Return (some e) _ => chkE T n g e a | _ => false)
    | .retn => (match s with | .Return none _ => true | _ => false)
    | .rais c as => (match s with
      | .Raise (some (.Call (.Name x _) [y] [] _)) none _ => !g.hot && x == Str.ofString c && glB g x && T.excs.any (fun p => p.1 == c) && notStar y && chkD T n g [y] as
      | _ => false)
    | .try b hs => (match s with
      | .Try body [.ExceptHandler (some (.Name x _)) nm (b0 :: suite) _] [] [] _ => !g.hot && !g.exv && chkSs T n g body b && glB g x && (match hs with
        | .cons d i cs .nil => x == Str.ofString d && T.hnd.contains d && (match nm, i with
          | some y, some k => isAt g k y && (g.sc.names.lookup y == some .local) && chkSs T n { g with hot := true, lam := false, exv := true } (b0 :: suite) cs
          | none, none => chkSs T n { g with hot := true, lam := false } (b0 :: suite) cs
          | _, _ => false)
        | _ => false)
      | _ => false)
    | .pass => (match s with | .Pass _ => true | _ => false)
    | .brk => (match s with | .Break _ => true | _ => false)
    | .cont => (match s with | .Continue _ => true | _ => false)
def chkSs (T : Tb) : Nat → Cfg → List Stmt → CSs → Bool
  | 0, _, _, _ => false
  | n + 1, g, ss, c => match c with
    | .nil => (match ss with | [] => true | _ => false)
    | .cons a r => (match ss with | s :: ss => chkS T n g s a && chkSs T n g ss r | _ => false)
end
end IB
end

section
set_option Elab.async false
set_option linter.all false
set_option maxRecDepth 100000
set_option maxHeartbeats 4000000
/-! S19: the checker of statements is right. -/
namespace IB
open PySem PySem.Spec PyProof.Rows L2
structure OkS (T : Tb) (fA : String → Option Addr) (n : Nat) (g : Cfg) (X : Cx) (C : Co) : Prop where
  ok : Ok T fA n g X C
  kind : g.sc.kind = .function
  po : g.hot = false → PassesOwn (model X.prog X.w) X.A X.env X.xe
  stk : X.stack = X.env :: X.outer
  frm : X.env.frame = some X.env.locals
structure SndS (T : Tb) (fA : String → Option Addr) (m : Nat) : Prop where
  S : ∀ g s c, chkS T m g s c = true → ∀ n X C, OkS T fA n g X C → PS X s (TS' C c)
  Ss : ∀ g ss c, chkSs T m g ss c = true → ∀ n X C, OkS T fA n g X C → PSs X ss (TSs' C c)
section
variable {T : Tb} {fA : String → Option Addr} {n m : Nat} {g : Cfg} {X : Cx} {C : Co}
theorem frh_rd {box : Bool} {f : CF} {σ : L2.St} {H : Hp} {Q : VK} (h : TX C (.frh box f) σ H Q) : TF C f σ H Q := by
  obtain ⟨R, F, env, M, QQ, XX, t, st, w, k, kx⟩ := h
  refine ⟨R, F, env, M, _, XX, t, st, w, fun F1 H1 M1 xs vs p s1 t1 r1 q1 n => ?_, kx⟩
  cases box with
  | true =>
    have q1 : ∀ a, M1 a = none → QQ (.ref a) (IB.upd M1 a (.lst xs)) := q1
    exact k F1 _ _ (.ref p) _ s1 (t1.alloc n (.lst upd_same r1)) (.ref p) (q1 p (t1.fr n).2)
  | false => exact (k.sub s1).newL t1 r1 q1 p n
theorem asgN_rd {i : Nat} {ce : CE} {D : L2.Ends} {σ : L2.St} {H : Hp} (h : TS' C (.asg (.var i) ce) D σ H) : TX C ce σ H fun x H1 => gName i x σ H1 D.nx := by
  obtain ⟨R, F, env, M, DD, XX, t, st, w, k, kx⟩ := h
  refine ⟨R, F, env, M, _, _, t, st, w, fun F1 H1 M1 x v s1 t1 r1 q1 => ?_, kx.at st⟩
  exact k.nx F1 H1 M1 _ _ s1 t1 ((st.sub s1).set r1) q1
theorem z_setLc (o : OkS T fA n g X C) (hh : g.hot = false) {i : Nat} {y : Str} {py pos spos : Pos} {elt : Expr} {gens : List Comprehension} {scope : Scope} {f : CF} {box : Bool} (hsw : swLc g scope y py pos = true) (hy : isAt g i y = true) (hl : g.sc.names.lookup y = some .local) (hc : chkF T m g (.ListComp elt gens scope pos) f = true) :
    PS X (.Assign [.Name y py] (.ListComp elt gens scope pos) spos) (TS' C (.asg (.var i) (.frh box f))) := by
  have h := snd (T := T) (fA := fA)
  cases m with
  | zero => unfold chkF at hc; cases hc
  | succ m =>
    have ok := o.ok
    cases f with
    | dis as => unfold chkF at hc; dsimp only at hc; cases hc
    | ofl e => unfold chkF at hc; dsimp only at hc; cases hc
    | cmp el t it c own =>
      unfold chkF at hc; dsimp only at hc
      split at hc
      · rename_i elt' tg iter ifs k scope' pos' heq
        cases heq
        simp only [Bool.and_eq_true] at hc
        obtain ⟨⟨⟨⟨⟨⟨⟨⟨h0, h1⟩, h2⟩, h3⟩, h4⟩, h5⟩, h6⟩, h7⟩, h8⟩ := hc
        have e1 : k = 0 := by simpa using h1
        subst e1
        obtain ⟨b1, b2, b3⟩ := blk_by ok.hN ok.sc h2
        have ob := fun s H A cl fp => ok.blk hh h2 s H A cl fp
        refine (ps_setLc (X := X) (i := i) (y := y) (py := py) (own := ownL g.N own) (wi := TI' C it) (g := TG' (blkCo C) t) (tt := TY (blkCo C) c) (te := TX (blkCo C) el) (ok.calm h0) (by rw [ok.hN]; exact ok.nd) (ok.at hy).1 (by rw [ok.sc]; exact hl)
          (by rw [swLc_eq ok.sc o.kind, hsw]) ((h m).I _ _ _ _ h3 n X C ok) b1 (fun s H A cl fp => (h m).G _ _ _ h6 n _ _ (ob s H A cl fp)) (fun s H A cl fp => ?_) (fun s H A cl fp => ((h m).E _ _ _ h7 n _ _ (ob s H A cl fp)).1) (notSet_eq h4 _)).imp fun D σ H q => ?_
        · split at h8
          · split at h8
            · exact pts_none
            · cases h8
          · exact snd_F.pts_one' (((h m).E _ _ _ h8 n _ _ (ob s H A cl fp)).2)
          · cases h8
        · rw [b2]
          exact g_comp.comp_rd (fun i hi => by
            rw [List.all_eq_true] at h5
            simpa using h5 i hi) (frh_rd (asgN_rd q))
      · cases hc
theorem OkS.tr (o : OkS T fA n g X C) (hh : g.hot = false) (he : g.exv = false) {W : WX} {pn : List (Addr × Obj)} {xe : Value → Shared → Prop} (tk : Takes (Cx.tr X pn xe) W) (po : PassesOwn (model X.prog X.w) X.A X.env xe) : OkS T fA n g (Cx.tr X pn xe) (tryCo C W) := by
  have f := o.ok.fit hh
  refine ⟨⟨o.ok.hN, o.ok.sc, o.ok.nd, o.ok.nn, o.ok.hK, o.ok.go, o.ok.hu, o.ok.fn, fun _ => ⟨f.hK, f.calm, f.nd, tk, f.roomS, f.call, @fun pn' xe' _ _ _ _ _ _ _ _ h I => f.cl0 pn' xe' h I, f.fn⟩, fun h => ⟨(o.ok.lam h).ex⟩, fun h => (by rw [he] at h; cases h)⟩, o.kind, fun _ => po, o.stk, o.frm⟩
end
end IB
end

section
set_option Elab.async false
set_option linter.all false
set_option maxRecDepth 100000
set_option maxHeartbeats 4000000
namespace IB
open PySem PySem.Spec PyProof.Rows L2
section
variable {T : Tb} {fA : String → Option Addr} {n m : Nat} {g : Cfg} {X : Cx} {C : Co}
theorem OkS.suite (o : OkS T fA n g X C) {a : Addr} {oe : Obj} {cls : Value} {d : Option Addr} {pn : List (Addr × Obj)} (hz : Zc cls d oe) (hf : ∃ vs, oe.data = .fields vs) :
    OkS T fA n { g with hot := true, lam := false, exv := true } (Cx.suite X a ((a, oe) :: pn)) (suiteCo C a cls d) :=
  ⟨⟨o.ok.hN, o.ok.sc, o.ok.nd, o.ok.nn, o.ok.hK, o.ok.go, o.ok.hu, o.ok.fn, fun h => (by cases h), fun h => (by cases h), fun _ => ⟨X, C, a, oe, cls, d, pn, rfl, rfl, hz, hf⟩⟩, o.kind, fun h => (by cases h), o.stk, o.frm⟩
theorem OkS.suite0 (o : OkS T fA n g X C) (he : g.exv = false) {a : Addr} {oe : Obj} {pn : List (Addr × Obj)} :
    OkS T fA n { g with hot := true, lam := false } (Cx.suite X a ((a, oe) :: pn)) (tryCo C fun _ _ _ _ => False) :=
  ⟨⟨o.ok.hN, o.ok.sc, o.ok.nd, o.ok.nn, o.ok.hK, o.ok.go, o.ok.hu, o.ok.fn, fun h => (by cases h), fun h => (by cases h), fun h => (by rw [show g.exv = _ from h] at he; cases he)⟩, o.kind, fun h => (by cases h), o.stk, o.frm⟩
theorem ne_name {i j : Nat} (h : (i != j) = true) : i ≠ j := by simpa using h
theorem len2 {vs : List Expr} (h : (vs.length == 2) = true) : ∃ a b, vs = [a, b] := by
  match vs, h with
  | [a, b], _ => exact ⟨a, b, rfl⟩
theorem len3 {vs : List Expr} (h : (vs.length == 3) = true) : ∃ a b c, vs = [a, b, c] := by
  match vs, h with
  | [a, b, c], _ => exact ⟨a, b, c, rfl⟩
theorem loc_of {x : Str} (o : OkS T fA n g X C) (h : (g.sc.names.lookup x == some .local) = true) : X.env.scope.names.lookup x = some .local := by
  rw [o.ok.sc]; simpa using h
theorem as_one {tg : Expr} {env : PySem.Env} (h : notStar tg = true) : (assignEach [tg] env).map (·.2) = [assign tg env] := by
  rw [assign_star h]; rfl
theorem snd_S (h : SndS T fA m) : ∀ g s c, chkS T (m + 1) g s c = true → ∀ n X C, OkS T fA n g X C → PS X s (TS' C c) := by
  intro g s c hc n X C o
  have he := snd (T := T) (fA := fA) m
  have ok := o.ok
  cases c with
  | expr a =>
    unfold chkS at hc; dsimp only at hc
    split at hc
    · rw [Bool.and_eq_true] at hc
      exact z_expr (he.E _ _ _ hc.2 n X C ok).1 (swaps_none hc.1)
    · cases hc
  | ife a p q =>
    unfold chkS at hc; dsimp only at hc
    split at hc
    · simp only [Bool.and_eq_true] at hc
      exact z_if (he.E _ _ _ hc.1.1 n X C ok).2 (h.Ss _ _ _ hc.1.2 n X C o) (h.Ss _ _ _ hc.2 n X C o)
    · cases hc
  | «for» t it b =>
    unfold chkS at hc; dsimp only at hc
    split at hc
    · simp only [Bool.and_eq_true] at hc
      obtain ⟨⟨⟨⟨h0, h1⟩, h2⟩, h3⟩, h4⟩ := hc
      exact z_for (o.po (by simpa using h0)) (ok.calm h0) (he.I _ _ _ _ h1 n X C ok) (he.G _ _ _ h2 n X C ok) (h.Ss _ _ _ h3 n X C o) (notSet_eq h4 _)
    · cases hc
  | whl a b =>
    unfold chkS at hc; dsimp only at hc
    split at hc
    · simp only [Bool.and_eq_true] at hc
      obtain ⟨⟨h0, h1⟩, h2⟩ := hc
      exact z_while (o.po (by simpa using h0)) (he.E _ _ _ h1 n X C ok).2 (h.Ss _ _ _ h2 n X C o)
    · cases hc
  | ret a =>
    unfold chkS at hc; dsimp only at hc
    split at hc
    · exact z_ret (he.E _ _ _ hc n X C ok).1
    · cases hc
  | retn =>
    unfold chkS at hc; dsimp only at hc
    split at hc
    · exact z_retn
    · cases hc
  | pass =>
    unfold chkS at hc; dsimp only at hc
    split at hc
    · exact z_pass
    · cases hc
  | brk =>
    unfold chkS at hc; dsimp only at hc
    split at hc
    · exact z_brk
    · cases hc
  | cont =>
    unfold chkS at hc; dsimp only at hc
    split at hc
    · exact z_cont
    · cases hc
  | rais c as =>
    unfold chkS at hc; dsimp only at hc
    split at hc
    · simp only [Bool.and_eq_true] at hc
      obtain ⟨⟨⟨⟨⟨h0, h1⟩, h2⟩, h3⟩, h4⟩, h5⟩ := hc
      have e1 := beq_iff_eq.mp h1
      obtain ⟨a1, a2⟩ := ok.gl h2
      obtain ⟨⟨c', f⟩, hp, h6⟩ := List.any_eq_true.mp h3
      have e2 : c' = c := by simpa using h6
      subst e2
      obtain ⟨Cc, fI, ups, q1, q2, q3, q4⟩ := ok.go.excs _ hp
      have f := ok.fit' h0
      have room := f.room.dp
      rw [← e1] at q1
      exact z_rais (ok.calm h0) ok.hK f.tk (by rw [ok.hK]; exact q2) (ok.go.blt "super" (by decide)) (by omega) (he.D _ _ _ h5 n X C ok) a1 q1 a2 (ns h4) q3 q4
    · cases hc
  | «try» b hs =>
    unfold chkS at hc; dsimp only at hc
    split at hc
    · rename_i body x np nm b0 suite p1 p2
      simp only [Bool.and_eq_true] at hc
      obtain ⟨⟨⟨⟨h0, h1⟩, h2⟩, h3⟩, h4⟩ := hc
      have hh : g.hot = false := by simpa using h0
      have hx : g.exv = false := by simpa using h1
      obtain ⟨a1, a2⟩ := ok.gl h3
      have f := ok.fit hh
      split at h4
      · rename_i d i cs
        simp only [Bool.and_eq_true] at h4
        obtain ⟨⟨h5, h6⟩, h7⟩ := h4
        have e1 := beq_iff_eq.mp h5
        obtain ⟨c, q1, q2⟩ := ok.go.hnd d (mem_of_contains h6)
        rw [← e1] at q1
        have hn : Names X x c := ⟨a1, a2, q1⟩
        have hbody := fun W pn xe (tk : Takes (Cx.tr X pn xe) W) (po : PassesOwn (model X.prog X.w) X.A X.env xe) => h.Ss _ _ _ h2 n _ _ (o.tr hh hx tk po)
        split at h7
        · rename_i y k
          simp only [Bool.and_eq_true] at h7
          obtain ⟨⟨h8, h9⟩, h10⟩ := h7
          exact z_tryAs ok.hK o.stk o.frm (by rw [ok.hN]; exact ok.nd) (ok.at h8).1 (loc_of o h9) hn f.tk q2 hbody (fun a oe cls d pn hz hf => h.Ss _ _ _ h10 n _ _ (o.suite hz hf))
        · exact z_tryOnly ok.hK o.stk o.frm hn f.tk q2 hbody (fun a oe cls d pn hz hf => h.Ss _ _ _ h7 n _ _ (o.suite0 hx))
        · cases h7
      · cases h4
    · cases hc
  | asg t a =>
    unfold chkS at hc; dsimp only at hc
    split at hc
    · rename_i tg v pos
      split at hc
      · -- a comprehension
        rename_i elt gens scope lp
        split at hc
        · rename_i y py
          split at hc
          · rename_i hsw
            split at hc
            · split at hc
              · simp only [Bool.and_eq_true] at hc
                obtain ⟨⟨⟨h0, h1⟩, h2⟩, h3⟩ := hc
                exact z_setLc o (by simpa using h0) hsw h1 (by simpa using h2) h3
              · cases hc
            · cases hc
          · rename_i hsw
            rw [Bool.and_eq_true] at hc
            refine z_asg (he.E _ _ _ hc.1 n X C ok).1 (he.G _ _ _ hc.2 n X C ok) ?_ rfl rfl
            have e : swapsWithSole [Expr.Name y py] (.ListComp elt gens scope lp) pos.line X.env = swapsWith (.ListComp elt gens scope lp) (some (.Name y py)) pos.line X.env := by unfold swapsWithSole; rfl
            simp only [Bool.not_eq_true] at hsw
            rw [e, swLc_eq ok.sc o.kind, hsw]
        · cases hc
      · -- a tuple
        rename_i vs k2 vp
        split at hc
        · rename_i ts k tp
          split at hc
          · rename_i hsw
            rw [Bool.and_eq_true] at hc
            exact z_asg (he.E _ _ _ hc.1 n X C ok).1 (he.G _ _ _ hc.2 n X C ok) rfl (swS_ok ok.sc o.kind hsw) rfl
          · rename_i hsw0
            simp only [Bool.and_eq_true] at hc
            obtain ⟨⟨h0, h1⟩, h2⟩ := hc
            split at h1
            · split at h2
              · simp only [Bool.and_eq_true, decide_eq_true_eq] at h2
                obtain ⟨⟨⟨⟨⟨⟨h3, h4⟩, h5⟩, h6⟩, h7⟩, h8⟩, h9⟩ := h2
                obtain ⟨e1, e2, rfl⟩ := len2 h9
                exact z_par (ok.calm h0) (by rw [ok.hN]; exact ok.nd) (ok.at h6).1 (ok.at h7).1 (ne_name h8) (loc_of o h4) (loc_of o h5) (he.D _ _ _ h1 n X C ok) (swS_ok ok.sc o.kind h3)
              · simp only [Bool.and_eq_true, decide_eq_true_eq] at h2
                obtain ⟨⟨⟨⟨⟨⟨⟨⟨⟨⟨h3, h4⟩, h5⟩, h5'⟩, h6⟩, h7⟩, h7'⟩, h8⟩, h8'⟩, h8''⟩, h9⟩ := h2
                obtain ⟨e1, e2, e3, rfl⟩ := len3 h9
                exact z_par3 (ok.calm h0) (by rw [ok.hN]; exact ok.nd) (ok.at h6).1 (ok.at h7).1 (ok.at h7').1 (ne_name h8) (ne_name h8') (ne_name h8'') (loc_of o h4) (loc_of o h5) (loc_of o h5') (he.D _ _ _ h1 n X C ok) (swS_ok ok.sc o.kind h3)
              · cases h2
            · cases h1
          · cases hc
        · cases hc
        · rename_i hn1 hn2
          simp only [Bool.and_eq_true] at hc
          refine z_asg (he.E _ _ _ hc.1.1 n X C ok).1 (he.G _ _ _ hc.1.2 n X C ok) rfl (sw_none ?_) (as_one hc.2)
          split
          · exact absurd rfl (hn1 _ _ _)
          · exact absurd rfl (hn2 _ _)
          · rfl
      · rename_i hv1 hv2
        simp only [Bool.and_eq_true] at hc
        refine z_asg (he.E _ _ _ hc.1.1.2 n X C ok).1 (he.G _ _ _ hc.1.2 n X C ok) (swaps_none hc.1.1.1) (sw_none ?_) (as_one hc.2)
        split
        · exact absurd rfl (hv2 _ _ _)
        · exact absurd rfl (hv2 _ _ _)
        · rfl
    · cases hc
theorem snd_Ss (h : SndS T fA m) : ∀ g ss c, chkSs T (m + 1) g ss c = true → ∀ n X C, OkS T fA n g X C → PSs X ss (TSs' C c) := by
  intro g ss c hc n X C o
  cases c with
  | nil =>
    unfold chkSs at hc; dsimp only at hc
    split at hc
    · exact z_nil
    · cases hc
  | cons a r =>
    unfold chkSs at hc; dsimp only at hc
    split at hc
    · rw [Bool.and_eq_true] at hc
      exact z_cons (h.S _ _ _ hc.1 n X C o) (h.Ss _ _ _ hc.2 n X C o)
    · cases hc
theorem sndS : ∀ m, SndS T fA m := by
  intro m
  induction m with
  | zero =>
    refine ⟨fun g e c h => ?_, fun g e c h => ?_⟩
    · unfold chkS at h; cases h
    · unfold chkSs at h; cases h
  | succ m ih => exact ⟨snd_S ih, snd_Ss ih⟩
end
end IB
end

section
set_option Elab.async false
set_option linter.all false
set_option maxRecDepth 100000
set_option maxHeartbeats 4000000
/-! S21: calls are right at every depth. -/
namespace IB
open PySem PySem.Spec PyProof.Rows L2
/-- a def's text is Core's -/
def chkDef (T : Tb) (m : Nat) (N : List Str) (lam : Bool) (scope : Scope) (params : Arguments) (body : List Stmt) (d : CDef) : Bool :=
  decide (scope.kind = .function) && !scope.isCoroutine && !scope.isGenerator && decide N.Nodup && nnB N && decide (N.take d.ps.length = d.ps.map Str.ofString) && (d.ps.map Str.ofString).all (fun x => match scope.names.lookup x with | some .local => true | some .cell => true | _ => false) &&
  scope.names.all (fun y => !decide (y.2 = .free)) && simpleB params (d.ps.map Str.ofString) && decide d.ps.Nodup && decide (d.slots = N.length) &&
  chkSs T m { N := N, sc := scope, st := scope, hot := false, lam := lam, exv := false } body d.body
/-- where a def stands, that its text is Core's -/
structure DefK (T : Tb) (K : Frag) (mg : Str → Option Value) (base : Heap) (cA : Tn) (a : Addr) (d : CDef) : Prop where
  ex : ∃ (oc : Value) (od : Option Addr) (name qual : Str) (params : Arguments) (body : List Stmt) (scope : Scope) (kV doc pm : Value) (an : Option Addr) (cdv ct : Value) (osl : Array (Option Value)) (N : List Str) (m : Nat) (lam : Bool),
    K.lookup a = some ⟨oc, od, .func (PySem.W.fnOf name qual params body scope .none kV doc pm an cdv ct), osl⟩ ∧ PySem.W.codeIn K cdv qual = true ∧ chkDef T m N lam scope params body d = true ∧
    (lam = true → ∃ c Pt, LamX.TabB base mg c Pt ∧ cdv = .ref c ∧ (Pt, (qual ++ ".<locals>.") ++ "<lambda>") ∈ cA.tab ∧ ∀ p ∈ cA.tab, p.1 = Pt → p.2 = (qual ++ ".<locals>.") ++ "<lambda>")
theorem def_by {T : Tb} {m : Nat} {N : List Str} {lam : Bool} {scope : Scope} {params : Arguments} {body : List Stmt} {d : CDef} (h : chkDef T m N lam scope params body d = true) :
    FnScope N (d.ps.map Str.ofString) scope ∧ nnB N = true ∧ SimpleP params (d.ps.map Str.ofString) ∧ d.ps.Nodup ∧ d.slots = N.length ∧ chkSs T m { N := N, sc := scope, st := scope, hot := false, lam := lam, exv := false } body d.body = true := by
  unfold chkDef at h
  simp only [Bool.and_eq_true, decide_eq_true_eq, Bool.not_eq_true', List.all_eq_true, decide_eq_false_iff_not] at h
  obtain ⟨⟨⟨⟨⟨⟨⟨⟨⟨⟨⟨h1, h2⟩, h3⟩, h4⟩, h5⟩, h6⟩, h7⟩, h8⟩, h9⟩, h10⟩, h11⟩, h12⟩ := h
  refine ⟨⟨h1, h2, h3, h4, by rw [List.length_map]; exact h6, fun x hx => ?_, h8⟩, h5, simple_by h9, h10, h11, h12⟩
  have q := h7 x hx
  split at q
  · rename_i z; exact .inl z
  · rename_i z; exact .inr z
  · cases q
section
variable {T : Tb} {P : Program} {w : World} {K : Frag} {mg : Str → Option Value} {base : Heap} {cA : Tn} {eA fA : String → Option Addr} {G : Gl}
/-- what a body leans on -/
def bodyCo (T : Tb) (K : Frag) (cA : Tn) (eA fA : String → Option Addr) (G : Gl) (call : CallT) (s : Shared) (H : Hp) (outer : List PySem.Env) (E : L2.XK) : Co where
  K := K
  cA := cA
  eA := eA
  G := G
  call := call
  Cl := fun R F sv v => FnV (chkL T) K fA s H outer R F sv v
  W := fun cls d _ H => E cls d H
  mono := fun _ _ _ _ _ q h => h.sub q
theorem repF_S {call : CallT} {s : Shared} {H R F : Hp} {outer : List PySem.Env} {E : L2.XK} {sv : SV} {v : V} (h : RepF (chkL T) K fA s H outer R F sv v) : RepS (bodyCo T K cA eA fA G call s H outer E) R F sv v := by
  cases sv with
  | pv p => exact h
  | fn f => exact h
  | clo _ _ _ => exact h
  | exc _ _ => exact h
theorem paired_get {α β : Type} {Rl : α → β → Prop} : ∀ {xs : List α} {ys : List β} {i : Nat} {x : α}, Paired Rl xs ys → xs[i]? = some x → ∃ y, ys[i]? = some y ∧ Rl x y
  | _, _, _, _, .nil, e => by simp at e
  | _, _, 0, _, .cons r _, e => by simp at e; subst e; exact ⟨_, rfl, r⟩
  | _, _, i + 1, _, .cons _ r, e => by
    obtain ⟨y, h1, h2⟩ := paired_get (i := i) r (by simpa using e)
    exact ⟨y, by simpa using h1, h2⟩
theorem later_tr {chk : Chk} {Z : Cx} {R F : Hp} {sv : SV} {v : V} {pins : List (Addr × Obj)} {σ : L2.St} {H1 : Hp} {s1 : Shared} (hex : Z.ex = []) (pn : List (Addr × Obj)) (xe : Value → Shared → Prop) (h : FnV chk K fA Z.s_0 Z.H_0 Z.outer R F sv v) (I : Inv (Cx.tr Z pn xe) pins σ H1 s1) : FnV chk K fA s1 H1 Z.stack R F sv v :=
  FnV.later (X := Cx.tr Z pn xe) h hex I
/-- what a def's body does, entered -/
theorem body_ok (go : GOk T P K mg cA eA fA G) (hf : ∀ f a, fA f = some a → PySem.W.keepIn K (.ref a) = true) {n : Nat} (ih : CallOk (chkL T) P w K mg base cA eA fA n (wCall G n)) {d : CDef} {svs : List SV} {outv : List V} {M : MM} {QQ : PV → MM → Prop} {XX : XK} {A : Around} {outer : List PySem.Env} {s : Shared} {H R F : Hp} {Q : VK} {E : L2.XK} {a : Addr} {qual : Str} {params : Arguments} {body : List Stmt} {scope : Scope} {cdv : Value} {N : List Str} {m : Nat} {lam : Bool}
    (hch : chkDef T m N lam scope params body d = true) (hlam : lam = true → ∃ c Pt, LamX.TabB base mg c Pt ∧ cdv = .ref c ∧ (Pt, (qual ++ ".<locals>.") ++ "<lambda>") ∈ cA.tab ∧ ∀ p ∈ cA.tab, p.1 = Pt → p.2 = (qual ++ ".<locals>.") ++ "<lambda>")
    (t : Sto K cA R F H M) (q3 : RepFL (chkL T) K fA s H outer R F svs outv) (h : bodyW G (wCall G n) d svs M QQ XX) (k : Kont K cA R F QQ Q)
    (kx : ∀ (F' H' : Hp) (M' : MM) (cn : String) (fs : List (String × PV)) (C : Addr) (dd : Addr) (gs : List (Str × V)), Sub F F' → Sto K cA R F' H' M' → eA cn = some C → H' dd = some (.xd gs) → RepFs K F' fs gs → XX cn fs M' → E (.ref C) (some dd) H')
    (hr' : RoomS n (A.deeper (envOfC qual scope s.heap.objs.size a cdv))) :
    ∃ t, PSs (cxOf (L2.CX P w) P w K mg base N qual scope a cdv A outer s H E) body t ∧ t { nx := fun _ H' => Q .non H', rt := Q } (L2.start N outv) H := by
  obtain ⟨S, nn, sp, ndp, hsl, hbody⟩ := def_by hch
  unfold bodyW at h
  refine ⟨TSs' (bodyCo T K cA eA fA G (wCall G n) s H outer E) d.body, (sndS (T := T) (fA := fA) m).Ss _ _ _ hbody n _ _ ⟨⟨rfl, rfl, S.nd, nn, rfl, go, by have := hr'.un; show (A.deeper _).units + 65 < _; omega, fun _ _ => rfl, fun _ => ⟨rfl, rfl, S.nd, takes_of rfl rfl rfl rfl, hr', ih, @fun pn xe _ _ _ _ _ _ _ _ hc I => later_tr (Z := cxOf (L2.CX P w) P w K mg base N qual scope a cdv A outer s H E) rfl pn xe hc I, hf⟩, fun hl => ?_, fun hx => (by cases hx)⟩, S.kind, fun _ => passes_of rfl, rfl, rfl⟩, ?_⟩
  · obtain ⟨c, Pt, h1, h2, h3, h4⟩ := hlam hl
    exact ⟨⟨c, Pt, h1, h2, h3, h4⟩⟩
  · have st : StS (bodyCo T K cA eA fA G (wCall G n) s H outer E) R F (L2.start N outv) (startE d.slots svs) := by
      have lo : svs.length = outv.length := Paired.length q3
      refine ⟨?_, fun i sv e => ?_⟩
      · unfold startE L2.start
        rw [List.length_append, List.length_append, List.length_map, List.length_map, List.length_replicate, List.length_replicate, hsl, lo]
      · unfold slot startE at e
        by_cases c : i < svs.length
        · rw [List.getElem?_append_left (by rw [List.length_map]; exact c), List.getElem?_map, List.getElem?_eq_getElem c] at e
          have e : some svs[i] = some sv := e
          obtain ⟨v, h1, h2⟩ := paired_get q3 (show svs[i]? = some sv by rw [List.getElem?_eq_getElem c, e])
          refine ⟨v, ?_, repF_S h2⟩
          unfold L2.start
          rw [List.getElem?_append_left (by rw [List.length_map, ← lo]; exact c), List.getElem?_map, h1]; rfl
        · rw [List.getElem?_append_right (by rw [List.length_map]; omega), List.getElem?_replicate] at e
          split at e <;> cases e
    by_cases hm : d.mode = 0
    · rw [if_pos hm] at h
      refine ⟨R, F, _, M, _, _, t, st, h, ⟨fun F1 H1 M1 σ1 env1 s1 t1 st1 q => ?_, fun F1 H1 M1 p v s1 t1 r1 q => ?_, fun _ _ _ _ _ _ _ _ z => z.elim, fun _ _ _ _ _ _ _ _ z => z.elim⟩, fun F1 H1 M1 σ1 env1 cn fs cls dd s1 t1 st1 er q => ?_⟩
      · exact k _ H1 _ .non .non (s1.trans frzH_sub) (t1.behind (M := M)) .non q
      · exact k _ H1 _ _ v (s1.trans frzH_sub) (t1.behind (M := M)) (frz_rep t1 4 r1) q
      · obtain ⟨Ec, d', gs, e1, rfl, rfl, e4, e5⟩ := er.ex
        exact kx _ H1 _ cn _ Ec d' gs (s1.trans frzH_sub) (t1.behind (M := M)) e1 e4 (frzFs_rep t1 e5) q
    · rw [if_neg hm] at h
      refine ⟨R, F, _, M, _, _, t, st, h, ⟨fun F1 H1 M1 σ1 env1 s1 t1 st1 q => ?_, fun F1 H1 M1 p v s1 t1 r1 q => ?_, fun _ _ _ _ _ _ _ _ z => z.elim, fun _ _ _ _ _ _ _ _ z => z.elim⟩, fun F1 H1 M1 σ1 env1 cn fs cls dd s1 t1 st1 er q => ?_⟩
      · exact k F1 H1 M1 .non .non s1 t1 .non q
      · exact k F1 H1 M1 p v s1 t1 r1 q
      · obtain ⟨Ec, d', gs, e1, rfl, rfl, e4, e5⟩ := er.ex
        exact kx F1 H1 M1 cn fs Ec d' gs s1 t1 e1 e4 e5 q
theorem call_ok (go : GOk T P K mg cA eA fA G) (hf : ∀ f a, fA f = some a → PySem.W.keepIn K (.ref a) = true) (hd : ∀ f a d, fA f = some a → G.defs f = some d → DefK T K mg base cA a d) : ∀ n, CallOk (chkL T) P w K mg base cA eA fA n (wCall G n) := by
  intro n
  induction n with
  | zero => intro sv as M QQ XX h; cases sv <;> exact h.elim
  | succ n ih =>
    intro sv as M QQ XX h A outer s H R F v u vs us zs ws Q E hr e0 t fv ru ra rv rk rw_ k kx
    cases fv with
    | fn hfa =>
      rename_i f a
      obtain rfl : u = Value.ref a := ru
      have h : (match G.defs f with
        | some d => (match (if kwOk d.ps as.pos.length (as.kw.map (·.1)) = true then bindA d.ps as.pos as.kw else none) with
          | some svs =>
            if d.mode = 0 then wSs G (wCall G n) d.body (startE d.slots svs) M ⟨fun _ M' => QQ .non (restr M M'), fun r M' => QQ (frz M M' 4 r) (restr M M'), fun _ _ => False, fun _ _ => False⟩ (fun _ c fs M' => XX c (fs.map fun p => (p.1, frz M M' 4 p.2)) (restr M M'))
            else wSs G (wCall G n) d.body (startE d.slots svs) M ⟨fun _ M' => QQ .non M', QQ, fun _ _ => False, fun _ _ => False⟩ (fun _ => XX)
          | none => False)
        | none => False) := h
      cases hG : G.defs f with
      | none => rw [hG] at h; exact h.elim
      | some d =>
        rw [hG] at h
        dsimp only at h
        obtain ⟨oc, od, name, qual, params, body, scope, kV, doc, pm, an, cdv, ct, osl, N, m, lam, lk, hcd, hch, hlam⟩ := (hd f a d hfa hG).ex
        obtain ⟨S, nn, sp, ndp, hsl, hbody⟩ := def_by hch
        cases hb : (if kwOk d.ps as.pos.length (as.kw.map (·.1)) = true then bindA d.ps as.pos as.kw else none) with
        | none => rw [hb] at h; exact h.elim
        | some svs =>
          rw [hb] at h
          dsimp only at h
          have hk : kwOk d.ps as.pos.length (as.kw.map (·.1)) = true := by
            by_cases c : kwOk d.ps as.pos.length (as.kw.map (·.1)) = true
            · exact c
            · rw [if_neg c] at hb; cases hb
          rw [if_pos hk] at hb
          obtain ⟨vals, outv, q1, q2, q3, q4⟩ := binds_ok (fd := PySem.W.fnOf name qual params body scope .none kV doc pm an cdv ct) sp rfl ndp hk hb ra rv rk rw_
          refine LamX.run_ofS (CX := L2.CX P w) (N := N) (ps := d.ps.map Str.ofString) (us := vals) (vs := outv) lk hcd S hr e0 (.of_eq q1) q4 (by rw [← Paired.length q3, q2, List.length_map]) fun hr' => ?_
          exact body_ok go hf ih hch hlam t q3 h k kx (roomS_deeper hr _)
    | clo obj hfn ho code ck hps hfr hcl inj cell cap =>
      rename_i np m cbody caps f c' qual params lbody scope cl pm ctv ps fr
      obtain rfl : u = Value.ref f := ru
      obtain ⟨h1, h2, h3⟩ := h
      have ez : zs = [] := by
        rw [h2] at rk
        cases rk
        rfl
      subst ez
      have ew : ws = [] := by cases rw_; rfl
      subst ew
      unfold chkL at ck
      rw [Bool.and_eq_true] at ck
      obtain ⟨L, nn⟩ := clo_by ck.1
      have hc := t.sub _ _ code
      obtain ⟨⟨oc, vc, tc, hoc, hdc, hvc⟩, _, _⟩ := e0.hok c' _ hc
      have free : ∀ x ∈ fr, ∃ c, cl.lookup x = some c := fun x hx => hcl (x, .free) (PySem.mem_of_lookup (L.free x hx)) rfl
      obtain ⟨cs, l1, cp1, cp2⟩ := cap_vals (s := s) (R := R) hfr free cap
      have lu : us.length = ps.length := by rw [← rv.length, ← Paired.length ra, h1, hps]
      refine run_clo (Q := Q) L e0 ⟨hr.hd, by have := hr.dp; omega⟩ lu l1 rv obj hoc hdc hvc hcl inj cell cp1 (t := TX (bodyCo T K cA eA fA G (wCall G n) s H outer E) cbody) ?_ ?_
      · refine ((snd (T := T) (fA := fA) m).E _ _ _ ck.2 n _ _ ⟨rfl, rfl, L.nd, nn, rfl, go, by have := hr.un; show A.units + 3 + 65 < _; omega, fun x hx => absurd rfl (L.own _ (PySem.mem_of_lookup hx)), fun _ => ⟨rfl, rfl, L.nd, takes_of rfl rfl rfl rfl, roomS_deeper hr _, ih, @fun pn xe _ _ _ _ _ _ _ _ hc I => later_tr (Z := cloCx P w K mg base (ps ++ fr) qual A outer s H E scope f c' cl) rfl pn xe hc I, hf⟩, fun hl => (by cases hl), fun hx => (by cases hx)⟩).1
      · refine ⟨R, F, as.pos.map some ++ caps, M, QQ, XX, t, ⟨?_, fun i sv e => ?_⟩, h3, k, fun F1 H1 M1 cn fs cls d s1 t1 er q => ?_⟩
        · rw [List.length_append, List.length_append, List.length_map, List.length_map, l1, hfr, Paired.length ra]
        · unfold slot at e
          by_cases c : i < as.pos.length
          · rw [List.getElem?_append_left (by rw [List.length_map]; exact c), List.getElem?_map, List.getElem?_eq_getElem c] at e
            have e : some as.pos[i] = some sv := e
            obtain ⟨v, q1, q2⟩ := paired_get ra (show as.pos[i]? = some sv by rw [List.getElem?_eq_getElem c, e])
            refine ⟨v, ?_, repF_S q2⟩
            rw [List.getElem?_append_left (by rw [List.length_map, ← Paired.length ra]; exact c), List.getElem?_map, q1]; rfl
          · rw [List.getElem?_append_right (by rw [List.length_map]; omega), List.length_map] at e
            obtain ⟨v, p, rfl, q1, q2⟩ := cp2 _ sv e
            refine ⟨v, ?_, q2⟩
            rw [List.getElem?_append_right (by rw [List.length_map, ← Paired.length ra]; omega), List.length_map, ← Paired.length ra]
            exact q1
        · obtain ⟨Ec, d', gs, e1, rfl, rfl, e4, e5⟩ := er.ex
          exact kx F1 H1 M1 cn fs Ec d' gs s1 t1 e1 e4 e5 q
end
end IB
end

section
set_option Elab.async false
set_option linter.all false
set_option maxRecDepth 100000
set_option maxHeartbeats 4000000
/-! S22: what the head's heap says. -/
namespace IB
open PySem PySem.Spec PyProof.Rows PySem.HandSPX L2
open PySem.W (clsIn findIn subIn mroIn nsIn typeIn keepIn hasDictIn codeIn specialIn takesIn ks_superIn)
/-! ### own exceptions -/
def exClsB (K : Frag) (C : Addr) : Bool := match K.lookup C with
  | some ⟨.type t, _, .cls cd, sl⟩ => t == "type" && (match cd.mro with | .ref D :: bm => D == C && refsVE bm | _ => false) && cd.hasDict && !cd.hasDel && (match sl.toList with
    | [_, _, _, _, some (.builtin n), _] => n == "ValueError.__new__"
    | _ => false)
  | _ => false
theorem exCls_ok {K : Frag} {C : Addr} (h : exClsB K C = true) : ∃ nm q N bs bm sn sub ab col dd k0 k1 k2 k3 k5, K.lookup C = some (excClassObj nm q C N bs bm true sn sub ab col dd k0 k1 k2 k3 k5 "ValueError.__new__") ∧ refsVE bm = true := by
  unfold exClsB at h
  split at h
  · rename_i t dd cd sl e
    simp only [Bool.and_eq_true, Bool.not_eq_true'] at h
    obtain ⟨⟨⟨⟨h1, h2⟩, h3⟩, h4⟩, h5⟩ := h
    obtain rfl : t = "type" := by simpa using h1
    obtain ⟨nm, bs, mro, ns, qn, hd, sn, sb, ab, col, del⟩ := cd
    dsimp only at h2 h3 h4
    subst h3 h4
    split at h2
    · rename_i D bm
      rw [Bool.and_eq_true] at h2
      obtain rfl : D = C := by simpa using h2.1
      obtain ⟨sl⟩ := sl
      dsimp only at h5
      split at h5
      · rename_i nn _
        obtain rfl : nn = "ValueError.__new__" := by simpa using h5
        exact ⟨nm, qn, ns, bs, bm, sn, sb, ab, col, dd, _, _, _, _, _, e, h2.2⟩
      · cases h5
    · cases h2
  · cases h
/-- its __init__ -/
def exFnB (prog : Program) (K : Frag) (C fI : Addr) (f : Str) : Bool := match K.lookup fI with
  | some ⟨_, _, .func fd, _⟩ => (match fd with
    | ⟨name, qual, params, body, scope, glob, clo, dV, kV, doc, pm, an, code, ct, bl⟩ => name == ("__init__" : Str) &&
      (match params with | ⟨[], [⟨a1, none, _⟩, ⟨a2, none, _⟩], none, [], [], none, []⟩ => a1 == ("self" : Str) && a2 == f | _ => false) &&
      (match body with
        | .stmts [.Expr (.Call (.Attribute (.Call (.Name s1 _) [] [] _) s2 p3) [] [] p4) _, .Assign [.Attribute (.Name s3 _) s4 _] (.Name s5 _) _] => s1 == ("super" : Str) && s2 == ("__init__" : Str) && s3 == ("self" : Str) && s4 == f && s5 == f && p3.endLine == p4.line
        | _ => false) &&
      decide (glob = mainGlobals) && (match dV with | .none => true | _ => false) && (match kV with | .none => true | _ => false) && decide (bl = builtinsNs) &&
      decide (scope.kind = .function) && !scope.isCoroutine && !scope.isGenerator && scope.names.all (fun y => !decide (y.2 = .cell)) && decide (scope.names.lookup ("super" : Str) = some .globalImplicit) && decide (scope.names.lookup ("__class__" : Str) = some .free) && decide (scope.names.lookup ("self" : Str) = some .local) && decide (scope.names.lookup f = some .local) &&
      (match code with
        | .ref cda => codeIn K (.ref cda) qual && (match K.lookup cda with | some ⟨_, _, .fields vs, _⟩ => (match (vs[2]? : Option Value) with | some (.str file _) => (prog.main.file : Str) == file | _ => false) | _ => false)
        | _ => false) &&
      (match clo with | [(n, cc)] => n == ("__class__" : Str) && (match K.lookup cc with | some ⟨_, _, .cell (some (.ref D)), _⟩ => D == C | _ => false) | _ => false))
  | _ => false
def exTxtB (prog : Program) (K : Frag) (C fI : Addr) (f : Str) : Bool :=
  exClsB K C && decide (findIn K (.ref C) "__setattr__" = some (some (.builtin "object.__setattr__"))) && decide (findIn K (.ref C) f = some none) && decide (findIn K (.ref C) "__init__" = some (some (.ref fI))) && decide (typeIn K (.ref fI) = some (.type "function")) && keepIn K (.ref C) &&
  decide (subIn K (.ref C) (.type "BaseException") = some true) && decide (typeIn K (.ref C) = some (.type "type")) && decide (subIn K (.ref C) (.type "ValueError") = some true) && decide (mroIn K C (.ref C) = some true) && decide (ks_superIn K C C "__init__" = some (some (.builtin "ValueError.__init__"))) &&
  decide (nsIn K cStatics "thirdparty.any" = some none) && !(prog.main.scope.names.lookup ("super" : Str)).isSome && !(f == ("self" : Str)) && !(f == ("__debug__" : Str)) && exFnB prog K C fI f
theorem exTxt_ok {prog : Program} {K : Frag} {C fI : Addr} {f : Str} (h : exTxtB prog K C fI f = true) : ExTxt prog K C fI f := by
  unfold exTxtB at h
  simp only [Bool.and_eq_true, decide_eq_true_eq, Bool.not_eq_true'] at h
  obtain ⟨⟨⟨⟨⟨⟨⟨⟨⟨⟨⟨⟨⟨⟨⟨h1, h2⟩, h3⟩, h4⟩, h5⟩, h6⟩, h7⟩, h8⟩, h9⟩, h10⟩, h11⟩, h12⟩, h13⟩, h14⟩, h15⟩, h16⟩ := h
  refine ⟨exCls_ok h1, h2, h3, h4, h5, h6, h7, h8, h9, h10, h11, h12, h13, by simpa using h14, h15, ?_⟩
  unfold exFnB at h16
  split at h16
  · rename_i oc od fd osl e
    obtain ⟨name, qual, params, body, scope, glob, clo, dV, kV, doc, pm, an, code, ct, bl⟩ := fd
    dsimp only at h16
    simp only [Bool.and_eq_true, decide_eq_true_eq, Bool.not_eq_true'] at h16
    obtain ⟨⟨⟨⟨⟨⟨⟨⟨⟨⟨⟨⟨⟨⟨⟨⟨g1, g2⟩, g3⟩, g4⟩, g5⟩, g6⟩, g7⟩, g8⟩, g9⟩, g10⟩, g11⟩, g12⟩, g13⟩, g14⟩, g15⟩, g16⟩, g17⟩ := h16
    obtain rfl := beq_iff_eq.mp g1
    split at g2
    · rename_i a1 p1 a2 p2
      rw [Bool.and_eq_true] at g2
      obtain rfl := beq_iff_eq.mp g2.1
      obtain rfl := beq_iff_eq.mp g2.2
      split at g3
      · simp only [Bool.and_eq_true] at g3
        obtain ⟨⟨⟨⟨⟨b1, b2⟩, b3⟩, b4⟩, b5⟩, b6⟩ := g3
        obtain rfl := beq_iff_eq.mp b1
        obtain rfl := beq_iff_eq.mp b2
        obtain rfl := beq_iff_eq.mp b3
        obtain rfl := beq_iff_eq.mp b4
        obtain rfl := beq_iff_eq.mp b5
        subst g4 g7
        split at g5
        · split at g6
          · split at g16
            · rename_i cda
              rw [Bool.and_eq_true] at g16
              obtain ⟨c1, c2⟩ := g16
              split at c2
              · rename_i ccl cdd vs ccs ec
                split at c2
                · rename_i file tf ev
                  split at g17
                  · rename_i n cc
                    rw [Bool.and_eq_true] at g17
                    obtain ⟨d1, d2⟩ := g17
                    obtain rfl := beq_iff_eq.mp d1
                    split at d2
                    · rename_i cl cld D csl el
                      obtain rfl : D = C := by simpa using d2
                      simp only [List.all_eq_true, Bool.not_eq_true', decide_eq_false_iff_not] at g11
                      exact ⟨oc, od, doc, pm, an, cda, cc, ct, osl, qual, scope, _, _, _, _, _, _, _, _, _, _, _, ccl, cdd, vs, ccs, file, tf, cl, cld, csl, b6, e, c1, g8, g9, g10, g11, g12, g13, g14, g15, ec, ev, c2, el⟩
                    · cases d2
                  · cases g17
                · cases c2
              · cases c2
            · cases g16
          · cases g6
        · cases g5
      · cases g3
    · cases g2
  · cases h16
end IB
end

section
set_option Elab.async false
set_option linter.all false
set_option maxRecDepth 100000
set_option maxHeartbeats 4000000
/-! S23: a law by its data. -/
namespace IB
open PySem PySem.Spec PyProof.Rows PySem.HandSPX L2
open PySem.W (clsIn findIn subIn mroIn nsIn typeIn keepIn hasDictIn codeIn specialIn takesIn ks_superIn)
def LawD.T (L : LawD) : Tb where
  defs := (L.defs.filter fun d => d.own.isNone).map (·.name)
  clss := L.clss.map (·.name)
  excs := L.excs.map fun p => (p.1, p.2.1)
  hnd := L.hnd
  xis := L.xis
  xfs := L.xfs
/-- a property's getter -/
def propAt (K : Frag) (C : Addr) (f : Str) : Addr := match findIn K (.ref C) f with
  | some (some (.ref p)) => p
  | _ => 0
def getA (K : Frag) (c f : String) : Addr := match PySem.W.recIn K (propAt K (He.ga K (Str.ofString c)) (Str.ofString f)) "property" with
  | some (.ref g :: _) => g
  | _ => 0
def DefT.adr (K : Frag) (d : DefT) : Addr := match d.own with
  | none => He.ga K (Str.ofString d.name)
  | some (c, m, _, false) => He.ma K (He.ga K (Str.ofString c)) (Str.ofString m)
  | some (c, m, _, true) => getA K c m
def LawD.fA (L : LawD) (K : Frag) (f : String) : Option Addr := (L.defs.find? fun d => d.name == f).map fun d => d.adr K
def LawD.eA (L : LawD) (K : Frag) (c : String) : Option Addr := if (L.excs.any fun p => p.1 == c) = true then some (He.ga K (Str.ofString c)) else none
def LawD.tf (L : LawD) : List He.Defn := (L.defs.filter (·.lam)).map fun d => (Str.ofString d.name, none)
/-! ### constants -/
mutual
def relPV (K : Frag) : Nat → PV → Value → Bool
  | 0, _, _ => false
  | n + 1, p, u => match p, u with
    | .non, .none => true
    | .bl b, .bool c => b == c
    | .int i, .int j _ => i == j
    | .str s, .str x _ => x == Str.ofString s
    | .tup ps, .ref a => (match K.lookup a with
      | some ⟨.type t, _, .seq its _, _⟩ => t == "tuple" && decide (its.size ≤ sizeLine) && relPVs K n ps its.toList
      | _ => false)
    | _, _ => false
def relPVs (K : Frag) : Nat → List PV → List Value → Bool
  | 0, _, _ => false
  | n + 1, ps, us => match ps, us with
    | [], [] => true
    | p :: ps, u :: us => relPV K n p u && relPVs K n ps us
    | _, _ => false
end
theorem relPV_ok {K : Frag} : ∀ n, (∀ p u, relPV K n p u = true → ∃ v, RelV v u ∧ RepV K (fun _ => none) p v) ∧ ∀ ps us, relPVs K n ps us = true → ∃ vs, Vals vs us ∧ RepVs K (fun _ => none) ps vs := by
  intro n
  induction n with
  | zero => exact ⟨fun p u h => (by unfold relPV at h; cases h), fun p u h => (by unfold relPVs at h; cases h)⟩
  | succ n ih =>
    refine ⟨fun p u h => ?_, fun ps us h => ?_⟩
    · unfold relPV at h
      split at h
      · exact ⟨.non, rfl, .non⟩
      · obtain rfl := beq_iff_eq.mp h; exact ⟨.bl _, rfl, .bl _⟩
      · obtain rfl := beq_iff_eq.mp h; exact ⟨.int _, ⟨_, rfl⟩, .int _⟩
      · obtain rfl := beq_iff_eq.mp h; exact ⟨.str _, ⟨_, rfl⟩, .str _⟩
      · split at h
        · rename_i t od its nn sl e
          simp only [Bool.and_eq_true, decide_eq_true_eq] at h
          obtain ⟨⟨h1, h2⟩, h3⟩ := h
          obtain rfl : t = "tuple" := by simpa using h1
          obtain ⟨vs, r1, r2⟩ := ih.2 _ _ h3
          exact ⟨.ref _, rfl, .tup (.inr ⟨_, its, nn, e, rfl, rfl, h2, r1⟩) r2⟩
        · cases h
      · cases h
    · unfold relPVs at h
      split at h
      · exact ⟨[], .nil, .nil⟩
      · rw [Bool.and_eq_true] at h
        obtain ⟨v, r1, r2⟩ := ih.1 _ _ h.1
        obtain ⟨vs, q1, q2⟩ := ih.2 _ _ h.2
        exact ⟨v :: vs, .cons r1 q1, .cons r2 q2⟩
      · cases h
/-! ### the extra facts -/
def nmV (K : Frag) (x : String) : Value := match nsIn K mainGlobals (Str.ofString x) with
  | some (some (.ref a)) => .ref a
  | _ => .type x
def nmB (K : Frag) (x : String) : Bool := match nsIn K mainGlobals (Str.ofString x) with
  | some (some (.ref _)) => true
  | some none => decide (bootBuiltins (Str.ofString x) = some (.type x)) && !(Str.ofString x == ("__name__" : Str))
  | _ => false
def excCB (K : Frag) (D : Addr) : Bool :=
  decide (findIn K (.ref D) "__getattribute__" = some (some (.builtin "BaseException.__getattribute__"))) && decide (findIn K (.ref D) "__getattr__" = some none) && decide (subIn K (.ref D) (.type "BaseException") = some true) && hasDictIn K D &&
  decide (findIn K (.ref D) "__class__" = some (some (.builtin "object.__class__"))) && decide (specialIn K (.builtin "object.__class__") "__get__" = some (some (.builtin "getset_descriptor.__get__"))) && decide (takesIn K (.builtin "object.__class__") = some true) && decide (mroIn K D (.type "object") = some true)
def plnB (K : Frag) (D : Addr) : Bool := match K.lookup D with
  | some ⟨.type t, _, .cls cd, sl⟩ => t == "type" && (match cd.mro with | [.ref E, .type o] => E == D && o == "object" | _ => false) && !cd.hasDel && PySem.W.nsOkIn K cd.ns && decide (nsIn K cd.ns "__eq__" = some none) && decide (nsIn K cd.ns "__ne__" = some none) && (match sl.toList with
    | [_, _, _, _, some (.builtin _), _] => true
    | _ => false)
  | _ => false
def meB (K : Frag) (C : Addr) (m : String) : Bool := decide (findIn K (.ref C) (Str.ofString m) = some (some (.ref (He.ma K C (Str.ofString m))))) && PySem.W.isFn K (.ref (He.ma K C (Str.ofString m))) && keepIn K (.ref (He.ma K C (Str.ofString m)))
def prB (K : Frag) (c f : String) : Bool := decide (findIn K (.ref (He.ga K (Str.ofString c))) (Str.ofString f) = some (some (.ref (propAt K (He.ga K (Str.ofString c)) (Str.ofString f))))) && decide (specialIn K (.ref (propAt K (He.ga K (Str.ofString c)) (Str.ofString f))) "__get__" = some (some (.builtin "property.__get__"))) &&
  decide (takesIn K (.ref (propAt K (He.ga K (Str.ofString c)) (Str.ofString f))) = some true) && (match PySem.W.recIn K (propAt K (He.ga K (Str.ofString c)) (Str.ofString f)) "property" with
  | some (.ref g :: _) => g == getA K c f
  | _ => false)
def clsB (L : LawD) (K : Frag) (c : ClsD) : Bool :=
  decide (nsIn K mainGlobals (Str.ofString c.name) = some (some (.ref (He.ga K (Str.ofString c.name))))) && (He.Fa.cls (Str.ofString c.name)).ok K &&
  (match c.cc.init with | some d => (He.Fa.mkr (Str.ofString c.name)).ok K && L.defs.any (fun e => e.name == d && e.own == some (c.name, "__init__", e.own.elim 0 (·.2.2.1), false)) | none => true) &&
  c.cc.props.all (fun p => prB K c.name p.1 && L.defs.any (fun e => e.name == p.2 && e.own == some (c.name, p.1, e.own.elim 0 (·.2.2.1), true))) &&
  c.cc.meths.all (fun p => meB K (He.ga K (Str.ofString c.name)) p.1 && L.defs.any (fun e => e.name == p.2 && e.own == some (c.name, p.1, e.own.elim 0 (·.2.2.1), false))) &&
  c.cc.flds.all (fun f => decide (findIn K (.ref (He.ga K (Str.ofString c.name))) (Str.ofString f) = some none)) &&
  (!c.cc.plain || plnB K (He.ga K (Str.ofString c.name))) &&
  decide (findIn K (.ref (He.ga K (Str.ofString c.name))) "__class__" = some (some (.builtin "object.__class__"))) && decide (mroIn K (He.ga K (Str.ofString c.name)) (.type "object") = some true) &&
  (["NoneType", "bool", "int", "str", "tuple", "list"] : List String).all (fun b => decide (PySem.W.kitOne K (.type b) (.ref (He.ga K (Str.ofString c.name))) = some false)) &&
  (["bool", "int", "str", "tuple", "list", "dict"] : List String).all (fun b => decide (PySem.W.kitOne K (.ref (He.ga K (Str.ofString c.name))) (.type b) = some false)) &&
  L.clss.all (fun d => decide (PySem.W.kitOne K (.ref (He.ga K (Str.ofString c.name))) (.ref (He.ga K (Str.ofString d.name))) = some (c.name == d.name)))
/-- a function where it stands -/
def fnWA (K : Frag) (a : Addr) : He.FnW := match K.lookup a with
  | some ⟨_, _, .func fd, _⟩ => some (fd.name, fd.qualname, fd.params, fd.body, fd.scope, fd.globals, fd.closure, fd.builtins)
  | _ => none
def okA (K : Frag) (a : Addr) (q : Str) : Bool := keepIn K (.ref a) && (match K.lookup a with
  | some ⟨_, _, .func fd, _⟩ => codeIn K fd.code q && (match fd.defaults with | .none => true | _ => false)
  | _ => false)
def clsStmts : Stmt → List Stmt
  | .ClassDef _ _ _ b _ _ _ _ _ _ _ => b
  | _ => []
def DefT.st (d : DefT) (prog : Program) : Stmt :=
  let st := prog.main.body.getD d.at_ (.Pass ⟨0, 0, 0, 0⟩)
  match d.own with
  | none => st
  | some (_, _, i, _) => (clsStmts st).getD i (.Pass ⟨0, 0, 0, 0⟩)
def DefT.nm (d : DefT) : Str := match d.own with
  | none => Str.ofString d.name
  | some (_, m, _, _) => Str.ofString m
def DefT.fw (d : DefT) (prog : Program) : He.FnW := some (d.nm, Str.ofString d.name, defArgs (d.st prog), .stmts (defBody (d.st prog)), defScope (d.st prog), mainGlobals, [], builtinsNs)
def exAll (L : LawD) (prog : Program) (tf : List He.Defn) (K : Frag) : Bool :=
  L.consts.all (fun p => match nsIn K mainGlobals (Str.ofString p.1) with | some (some u) => relPV K 40 p.2 u | _ => false) &&
  L.hnd.all (nmB K) && L.xis.all (nmB K) && decide (specialIn K (.builtin "object.__class__") "__get__" = some (some (.builtin "getset_descriptor.__get__"))) && decide (takesIn K (.builtin "object.__class__") = some true) &&
  L.excs.all (fun p => decide (nsIn K mainGlobals (Str.ofString p.1) = some (some (.ref (He.ga K (Str.ofString p.1))))) && exTxtB prog K (He.ga K (Str.ofString p.1)) (He.ma K (He.ga K (Str.ofString p.1)) "__init__") (Str.ofString p.2.1) && xfB K (He.ga K (Str.ofString p.1)) && excCB K (He.ga K (Str.ofString p.1)) &&
    L.hnd.all (fun x => decide (PySem.W.exmOne K (.ref (He.ga K (Str.ofString p.1))) (nmV K x) = some (p.2.2.contains x))) && L.xis.all (fun x => decide (PySem.W.kitOne K (.ref (He.ga K (Str.ofString p.1))) (nmV K x) = some (p.2.2.contains x))) &&
    L.xfs.all (fun f => decide (findIn K (.ref (He.ga K (Str.ofString p.1))) (Str.ofString f) = some none))) &&
  decide ((tf.map fun p => (He.cT K p).2).Nodup) && L.clss.all (clsB L K) && L.defs.all (fun d => okA K (d.adr K) (Str.ofString d.name))
/-! ### the Hook -/
structure SaysZ (L : LawD) (prog : Program) (h : Heap) (K : Frag) : Prop where
  fa : ∀ b ∈ bltNames, nsIn K mainGlobals (Str.ofString b) = some none
  gl : ∀ d ∈ L.defs, d.own = none → nsIn K mainGlobals (Str.ofString d.name) = some (some (.ref (He.ga K (Str.ofString d.name))))
  fw : ∀ d ∈ L.defs, fnWA K (d.adr K) = d.fw prog
  more : exAll L prog L.tf K = true
  hd : ∀ p ∈ L.tf, PySem.W.codeHdIn K (He.cT K p).1 (He.cT K p).2 = true
  out : ∀ p ∈ L.tf, K.lookup (He.cT K p).2 = none
  empty : ∀ p ∈ L.tf, h.get? (He.cT K p).2 = some { cls := .none, data := .fields #[] }
def fragZ (n : Nat) (g : Addr → Option Obj) : Frag := He.frT g (cStatics :: He.asD g n)
def baseB (L : LawD) (K : Frag) : Bool := bltNames.all (fun b => decide (nsIn K mainGlobals (Str.ofString b) = some none)) && L.defs.all (fun d => d.own.isSome || decide (nsIn K mainGlobals (Str.ofString d.name) = some (some (.ref (He.ga K (Str.ofString d.name))))))
def obsZ (n : Nat) (L : LawD) (prog : Program) (g : Addr → Option Obj) : List He.FnW × Bool := (L.defs.map fun d => fnWA (fragZ n g) (d.adr (fragZ n g)), baseB L (fragZ n g) && (exAll L prog L.tf (fragZ n g) && He.tabsB g L.tf (fragZ n g)))
theorem map_at {α β : Type} {f g : α → β} : ∀ {l : List α}, l.map f = l.map g → ∀ x ∈ l, f x = g x
  | [], _, _, h => by cases h
  | a :: l, e, x, h => by
    rw [List.map_cons, List.map_cons, List.cons.injEq] at e
    rcases List.mem_cons.mp h with rfl | h
    · exact e.1
    · exact map_at e.2 x h
theorem saysZ_of {n : Nat} {L : LawD} {prog : Program} {h : Heap} (e : obsZ n L prog h.get? = (L.defs.map fun d => d.fw prog, true)) : SaysZ L prog h (fragZ n h.get?) := by
  have e1 : (L.defs.map fun d => fnWA (fragZ n h.get?) (d.adr (fragZ n h.get?))) = L.defs.map fun d => d.fw prog := congrArg (fun z : List He.FnW × Bool => z.1) e
  have e2 : (baseB L (fragZ n h.get?) && (exAll L prog L.tf (fragZ n h.get?) && He.tabsB h.get? L.tf (fragZ n h.get?))) = true := congrArg (fun z : List He.FnW × Bool => z.2) e
  rw [Bool.and_eq_true, Bool.and_eq_true] at e2
  obtain ⟨h0, h1, h2⟩ := e2
  unfold baseB at h0
  rw [Bool.and_eq_true, List.all_eq_true, List.all_eq_true] at h0
  have look : ∀ p ∈ L.tf, PySem.W.codeHdIn (fragZ n h.get?) (He.cT (fragZ n h.get?) p).1 (He.cT (fragZ n h.get?) p).2 = true ∧ ∃ o, h.get? (He.cT (fragZ n h.get?) p).2 = some o ∧ He.emptyTab o = true := fun p hp => by
    obtain ⟨h3, h4⟩ := He.ba (List.all_eq_true.mp h2 p hp)
    refine ⟨h3, ?_⟩
    cases q : h.get? (He.cT (fragZ n h.get?) p).2 with
    | none => rw [q] at h4; cases h4
    | some o => rw [q] at h4; exact ⟨o, rfl, h4⟩
  refine ⟨fun b hb => of_decide_eq_true (h0.1 b hb), fun d hd ho => ?_, map_at e1, h1, fun p hp => (look p hp).1, fun p hp => ?_, fun p hp => ?_⟩
  · have := h0.2 d hd
    rw [ho] at this
    simpa using this
  · obtain ⟨_, o, q, z⟩ := look p hp
    exact He.frT_none q z
  · obtain ⟨_, o, q, z⟩ := look p hp
    rw [q, He.emptyTab_eq z]
def hookZ (n : Nat) (L : LawD) (prog : Program) : PySem.W.Hook where
  α := List He.FnW × Bool
  obs := fun s => obsZ n L prog s.heap.get?
  val := fun _ => (L.defs.map fun d => d.fw prog, true)
  says := fun _ h => ∃ K : Frag, K.In h ∧ SaysZ L prog h K
  of := fun _ _ e => ⟨_, He.frT_in, saysZ_of e⟩
  keeps := fun _ _ _ ⟨K, hK, c⟩ k => ⟨K, PySem.W.Frag.In.keeps hK k, ⟨c.fa, c.gl, c.fw, c.more, c.hd, c.out, fun p hp => k _ _ (c.empty p hp)⟩⟩
theorem obsZ_eq {n : Nat} {L : LawD} {prog : Program} {g : Addr → Option Obj} {s : Shared} (h : ∀ a, g a = s.heap.get? a) : obsZ n L prog g = (hookZ n L prog).obs s := by
  have e : g = s.heap.get? := funext h
  rw [e] <;> rfl
/-- the texts are Core's -/
def LawD.chk (L : LawD) (prog : Program) (m : Nat) : Bool := L.defs.all fun d => chkDef L.T m (d.N.map Str.ofString) d.lam (defScope (d.st prog)) (defArgs (d.st prog)) (defBody (d.st prog)) d.d
end IB
end

section
set_option Elab.async false
set_option linter.all false
set_option maxRecDepth 100000
set_option maxHeartbeats 4000000
/-! S24: the end. -/
namespace IB
open PySem PySem.Spec PyProof.Rows PySem.HandSPX L2
open PySem.W (clsIn findIn subIn mroIn nsIn typeIn keepIn hasDictIn codeIn specialIn takesIn ks_superIn)
section
variable {L : LawD} {prog : Program} {K : Frag} {mg : Str → Option Value} {h : Heap} {w : World}
def LawD.cA (L : LawD) (K : Frag) : Tn where
  cls := fun c => if (L.clss.any fun d => d.name == c) = true then some (He.ga K (Str.ofString c)) else none
  tab := L.tf.map fun p => ((He.cT K p).2, (p.1 ++ ".<locals>.") ++ "<lambda>")
theorem mem_defs {name : String} (hm : name ∈ L.T.defs) : ∃ d ∈ L.defs, d.name = name ∧ d.own = none := by
  obtain ⟨d, h1, h2⟩ := List.mem_map.mp hm
  obtain ⟨h1, h3⟩ := List.mem_filter.mp h1
  exact ⟨d, h1, h2, by simpa using h3⟩
theorem find_nd : ∀ {l : List DefT} {d : DefT}, (l.map (·.name)).Nodup → d ∈ l → (l.find? fun e => e.name == d.name) = some d
  | [], _, _, h => by cases h
  | a :: r, d, nd, h => by
    rw [List.map_cons, List.nodup_cons] at nd
    rw [List.find?_cons]
    rcases List.mem_cons.mp h with rfl | hr
    · simp
    · have ne : a.name ≠ d.name := fun z => nd.1 (by rw [z]; exact List.mem_map_of_mem hr)
      have e : (a.name == d.name) = false := by simpa using ne
      rw [e]
      exact find_nd nd.2 hr
theorem fA_of (ndD : (L.defs.map (·.name)).Nodup) {d : DefT} (hd : d ∈ L.defs) : L.fA K d.name = some (d.adr K) := by
  unfold LawD.fA
  rw [find_nd ndD hd]; rfl
theorem fA_some {f : String} {a : Addr} (e : L.fA K f = some a) : ∃ d ∈ L.defs, d.name = f ∧ a = d.adr K := by
  unfold LawD.fA at e
  cases h : L.defs.find? (fun d => d.name == f) with
  | none => rw [h] at e; cases e
  | some d =>
    rw [h] at e
    exact ⟨d, List.mem_of_find?_eq_some h, by have := List.find?_some h; simpa using this, (Option.some.inj e).symm⟩
theorem nmV_ok (X : K.In h) (G : h.Ns mainGlobals mg) {x : String} (hb : nmB K x = true) : NameIs mg (Str.ofString x) (nmV K x) ∧ ∃ cv, ClsV cv (nmV K x) := by
  unfold nmB at hb
  unfold nmV
  split at hb
  · rename_i a e
    rw [e]
    exact ⟨.inl (PySem.W.mg_of X G e), _, .own a⟩
  · rename_i e
    rw [e]
    rw [Bool.and_eq_true] at hb
    exact ⟨.inr ⟨PySem.W.mg_none_of X G e, of_decide_eq_true hb.1, by simpa using hb.2⟩, _, .ty x⟩
  · cases hb
theorem excC_ok {D : Addr} (hb : excCB K D = true) : ExcC K D := by
  unfold excCB at hb
  simp only [Bool.and_eq_true, decide_eq_true_eq] at hb
  obtain ⟨⟨⟨⟨⟨⟨⟨h1, h2⟩, h3⟩, h4⟩, h5⟩, h6⟩, h7⟩, h8⟩ := hb
  exact ⟨h1, h2, h3, h4, h5, h6, h7, h8⟩
theorem eA_some {cn : String} {E : Addr} (e : L.eA K cn = some E) : (∃ p ∈ L.excs, p.1 = cn) ∧ E = He.ga K (Str.ofString cn) := by
  unfold LawD.eA at e
  split at e
  · rename_i c
    obtain ⟨p, h1, h2⟩ := List.any_eq_true.mp c
    exact ⟨⟨p, h1, by simpa using h2⟩, (Option.some.inj e).symm⟩
  · cases e
theorem lookup_mem {α : Type} : ∀ {l : List (String × α)} {k : String} {v : α}, l.lookup k = some v → (k, v) ∈ l
  | [], _, _, h => by cases h
  | (a, b) :: r, k, v, h => by
    rw [List.lookup_cons] at h
    cases e : k == a with
    | true =>
      rw [e] at h
      obtain rfl := Option.some.inj h
      obtain rfl := beq_iff_eq.mp e
      exact List.mem_cons_self
    | false =>
      rw [e] at h
      exact List.mem_cons_of_mem _ (lookup_mem h)
theorem pln_ok {D : Addr} (h : plnB K D = true) : PlainEq K D := by
  unfold plnB at h
  split at h
  · rename_i t dd cd sl e
    simp only [Bool.and_eq_true, Bool.not_eq_true', decide_eq_true_eq] at h
    obtain ⟨⟨⟨⟨⟨⟨h1, h2⟩, h3⟩, h4⟩, h5⟩, h6⟩, h7⟩ := h
    obtain rfl : t = "type" := by simpa using h1
    obtain ⟨nm, bs, mro, ns, qn, hd, sn, sb, ab, col, del⟩ := cd
    dsimp only at h2 h3 h4 h5 h6
    subst h3
    split at h2
    · rename_i E o
      rw [Bool.and_eq_true] at h2
      obtain rfl : E = D := by simpa using h2.1
      obtain rfl : o = "object" := by simpa using h2.2
      obtain ⟨sl⟩ := sl
      dsimp only at h7
      split at h7
      · exact ⟨nm, qn, ns, bs, hd, sn, sb, ab, col, dd, _, _, _, _, _, _, e, h4, h5, h6⟩
      · cases h7
    · cases h2
  · cases h
theorem pr_ok {c f : String} (h : prB K c f = true) : PropOf K (He.ga K (Str.ofString c)) (Str.ofString f) (propAt K (He.ga K (Str.ofString c)) (Str.ofString f)) (getA K c f) := by
  unfold prB at h
  simp only [Bool.and_eq_true, decide_eq_true_eq] at h
  obtain ⟨⟨⟨h1, h2⟩, h3⟩, h4⟩ := h
  refine ⟨h1, h2, h3, ?_⟩
  split at h4
  · rename_i g rest e
    obtain rfl : g = getA K c f := by simpa using h4
    exact ⟨rest, e⟩
  · cases h4
theorem clss_some {c : String} {cc : CCls} (h : L.G.clss c = some cc) : ∃ d ∈ L.clss, d.name = c ∧ d.cc = cc := by
  have h : (L.clss.find? fun d => d.name == c).map (·.cc) = some cc := h
  cases e : L.clss.find? (fun d => d.name == c) with
  | none => rw [e] at h; cases h
  | some d =>
    rw [e] at h
    exact ⟨d, List.mem_of_find?_eq_some e, by have := List.find?_some e; simpa using this, Option.some.inj h⟩
theorem cls_adr {c : String} {d : ClsD} (hd : d ∈ L.clss) (hn : d.name = c) : (L.cA K).cls c = some (He.ga K (Str.ofString c)) := by
  show (if _ then _ else _) = _
  rw [if_pos (List.any_eq_true.mpr ⟨d, hd, by simpa using hn⟩)]
theorem cls_some {c : String} {D : Addr} (e : (L.cA K).cls c = some D) : (∃ d ∈ L.clss, d.name = c) ∧ D = He.ga K (Str.ofString c) := by
  have e : (if (L.clss.any fun d => d.name == c) = true then some (He.ga K (Str.ofString c)) else none) = some D := e
  split at e
  · rename_i q
    obtain ⟨d, h1, h2⟩ := List.any_eq_true.mp q
    exact ⟨⟨d, h1, by simpa using h2⟩, (Option.some.inj e).symm⟩
  · cases e
theorem own_def {c m x : String} {p : Bool} (ndD : (L.defs.map (·.name)).Nodup) (h : (L.defs.any fun e => e.name == x && e.own == some (c, m, e.own.elim 0 (·.2.2.1), p)) = true) : ∃ d ∈ L.defs, d.name = x ∧ L.fA K x = some (d.adr K) ∧ ∃ i, d.own = some (c, m, i, p) := by
  obtain ⟨d, h1, h2⟩ := List.any_eq_true.mp h
  rw [Bool.and_eq_true] at h2
  have hn : d.name = x := by simpa using h2.1
  have ho : d.own = some (c, m, d.own.elim 0 (·.2.2.1), p) := by simpa using h2.2
  exact ⟨d, h1, hn, by rw [← hn]; exact fA_of ndD h1, _, ho⟩
theorem cls_tx (ndD : (L.defs.map (·.name)).Nodup) {c : ClsD} (h : clsB L K c = true) : ClsT K (L.fA K) (He.ga K (Str.ofString c.name)) c.cc ∧ (c.cc.plain = true → PlainEq K (He.ga K (Str.ofString c.name))) := by
  unfold clsB at h
  simp only [Bool.and_eq_true, decide_eq_true_eq, List.all_eq_true] at h
  obtain ⟨⟨⟨⟨⟨⟨⟨⟨⟨⟨⟨x1, x2⟩, x3⟩, x4⟩, x5⟩, x6⟩, x7⟩, x8⟩, x9⟩, x10⟩, x11⟩, x12⟩ := h
  refine ⟨⟨He.cls_ok x2, fun d hd => ?_, fun f d hd => ?_, fun m d hd => ?_, fun f hf => ?_⟩, fun hp => ?_⟩
  · rw [hd] at x3
    dsimp only at x3
    rw [Bool.and_eq_true] at x3
    obtain ⟨e, _, _, h3, i, h4⟩ := own_def (K := K) ndD x3.2
    refine ⟨_, h3, ?_⟩
    have := He.mkr_ok x3.1
    unfold DefT.adr
    rw [h4]
    exact this
  · obtain ⟨p1, p2⟩ := x4 _ (lookup_mem hd)
    obtain ⟨e, _, _, h3, i, h4⟩ := own_def (K := K) ndD p2
    have ea : e.adr K = getA K c.name f := by unfold DefT.adr; rw [h4]
    rw [ea] at h3
    exact ⟨_, _, h3, pr_ok p1⟩
  · obtain ⟨p1, p2⟩ := x5 _ (lookup_mem hd)
    obtain ⟨e, _, _, h3, i, h4⟩ := own_def (K := K) ndD p2
    refine ⟨_, h3, ?_⟩
    unfold meB at p1
    simp only [Bool.and_eq_true, decide_eq_true_eq] at p1
    unfold DefT.adr
    rw [h4]
    exact ⟨p1.1.1, p1.1.2, p1.2⟩
  · exact x6 f (by simpa using hf)
  · rw [hp] at x7
    exact pln_ok (by simpa using x7)
theorem go_ok (X : K.In h) (G : h.Ns mainGlobals mg) (nd : (L.excs.map (·.1)).Nodup) (ndD : (L.defs.map (·.name)).Nodup) (c : SaysZ L prog h K) : GOk L.T prog K mg (L.cA K) (L.eA K) (L.fA K) L.G := by
  have ex := c.more
  unfold exAll at ex
  simp only [Bool.and_eq_true, List.all_eq_true, decide_eq_true_eq] at ex
  obtain ⟨⟨⟨⟨⟨⟨⟨⟨x1, x2⟩, x3⟩, x4⟩, x5⟩, x6⟩, x7⟩, x8⟩, x9⟩ := ex
  have clf := fun d (hd : d ∈ L.clss) => by
    have q := x8 d hd
    unfold clsB at q
    simp only [Bool.and_eq_true, decide_eq_true_eq, List.all_eq_true] at q
    exact q
  refine ⟨fun f hf => ?_, fun s p hs => ?_, fun b hb => ?_, fun c hc => ?_, ⟨fun c D e => ?_, x4, x5, fun c D b e hb => ?_, fun c D b e hb => ?_, fun c d C D e e' => ?_⟩, fun p hp => ?_, fun x hx => ?_, fun x hx => ?_, fun f hf cn E e => ?_, fun cn E e => ?_, fun c cc hc => ?_, fun c cc D hc hp hD => ?_⟩
  · obtain ⟨d, h1, h2, h3⟩ := mem_defs hf
    subst h2
    have e : d.adr K = He.ga K (Str.ofString d.name) := by unfold DefT.adr; rw [h3]
    exact ⟨d.adr K, fA_of ndD h1, by rw [e]; exact PySem.W.mg_of X G (c.gl d h1 h3)⟩
  · have hm := lookup_mem (show L.consts.lookup s = some p from hs)
    have q := x1 _ hm
    dsimp only at q
    split at q
    · rename_i u e
      obtain ⟨v, r1, r2⟩ := (relPV_ok (K := K) 40).1 _ _ q
      exact ⟨u, v, PySem.W.mg_of X G e, r1, r2⟩
    · cases q
  · exact PySem.W.mg_none_of X G (c.fa b hb)
  · obtain ⟨d, h1, rfl⟩ := List.mem_map.mp hc
    obtain ⟨⟨⟨⟨⟨⟨⟨⟨⟨⟨⟨y1, y2⟩, y3⟩, y4⟩, y5⟩, y6⟩, y7⟩, y8⟩, y9⟩, y10⟩, y11⟩, y12⟩ := clf d h1
    exact ⟨_, cls_adr h1 rfl, PySem.W.mg_of X G y1⟩
  · obtain ⟨⟨d, h1, rfl⟩, rfl⟩ := cls_some e
    obtain ⟨⟨⟨⟨⟨⟨⟨⟨⟨⟨⟨y1, y2⟩, y3⟩, y4⟩, y5⟩, y6⟩, y7⟩, y8⟩, y9⟩, y10⟩, y11⟩, y12⟩ := clf d h1
    exact ⟨He.cls_ok y2, y8, y9⟩
  · obtain ⟨⟨d, h1, rfl⟩, rfl⟩ := cls_some e
    obtain ⟨⟨⟨⟨⟨⟨⟨⟨⟨⟨⟨y1, y2⟩, y3⟩, y4⟩, y5⟩, y6⟩, y7⟩, y8⟩, y9⟩, y10⟩, y11⟩, y12⟩ := clf d h1
    exact y10 b (by simpa using hb)
  · obtain ⟨⟨d, h1, rfl⟩, rfl⟩ := cls_some e
    obtain ⟨⟨⟨⟨⟨⟨⟨⟨⟨⟨⟨y1, y2⟩, y3⟩, y4⟩, y5⟩, y6⟩, y7⟩, y8⟩, y9⟩, y10⟩, y11⟩, y12⟩ := clf d h1
    exact y11 b (by simpa using hb)
  · obtain ⟨⟨d1, h1, rfl⟩, rfl⟩ := cls_some e
    obtain ⟨⟨d2, h2, rfl⟩, rfl⟩ := cls_some e'
    obtain ⟨⟨⟨⟨⟨⟨⟨⟨⟨⟨⟨y1, y2⟩, y3⟩, y4⟩, y5⟩, y6⟩, y7⟩, y8⟩, y9⟩, y10⟩, y11⟩, y12⟩ := clf d1 h1
    exact y12 d2 h2
  · obtain ⟨q, h1, rfl⟩ := List.mem_map.mp hp
    obtain ⟨⟨⟨⟨⟨⟨y1, y2⟩, y3⟩, y4⟩, y5⟩, y6⟩, y7⟩ := x6 q h1
    refine ⟨_, _, q.2.2, PySem.W.mg_of X G y1, exTxt_ok y2, ?_, ?_⟩
    · unfold LawD.eA
      rw [if_pos (List.any_eq_true.mpr ⟨q, h1, by simp⟩)]
    · show (L.excs.lookup q.1).map _ = _
      have : L.excs.lookup q.1 = some q.2 := lk nd h1
      rw [this]; rfl
  · have h1 := nmV_ok X G (x2 x hx)
    refine ⟨nmV K x, h1.1, fun cn E ups ns e1 e2 => ?_⟩
    obtain ⟨⟨q, hq, rfl⟩, rfl⟩ := eA_some e1
    obtain ⟨⟨⟨⟨⟨⟨y1, y2⟩, y3⟩, y4⟩, y5⟩, y6⟩, y7⟩ := x6 q hq
    have e2 : (L.excs.lookup q.1).map (fun p => (p.2, [p.1])) = some (ups, ns) := e2
    rw [lk nd hq] at e2
    cases e2
    exact y5 x hx
  · obtain ⟨h1, cv, h2⟩ := nmV_ok X G (x3 x hx)
    refine ⟨cv, nmV K x, h2, h1, fun cn E ups ns e1 e2 => ?_⟩
    obtain ⟨⟨q, hq, rfl⟩, rfl⟩ := eA_some e1
    obtain ⟨⟨⟨⟨⟨⟨y1, y2⟩, y3⟩, y4⟩, y5⟩, y6⟩, y7⟩ := x6 q hq
    have e2 : (L.excs.lookup q.1).map (fun p => (p.2, [p.1])) = some (ups, ns) := e2
    rw [lk nd hq] at e2
    cases e2
    exact y6 x hx
  · obtain ⟨⟨q, hq, rfl⟩, rfl⟩ := eA_some e
    obtain ⟨⟨⟨⟨⟨⟨y1, y2⟩, y3⟩, y4⟩, y5⟩, y6⟩, y7⟩ := x6 q hq
    exact y7 f hf
  · obtain ⟨⟨q, hq, rfl⟩, rfl⟩ := eA_some e
    obtain ⟨⟨⟨⟨⟨⟨y1, y2⟩, y3⟩, y4⟩, y5⟩, y6⟩, y7⟩ := x6 q hq
    exact ⟨xfB_ok y3, excC_ok y4⟩
  · obtain ⟨d, h1, rfl, rfl⟩ := clss_some hc
    exact ⟨_, cls_adr h1 rfl, (cls_tx ndD (x8 d h1)).1⟩
  · obtain ⟨d, h1, rfl, rfl⟩ := clss_some hc
    rw [cls_adr h1 rfl] at hD
    obtain rfl := Option.some.inj hD
    exact (cls_tx ndD (x8 d h1)).2 hp
where
  lk {α : Type} : ∀ {l : List (String × α)} {p : String × α}, (l.map (·.1)).Nodup → p ∈ l → l.lookup p.1 = some p.2
    | [], _, _, h => by cases h
    | a :: r, p, nd, h => by
      rw [List.map_cons, List.nodup_cons] at nd
      rcases List.mem_cons.mp h with rfl | hr
      · rw [List.lookup_cons]; simp
      · have ne : p.1 ≠ a.1 := fun z => nd.1 (by rw [← z]; exact List.mem_map_of_mem hr)
        have e : (p.1 == a.1) = false := by simpa using ne
        rw [show a :: r = (a.1, a.2) :: r from rfl, List.lookup_cons, e]
        exact lk nd.2 hr
theorem map_inj {α β : Type} {f : α → β} : ∀ {l : List α} {a b : α}, (l.map f).Nodup → a ∈ l → b ∈ l → f a = f b → a = b
  | [], _, _, _, h, _, _ => by cases h
  | x :: r, a, b, nd, ha, hb, e => by
    rw [List.map_cons, List.nodup_cons] at nd
    rcases List.mem_cons.mp ha with h1 | h1 <;> rcases List.mem_cons.mp hb with h2 | h2
    · rw [h1, h2]
    · exact absurd (List.mem_map_of_mem (f := f) h2) (by rw [← e, h1]; exact nd.1)
    · exact absurd (List.mem_map_of_mem (f := f) h1) (by rw [e, h2]; exact nd.1)
    · exact map_inj nd.2 h1 h2 e
/-- the object of a def -/
theorem fn_obj (c : SaysZ L prog h K) {dt : DefT} (hm : dt ∈ L.defs) : ∃ (oc : Value) (od : Option Addr) (kV doc pm : Value) (an : Option Addr) (cdv ct : Value) (osl : Array (Option Value)),
    K.lookup (dt.adr K) = some ⟨oc, od, .func (PySem.W.fnOf dt.nm (Str.ofString dt.name) (defArgs (dt.st prog)) (defBody (dt.st prog)) (defScope (dt.st prog)) .none kV doc pm an cdv ct), osl⟩ ∧ codeIn K cdv (Str.ofString dt.name) = true ∧ keepIn K (.ref (dt.adr K)) = true := by
  have ex := c.more
  unfold exAll at ex
  rw [Bool.and_eq_true, List.all_eq_true] at ex
  have q := ex.2 dt hm
  have w := c.fw dt hm
  unfold okA at q
  unfold fnWA DefT.fw at w
  rw [Bool.and_eq_true] at q
  obtain ⟨kp, q⟩ := q
  cases e : K.lookup (dt.adr K) with
  | none => rw [e] at q; cases q
  | some o =>
    rw [e] at q w
    obtain ⟨oc, od, dd, osl⟩ := o
    cases dd with
    | func fd =>
      cases fd
      dsimp only at q w
      rw [Bool.and_eq_true] at q
      have q2 := q.2
      split at q2
      · simp only [Option.some.injEq, Prod.mk.injEq] at w
        obtain ⟨rfl, rfl, rfl, rfl, rfl, rfl, rfl, rfl⟩ := w
        exact ⟨_, _, _, _, _, _, _, _, _, rfl, q.1, kp⟩
      · cases q2
    | _ => cases q
theorem lam_fact {base : Heap} {dt : DefT} {oc : Value} {od : Option Addr} {fd : FuncData} {osl : Array (Option Value)} {q : Str} (c : SaysZ L prog h K) (TB : ∀ p ∈ L.tf.map (He.cT K), LamX.TabB base mg p.1 p.2) (hm : dt ∈ L.defs) (ho : dt.own = none) (lk : K.lookup (dt.adr K) = some ⟨oc, od, .func fd, osl⟩) (hcd : codeIn K fd.code q = true) (hl : dt.lam = true) :
    ∃ cc Pt, LamX.TabB base mg cc Pt ∧ fd.code = .ref cc ∧ (Pt, (Str.ofString dt.name ++ ".<locals>.") ++ "<lambda>") ∈ (L.cA K).tab ∧ ∀ p ∈ (L.cA K).tab, p.1 = Pt → p.2 = (Str.ofString dt.name ++ ".<locals>.") ++ "<lambda>" := by
  have ex := c.more
  unfold exAll at ex
  simp only [Bool.and_eq_true, List.all_eq_true, decide_eq_true_eq] at ex
  obtain ⟨⟨⟨_, x7⟩, _⟩, _⟩ := ex
  obtain ⟨cc, hcc⟩ := He.codeIn_ref hcd
  have hp : ((Str.ofString dt.name, none) : He.Defn) ∈ L.tf := List.mem_map.mpr ⟨dt, List.mem_filter.mpr ⟨hm, hl⟩, rfl⟩
  have lk : K.lookup (He.fAd K (Str.ofString dt.name, none)) = some ⟨oc, od, .func fd, osl⟩ := by
    unfold DefT.adr at lk
    rw [ho] at lk
    exact lk
  have e1 : He.codeOf K (Str.ofString dt.name, none) = cc := He.codeOf_eq lk hcc
  refine ⟨cc, (He.cT K (Str.ofString dt.name, none)).2, ?_, hcc, ?_, fun q hq e => ?_⟩
  · have := TB _ (List.mem_map.mpr ⟨_, hp, rfl⟩)
    rw [show (He.cT K (Str.ofString dt.name, none)).1 = cc from e1] at this
    exact this
  · exact List.mem_map.mpr ⟨_, hp, rfl⟩
  · obtain ⟨p', hp', rfl⟩ := List.mem_map.mp hq
    have : p' = (Str.ofString dt.name, none) := map_inj x7 hp' hp e
    rw [this]
/-- lambdas stand in plain defs alone -/
def LawD.lamOk (L : LawD) : Bool := L.defs.all fun d => !d.lam || d.own.isNone
/-- where the defs stand -/
theorem def_ok {base : Heap} {m : Nat} (ndD : (L.defs.map (·.name)).Nodup) (lo : L.lamOk = true) (c : SaysZ L prog h K) (hc : L.chk prog m = true) (TB : ∀ p ∈ L.tf.map (He.cT K), LamX.TabB base mg p.1 p.2) : ∀ f a d, L.fA K f = some a → L.G.defs f = some d → DefK L.T K mg base (L.cA K) a d := by
  intro f a d h1 h2
  have h2 : (L.defs.find? fun d => d.name == f).map (·.d) = some d := h2
  cases e : L.defs.find? (fun d => d.name == f) with
  | none => rw [e] at h2; cases h2
  | some dt =>
    rw [e] at h2
    obtain rfl := Option.some.inj h2
    have hm := List.mem_of_find?_eq_some e
    have hn : dt.name = f := by have := List.find?_some e; simpa using this
    subst hn
    rw [fA_of ndD hm] at h1
    obtain rfl := Option.some.inj h1
    unfold LawD.chk at hc
    rw [List.all_eq_true] at hc
    have hch := hc dt hm
    obtain ⟨oc, od, kV, doc, pm, an, cdv, ct, osl, lk, hcd, _⟩ := fn_obj c hm
    refine ⟨⟨oc, od, _, _, _, _, _, kV, doc, pm, an, cdv, ct, osl, _, m, dt.lam, lk, hcd, hch, fun hl => ?_⟩⟩
    have ho : dt.own = none := by
      unfold LawD.lamOk at lo
      rw [List.all_eq_true] at lo
      have := lo dt hm
      rw [hl] at this
      simpa using this
    exact lam_fact c TB hm ho lk hcd hl
/-- the law's promise -/
def spLaw (L : LawD) (K : Frag) : Sp := fun vs H Q _ => ∃ (a : Addr) (ns : List Int), vs = [.ref a] ∧ SqL K H a (ns.map V.int) ∧ ns.length ≤ 63 ∧ (∀ z ∈ ns, Builtin.Int.intBits z ≤ 1048576) ∧ (∀ p ∈ L.tf.map (He.cT K), H p.2 = some (.tbl #[])) ∧ ∀ H', Q (.bl true) H'
theorem reps_int {F : Hp} : ∀ ns : List Int, RepVs K F (ns.map PV.int) (ns.map V.int)
  | [] => .nil
  | n :: ns => .cons (.int n) (reps_int ns)
/-- the script alone is known -/
theorem script_F {H : Hp} {b : Addr} {vs : List V} (h : SqL K H b vs) : ∃ F : Hp, Sub F H ∧ (∀ a ps, F a ≠ some (.tbl ps)) ∧ SqL K F b vs := by
  rcases h with h | h
  · have key : ∀ a o, (fun x => if x = b then H b else none : Hp) a = some o → a = b ∧ H b = some o := fun a o e => by
      have e : (if a = b then H b else none) = some o := e
      by_cases q : a = b
      · rw [if_pos q] at e; exact ⟨q, e⟩
      · rw [if_neg q] at e; cases e
    refine ⟨fun x => if x = b then H b else none, fun a o e => ?_, fun a ps e => ?_, .inl ?_⟩
    · obtain ⟨rfl, e⟩ := key a o e
      exact e
    · obtain ⟨rfl, e⟩ := key a _ e
      rcases h with h | ⟨o, h⟩ <;> rw [h] at e <;> cases e
    · rcases h with h | ⟨o, h⟩
      · exact .inl ((if_pos rfl).trans h)
      · exact .inr ⟨o, (if_pos rfl).trans h⟩
  · exact ⟨fun _ => none, fun _ _ e => (by cases e), fun _ _ e => (by cases e), .inr h⟩
theorem law_at {l : PySem.W.OpenLaw} {k : Nat} {m : Nat} {fa : Addr} {dl : CDef} (hl : l.prog = prog) (X : K.In h) (G : h.Ns mainGlobals mg) (hfa : mg ("law" : Str) = some (.ref fa)) (c : SaysZ L prog h K) (hc : L.chk prog m = true) (lo : L.lamOk = true) (ndE : (L.excs.map (·.1)).Nodup) (ndD : (L.defs.map (·.name)).Nodup)
    (hdl : L.G.defs "law" = some dl) (hps : dl.ps = ["script"]) (hm : "law" ∈ L.T.defs)
    (pure_ : ∀ ns : List Int, ns.length ≤ 63 → (∀ z ∈ ns, Builtin.Int.intBits z ≤ 1048576) → bodyW L.G (wCall L.G k) dl [.pv (.rol (ns.map .int))] (fun _ => none) (fun v _ => v = .bl true) (fun _ _ _ => False)) : LamX.LawAtS l w K (L2.CX l.prog w) (k + 1) 63 "script" mg fa h := by
  subst hl
  have go := go_ok X G ndE ndD c
  obtain ⟨a, ha, hga⟩ := go.defs "law" hm
  obtain rfl : a = fa := Value.ref.inj (Option.some.inj (hga.symm.trans hfa))
  have hk : ∀ f a, L.fA K f = some a → keepIn K (.ref a) = true := fun f a e => by
    obtain ⟨d, h1, _, rfl⟩ := fA_some e
    obtain ⟨_, _, _, _, _, _, _, _, _, _, _, kp⟩ := fn_obj c h1
    exact kp
  -- the function object
  obtain ⟨dt, hdt, hn, hown⟩ := mem_defs hm
  have hdd : dt.d = dl := by
    have h2 : (L.defs.find? fun d => d.name == "law").map (·.d) = some dl := hdl
    rw [← hn, find_nd ndD hdt] at h2
    exact Option.some.inj h2
  subst hdd
  have ea : dt.adr K = a := by
    rw [← hn, fA_of ndD hdt] at ha
    exact Option.some.inj ha
  obtain ⟨oc, od, kV, doc, pm, an, cdv, ct, osl, lk0, hcd, _⟩ := fn_obj c hdt
  have lk1 := lk0
  rw [ea] at lk1
  have hc' := hc
  unfold LawD.chk at hc
  rw [List.all_eq_true] at hc
  have hch := hc dt hdt
  obtain ⟨S, nn, sp, ndp, hsl, hbody⟩ := def_by hch
  have hS1 : dt.d.ps.map Str.ofString = [("script" : Str)] := by rw [hps]; rfl
  refine ⟨PySem.W.fnOf dt.nm (Str.ofString dt.name) (defArgs (dt.st l.prog)) (defBody (dt.st l.prog)) (defScope (dt.st l.prog)) .none kV doc pm an cdv ct, L.tf.map (He.cT K), spLaw L K, fun p hp => ?_, fun p hp => ?_, fun p hp => ?_, fun s u => .of_eq ?_, fun H a ns h1 h2 h3 h4 => ⟨a, ns, rfl, h4, h1, h2, h3, fun _ => rfl⟩, fun base hK hns hT => ⟨fun vs H Q E ⟨a, ns, e, _⟩ => by rw [e]; rfl, fun A outer s H args us vs Q E hr e0 hb rv hq => ?_⟩⟩
  · obtain ⟨q, hq, rfl⟩ := List.mem_map.mp hp
    exact c.empty q hq
  · obtain ⟨q, hq, rfl⟩ := List.mem_map.mp hp
    exact c.out q hq
  · obtain ⟨q, hq, rfl⟩ := List.mem_map.mp hp
    exact PySem.W.codeHd_of_K X (c.hd q hq)
  · rw [hS1] at sp
    exact (bind_simple (ps := [("script" : Str)]) (us := [u]) (kws := []) sp rfl (Nat.le_refl 1) (fun _ h => by cases h) List.nodup_nil (fun n hn => by
      obtain rfl : n = ("script" : Str) := by simpa using hn
      show (List.lookup ("script" : Str) [(("script" : Str), u)]).isSome = true
      simp [List.lookup])).trans (by simp [List.lookup])
  · obtain ⟨b, ns, rfl, hS, hlen, hbits, htab, hQ⟩ := hq
    have ih := call_ok (w := w) go hk (def_ok (base := base) ndD lo c hc' hT) k
    obtain ⟨F, f1, f2, f3⟩ := script_F hS
    have tt : Sto K (L.cA K) (fun _ => none) F H (fun _ => none) := by
      refine ⟨f1, fun a o e => (by cases e), fun a o e => (by cases e), fun p hp => ?_, f2, fun a o e => (by cases e)⟩
      obtain ⟨q, hq, rfl⟩ := List.mem_map.mp hp
      exact LamX.TabS.nil (htab _ (List.mem_map.mpr ⟨q, hq, rfl⟩))
    refine LamX.run_ofS (CX := L2.CX l.prog w) (N := dt.N.map Str.ofString) (ps := dt.d.ps.map Str.ofString) (us := us) (vs := [.ref b]) lk1 hcd S hr e0 (by rw [hS1]; exact hb) rv (by rw [hS1]; rfl) fun hr' => ?_
    exact body_ok (T := L.T) (G := L.G) go hk ih hch (fun hl => lam_fact (q := Str.ofString dt.name) c hT hdt hown lk0 hcd hl) tt (svs := [.pv (.rol (ns.map .int))]) (.cons (show RepV K F (.rol (ns.map .int)) (.ref b) from .rol f3 (reps_int ns)) .nil) (pure_ ns hlen hbits) (fun F' H' M' p v s' t' r' q => (by subst q; cases r'; exact hQ _)) (fun _ _ _ _ _ _ _ _ _ _ _ _ _ z => z.elim) (roomS_deeper hr _)
end
end IB
end

section
namespace LW
open IB
def d_is_whole : CDef where
  ps := ["value"]
  slots := 1
  mode := 0
  body := (.cons (.ret (.and (.isi (.var 0) .int) (.not (.isi (.var 0) .bool))))
    .nil)
def d_is_between : CDef where
  ps := ["value", "least", "most"]
  slots := 3
  mode := 0
  body := (.cons (.ret (.and (.call "is_whole" (.pos (.var 0) .nil)) (.chn (.var 1) .le (.var 0) .le (.var 2))))
    .nil)
def d_is_up_to : CDef where
  ps := ["value", "most"]
  slots := 2
  mode := 0
  body := (.cons (.ret (.call "is_between" (.pos (.var 0) (.pos (.int 0) (.pos (.var 1) .nil)))))
    .nil)
def d_wrong_in_t1 : CT := (.tup (.cons (.var 4) (.cons (.var 5) .nil)))
theorem d_wrong_in_t1_u {G : Gl} {call : CallT} {v : PV} {env : Env} {M : MM} {Q : Env → MM → Prop} {X : XK} : wT G call d_wrong_in_t1 v env M Q X = wT G call (.tup (.cons (.var 4) (.cons (.var 5) .nil))) v env M Q X := congrArg (fun z => wT G call z v env M Q X) (show d_wrong_in_t1 = (.tup (.cons (.var 4) (.cons (.var 5) .nil))) from rfl)
def d_wrong_in_b2 : CSs := (.cons (.ife (.or (.cmp .eq (.var 4) (.var 2)) (.not (.calv 3 (.pos (.sli (.var 0) .non (.var 4)) (.pos (.var 5) .nil)))))
    (.cons (.ret (.frh false (.dis (.pos (.var 4) .nil))))
    .nil)
    .nil)
  .nil)
theorem d_wrong_in_b2_u {G : Gl} {call : CallT} {env : Env} {M : MM} {D : Ends} {XX : XE} : wSs G call d_wrong_in_b2 env M D XX = wSs G call (.cons (.ife (.or (.cmp .eq (.var 4) (.var 2)) (.not (.calv 3 (.pos (.sli (.var 0) .non (.var 4)) (.pos (.var 5) .nil)))))
    (.cons (.ret (.frh false (.dis (.pos (.var 4) .nil))))
    .nil)
    .nil)
  .nil) env M D XX := congrArg (fun z => wSs G call z env M D XX) (show d_wrong_in_b2 = (.cons (.ife (.or (.cmp .eq (.var 4) (.var 2)) (.not (.calv 3 (.pos (.sli (.var 0) .non (.var 4)) (.pos (.var 5) .nil)))))
    (.cons (.ret (.frh false (.dis (.pos (.var 4) .nil))))
    .nil)
    .nil)
  .nil) from rfl)
def d_wrong_in : CDef where
  ps := ["value", "least", "most", "is_right"]
  slots := 6
  mode := 0
  body := (.cons (.ife (.or (.not (.isi (.var 0) .tuple)) (.cmp .lt (.bi .len (.pos (.var 0) .nil)) (.var 1)))
      (.cons (.ret (.frh false (.dis (.pos .non .nil))))
      .nil)
      .nil)
    (.cons (.for d_wrong_in_t1 (.enum (.var 0)) d_wrong_in_b2)
    (.cons (.ret (.frh false (.dis .nil)))
    .nil)))
def d_wrong_in_octets : CDef where
  ps := ["value"]
  slots := 1
  mode := 0
  body := (.cons (.ret (.call "wrong_in" (.pos (.var 0) (.pos (.int 0) (.pos (.glob "MOST_OCTETS") (.lam 2 [] (.call "is_up_to" (.pos (.var 1) (.pos (.glob "MOST_OCTET") .nil))) .nil))))))
    .nil)
def d_less_whole : CDef where
  ps := ["number"]
  slots := 1
  mode := 0
  body := (.cons (.ret (.bin .mod (.var 0) (.glob "MOST_SUM")))
    .nil)
def d_many_bands : CDef where
  ps := ["height", "room"]
  slots := 2
  mode := 0
  body := (.cons (.ret (.bin .fdiv (.bin .sub (.bin .add (.var 0) (.var 1)) (.int 1)) (.var 1)))
    .nil)
def d_heads_of_t1 : CT := (.var 2)
theorem d_heads_of_t1_u {G : Gl} {call : CallT} {v : PV} {env : Env} {M : MM} {Q : Env → MM → Prop} {X : XK} : wT G call d_heads_of_t1 v env M Q X = wT G call (.var 2) v env M Q X := congrArg (fun z => wT G call z v env M Q X) (show d_heads_of_t1 = (.var 2) from rfl)
def d_heads_of_e2 : CE := (.tup (.pos (.var 2) (.pos (.bin .mul (.var 2) (.var 1)) (.pos (.bi .min (.pos (.var 1) (.pos (.bin .sub (.var 0) (.bin .mul (.var 2) (.var 1))) .nil))) .nil))))
theorem d_heads_of_e2_u {G : Gl} {call : CallT} {env : Env} {M : MM} {Q : PV → MM → Prop} {X : XK} : wE G call d_heads_of_e2 env M Q X = wE G call (.tup (.pos (.var 2) (.pos (.bin .mul (.var 2) (.var 1)) (.pos (.bi .min (.pos (.var 1) (.pos (.bin .sub (.var 0) (.bin .mul (.var 2) (.var 1))) .nil))) .nil)))) env M Q X := congrArg (fun z => wE G call z env M Q X) (show d_heads_of_e2 = (.tup (.pos (.var 2) (.pos (.bin .mul (.var 2) (.var 1)) (.pos (.bi .min (.pos (.var 1) (.pos (.bin .sub (.var 0) (.bin .mul (.var 2) (.var 1))) .nil))) .nil)))) from rfl)
def d_heads_of : CDef where
  ps := ["height", "room"]
  slots := 3
  mode := 0
  body := (.cons (.ret (.frh false (.cmp d_heads_of_e2 d_heads_of_t1 (.rng1 (.call "many_bands" (.pos (.var 0) (.pos (.var 1) .nil)))) (.bl true) [2])))
    .nil)
def d_wrong_in_head_t1 : CT := (.var 2)
theorem d_wrong_in_head_t1_u {G : Gl} {call : CallT} {v : PV} {env : Env} {M : MM} {Q : Env → MM → Prop} {X : XK} : wT G call d_wrong_in_head_t1 v env M Q X = wT G call (.var 2) v env M Q X := congrArg (fun z => wT G call z v env M Q X) (show d_wrong_in_head_t1 = (.var 2) from rfl)
def d_wrong_in_head_t2 : CT := (.var 3)
theorem d_wrong_in_head_t2_u {G : Gl} {call : CallT} {v : PV} {env : Env} {M : MM} {Q : Env → MM → Prop} {X : XK} : wT G call d_wrong_in_head_t2 v env M Q X = wT G call (.var 3) v env M Q X := congrArg (fun z => wT G call z v env M Q X) (show d_wrong_in_head_t2 = (.var 3) from rfl)
def d_wrong_in_head_e3 : CE := (.sli (.var 3) .non (.var 2))
theorem d_wrong_in_head_e3_u {G : Gl} {call : CallT} {env : Env} {M : MM} {Q : PV → MM → Prop} {X : XK} : wE G call d_wrong_in_head_e3 env M Q X = wE G call (.sli (.var 3) .non (.var 2)) env M Q X := congrArg (fun z => wE G call z env M Q X) (show d_wrong_in_head_e3 = (.sli (.var 3) .non (.var 2)) from rfl)
def d_wrong_in_head_b4 : CSs := (.cons (.ife (.cmp .notin (.sli (.var 0) (.int 1) (.bin .add (.var 2) (.int 1))) (.frh false (.cmp d_wrong_in_head_e3 d_wrong_in_head_t2 (.seq (.var 1)) (.bl true) [3])))
    (.cons (.ret (.frh false (.dis (.pos (.var 2) .nil))))
    .nil)
    .nil)
  .nil)
theorem d_wrong_in_head_b4_u {G : Gl} {call : CallT} {env : Env} {M : MM} {D : Ends} {XX : XE} : wSs G call d_wrong_in_head_b4 env M D XX = wSs G call (.cons (.ife (.cmp .notin (.sli (.var 0) (.int 1) (.bin .add (.var 2) (.int 1))) (.frh false (.cmp d_wrong_in_head_e3 d_wrong_in_head_t2 (.seq (.var 1)) (.bl true) [3])))
    (.cons (.ret (.frh false (.dis (.pos (.var 2) .nil))))
    .nil)
    .nil)
  .nil) env M D XX := congrArg (fun z => wSs G call z env M D XX) (show d_wrong_in_head_b4 = (.cons (.ife (.cmp .notin (.sli (.var 0) (.int 1) (.bin .add (.var 2) (.int 1))) (.frh false (.cmp d_wrong_in_head_e3 d_wrong_in_head_t2 (.seq (.var 1)) (.bl true) [3])))
    (.cons (.ret (.frh false (.dis (.pos (.var 2) .nil))))
    .nil)
    .nil)
  .nil) from rfl)
def d_wrong_in_head : CDef where
  ps := ["octets", "heads"]
  slots := 4
  mode := 0
  body := (.cons (.ife (.and (.cmp .gt (.bi .len (.pos (.var 0) .nil)) (.int 0)) (.cmp .ne (.sub (.var 0) (.int 0)) (.glob "SIGN")))
      (.cons (.ret (.frh false (.dis (.pos (.int 0) .nil))))
      .nil)
      .nil)
    (.cons (.for d_wrong_in_head_t1 (.rng2 (.int 1) (.bi .min (.pos (.bi .len (.pos (.var 0) .nil)) (.pos (.glob "HEAD") .nil)))) d_wrong_in_head_b4)
    (.cons (.ret (.frh false (.dis .nil)))
    .nil)))
def d_wrong_in_run : CDef where
  ps := ["row", "many", "left", "width"]
  slots := 6
  mode := 0
  body := (.cons (.asg (.var 4) (.bin .sub (.bin .sub (.ife (.cmp .gt (.var 3) (.int 0)) (.var 3) (.glob "MOST_ROW")) (.bi .len (.pos (.var 0) .nil))) (.var 2)))
    (.cons (.asg (.var 5) (.ife (.and (.cmp .eq (.var 2) (.int 0)) (.cmp .gt (.var 3) (.int 0))) (.var 4) (.int 1)))
    (.cons (.ret (.not (.chn (.var 5) .le (.var 1) .le (.var 4))))
    .nil)))
def d_row_told_t1 : CT := (.var 5)
theorem d_row_told_t1_u {G : Gl} {call : CallT} {v : PV} {env : Env} {M : MM} {Q : Env → MM → Prop} {X : XK} : wT G call d_row_told_t1 v env M Q X = wT G call (.var 5) v env M Q X := congrArg (fun z => wT G call z v env M Q X) (show d_row_told_t1 = (.var 5) from rfl)
def d_row_told_t2 : CT := (.var 7)
theorem d_row_told_t2_u {G : Gl} {call : CallT} {v : PV} {env : Env} {M : MM} {Q : Env → MM → Prop} {X : XK} : wT G call d_row_told_t2 v env M Q X = wT G call (.var 7) v env M Q X := congrArg (fun z => wT G call z v env M Q X) (show d_row_told_t2 = (.var 7) from rfl)
def d_row_told_e3 : CE := (.sub (.var 0) (.bin .add (.var 6) (.int 1)))
theorem d_row_told_e3_u {G : Gl} {call : CallT} {env : Env} {M : MM} {Q : PV → MM → Prop} {X : XK} : wE G call d_row_told_e3 env M Q X = wE G call (.sub (.var 0) (.bin .add (.var 6) (.int 1))) env M Q X := congrArg (fun z => wE G call z env M Q X) (show d_row_told_e3 = (.sub (.var 0) (.bin .add (.var 6) (.int 1))) from rfl)
def d_row_told_b4 : CSs := (.cons (.asg (.var 6) (.bin .add (.bin .add (.var 1) (.int 1)) (.bin .mul (.int 2) (.var 5))))
  (.cons (.ife (.and (.cmp .lt (.var 6) (.bi .len (.pos (.var 0) .nil))) (.call "wrong_in_run" (.pos (.var 4) (.pos (.sub (.var 0) (.var 6)) (.pos (.bin .sub (.bin .sub (.var 3) (.var 5)) (.int 1)) (.pos (.var 2) .nil))))))
    (.cons (.ret (.tup (.pos (.frh false (.dis .nil)) (.pos (.var 1) (.pos (.frh false (.dis (.pos (.var 6) .nil))) .nil)))))
    .nil)
    .nil)
  (.cons (.ife (.cmp .ge (.bin .add (.var 6) (.int 1)) (.bi .len (.pos (.var 0) .nil)))
    (.cons (.ret (.tup (.pos (.frh false (.dis .nil)) (.pos (.var 1) (.pos (.frh false (.dis .nil)) .nil)))))
    .nil)
    .nil)
  (.cons (.ife (.or (.cmp .gt (.sub (.var 0) (.bin .add (.var 6) (.int 1))) (.glob "MOST_INK")) (.cmp .eq (.sli (.var 4) (.neg (.int 1)) .non) (.frh false (.dis (.pos (.sub (.var 0) (.bin .add (.var 6) (.int 1))) .nil)))))
    (.cons (.ret (.tup (.pos (.frh false (.dis .nil)) (.pos (.var 1) (.pos (.frh false (.dis (.pos (.bin .add (.var 6) (.int 1)) .nil))) .nil)))))
    .nil)
    .nil)
  (.cons (.expr (.lme (.var 4) "extend" (.pos (.frh false (.cmp d_row_told_e3 d_row_told_t2 (.rng1 (.sub (.var 0) (.var 6))) (.bl true) [7])) .nil)))
  .nil)))))
theorem d_row_told_b4_u {G : Gl} {call : CallT} {env : Env} {M : MM} {D : Ends} {XX : XE} : wSs G call d_row_told_b4 env M D XX = wSs G call (.cons (.asg (.var 6) (.bin .add (.bin .add (.var 1) (.int 1)) (.bin .mul (.int 2) (.var 5))))
  (.cons (.ife (.and (.cmp .lt (.var 6) (.bi .len (.pos (.var 0) .nil))) (.call "wrong_in_run" (.pos (.var 4) (.pos (.sub (.var 0) (.var 6)) (.pos (.bin .sub (.bin .sub (.var 3) (.var 5)) (.int 1)) (.pos (.var 2) .nil))))))
    (.cons (.ret (.tup (.pos (.frh false (.dis .nil)) (.pos (.var 1) (.pos (.frh false (.dis (.pos (.var 6) .nil))) .nil)))))
    .nil)
    .nil)
  (.cons (.ife (.cmp .ge (.bin .add (.var 6) (.int 1)) (.bi .len (.pos (.var 0) .nil)))
    (.cons (.ret (.tup (.pos (.frh false (.dis .nil)) (.pos (.var 1) (.pos (.frh false (.dis .nil)) .nil)))))
    .nil)
    .nil)
  (.cons (.ife (.or (.cmp .gt (.sub (.var 0) (.bin .add (.var 6) (.int 1))) (.glob "MOST_INK")) (.cmp .eq (.sli (.var 4) (.neg (.int 1)) .non) (.frh false (.dis (.pos (.sub (.var 0) (.bin .add (.var 6) (.int 1))) .nil)))))
    (.cons (.ret (.tup (.pos (.frh false (.dis .nil)) (.pos (.var 1) (.pos (.frh false (.dis (.pos (.bin .add (.var 6) (.int 1)) .nil))) .nil)))))
    .nil)
    .nil)
  (.cons (.expr (.lme (.var 4) "extend" (.pos (.frh false (.cmp d_row_told_e3 d_row_told_t2 (.rng1 (.sub (.var 0) (.var 6))) (.bl true) [7])) .nil)))
  .nil))))) env M D XX := congrArg (fun z => wSs G call z env M D XX) (show d_row_told_b4 = (.cons (.asg (.var 6) (.bin .add (.bin .add (.var 1) (.int 1)) (.bin .mul (.int 2) (.var 5))))
  (.cons (.ife (.and (.cmp .lt (.var 6) (.bi .len (.pos (.var 0) .nil))) (.call "wrong_in_run" (.pos (.var 4) (.pos (.sub (.var 0) (.var 6)) (.pos (.bin .sub (.bin .sub (.var 3) (.var 5)) (.int 1)) (.pos (.var 2) .nil))))))
    (.cons (.ret (.tup (.pos (.frh false (.dis .nil)) (.pos (.var 1) (.pos (.frh false (.dis (.pos (.var 6) .nil))) .nil)))))
    .nil)
    .nil)
  (.cons (.ife (.cmp .ge (.bin .add (.var 6) (.int 1)) (.bi .len (.pos (.var 0) .nil)))
    (.cons (.ret (.tup (.pos (.frh false (.dis .nil)) (.pos (.var 1) (.pos (.frh false (.dis .nil)) .nil)))))
    .nil)
    .nil)
  (.cons (.ife (.or (.cmp .gt (.sub (.var 0) (.bin .add (.var 6) (.int 1))) (.glob "MOST_INK")) (.cmp .eq (.sli (.var 4) (.neg (.int 1)) .non) (.frh false (.dis (.pos (.sub (.var 0) (.bin .add (.var 6) (.int 1))) .nil)))))
    (.cons (.ret (.tup (.pos (.frh false (.dis .nil)) (.pos (.var 1) (.pos (.frh false (.dis (.pos (.bin .add (.var 6) (.int 1)) .nil))) .nil)))))
    .nil)
    .nil)
  (.cons (.expr (.lme (.var 4) "extend" (.pos (.frh false (.cmp d_row_told_e3 d_row_told_t2 (.rng1 (.sub (.var 0) (.var 6))) (.bl true) [7])) .nil)))
  .nil))))) from rfl)
def d_row_told : CDef where
  ps := ["octets", "at", "width"]
  slots := 8
  mode := 0
  body := (.cons (.ife (.cmp .ge (.var 1) (.bi .len (.pos (.var 0) .nil)))
      (.cons (.ret (.tup (.pos (.frh false (.dis .nil)) (.pos (.var 1) (.pos (.frh false (.dis .nil)) .nil)))))
      .nil)
      .nil)
    (.cons (.asg (.tup (.cons (.var 3) (.cons (.var 4) .nil))) (.tup (.pos (.sub (.var 0) (.var 1)) (.pos (.frh true (.dis .nil)) .nil))))
    (.cons (.ife (.not (.chn (.int 1) .le (.var 3) .le (.ife (.cmp .gt (.var 2) (.int 0)) (.var 2) (.glob "MOST_ROW"))))
      (.cons (.ret (.tup (.pos (.frh false (.dis .nil)) (.pos (.var 1) (.pos (.frh false (.dis (.pos (.var 1) .nil))) .nil)))))
      .nil)
      .nil)
    (.cons (.for d_row_told_t1 (.rng1 (.var 3)) d_row_told_b4)
    (.cons (.ret (.tup (.pos (.var 4) (.pos (.bin .add (.bin .add (.var 1) (.int 1)) (.bin .mul (.int 2) (.var 3))) (.pos (.frh false (.dis .nil)) .nil)))))
    .nil)))))
def d_told_by_t1 : CT := (.var 6)
theorem d_told_by_t1_u {G : Gl} {call : CallT} {v : PV} {env : Env} {M : MM} {Q : Env → MM → Prop} {X : XK} : wT G call d_told_by_t1 v env M Q X = wT G call (.var 6) v env M Q X := congrArg (fun z => wT G call z v env M Q X) (show d_told_by_t1 = (.var 6) from rfl)
def d_told_by_b2 : CSs := (.cons (.asg (.tup (.cons (.var 7) (.cons (.var 5) (.cons (.var 3) .nil)))) (.call "row_told" (.pos (.var 0) (.pos (.var 5) (.pos (.var 2) .nil)))))
  (.cons (.ife (.cmp .eq (.var 7) (.frh false (.dis .nil)))
    (.cons (.ret (.tup (.pos (.bi .tuple (.pos (.var 4) .nil)) (.pos (.frh false (.dis .nil)) (.pos (.var 3) .nil)))))
    .nil)
    .nil)
  (.cons (.expr (.lme (.var 4) "append" (.pos (.bi .tuple (.pos (.var 7) .nil)) .nil)))
  (.cons (.asg (.var 2) (.bi .len (.pos (.var 7) .nil)))
  .nil))))
theorem d_told_by_b2_u {G : Gl} {call : CallT} {env : Env} {M : MM} {D : Ends} {XX : XE} : wSs G call d_told_by_b2 env M D XX = wSs G call (.cons (.asg (.tup (.cons (.var 7) (.cons (.var 5) (.cons (.var 3) .nil)))) (.call "row_told" (.pos (.var 0) (.pos (.var 5) (.pos (.var 2) .nil)))))
  (.cons (.ife (.cmp .eq (.var 7) (.frh false (.dis .nil)))
    (.cons (.ret (.tup (.pos (.bi .tuple (.pos (.var 4) .nil)) (.pos (.frh false (.dis .nil)) (.pos (.var 3) .nil)))))
    .nil)
    .nil)
  (.cons (.expr (.lme (.var 4) "append" (.pos (.bi .tuple (.pos (.var 7) .nil)) .nil)))
  (.cons (.asg (.var 2) (.bi .len (.pos (.var 7) .nil)))
  .nil)))) env M D XX := congrArg (fun z => wSs G call z env M D XX) (show d_told_by_b2 = (.cons (.asg (.tup (.cons (.var 7) (.cons (.var 5) (.cons (.var 3) .nil)))) (.call "row_told" (.pos (.var 0) (.pos (.var 5) (.pos (.var 2) .nil)))))
  (.cons (.ife (.cmp .eq (.var 7) (.frh false (.dis .nil)))
    (.cons (.ret (.tup (.pos (.bi .tuple (.pos (.var 4) .nil)) (.pos (.frh false (.dis .nil)) (.pos (.var 3) .nil)))))
    .nil)
    .nil)
  (.cons (.expr (.lme (.var 4) "append" (.pos (.bi .tuple (.pos (.var 7) .nil)) .nil)))
  (.cons (.asg (.var 2) (.bi .len (.pos (.var 7) .nil)))
  .nil)))) from rfl)
def d_told_by : CDef where
  ps := ["octets", "heads", "width"]
  slots := 8
  mode := 0
  body := (.cons (.asg (.tup (.cons (.var 3) (.cons (.var 4) (.cons (.var 5) .nil)))) (.tup (.pos (.call "wrong_in_head" (.pos (.var 0) (.pos (.var 1) .nil))) (.pos (.frh true (.dis .nil)) (.pos (.glob "HEAD") .nil)))))
    (.cons (.ife (.or (.cmp .ne (.var 3) (.frh false (.dis .nil))) (.cmp .lt (.bi .len (.pos (.var 0) .nil)) (.glob "HEAD")))
      (.cons (.ret (.tup (.pos (.tup .nil) (.pos (.frh false (.dis .nil)) (.pos (.var 3) .nil)))))
      .nil)
      .nil)
    (.cons (.for d_told_by_t1 (.rng1 (.sub (.var 0) (.bin .sub (.glob "HEAD") (.int 1)))) d_told_by_b2)
    (.cons (.ife (.and (.cmp .gt (.bi .len (.pos (.var 0) .nil)) (.var 5)) (.cmp .ne (.sub (.var 0) (.var 5)) (.call "less_whole" (.pos (.bi .sum (.pos (.sli (.var 0) .non (.var 5)) .nil)) .nil))))
      (.cons (.ret (.tup (.pos (.bi .tuple (.pos (.var 4) .nil)) (.pos (.frh false (.dis .nil)) (.pos (.frh false (.dis (.pos (.var 5) .nil))) .nil)))))
      .nil)
      .nil)
    (.cons (.ret (.tup (.pos (.bi .tuple (.pos (.var 4) .nil)) (.pos (.ife (.cmp .gt (.bi .len (.pos (.var 0) .nil)) (.var 5)) (.frh false (.dis (.pos (.bin .add (.var 5) (.int 1)) .nil))) (.frh false (.dis .nil))) (.pos (.frh false (.dis .nil)) .nil)))))
    .nil)))))
def d_printed_by_c1 : CE := (.cmp .ne (.var 7) (.frh false (.dis .nil)))
theorem d_printed_by_c1_u {G : Gl} {call : CallT} {env : Env} {M : MM} {Q : PV → MM → Prop} {X : XK} : wE G call d_printed_by_c1 env M Q X = wE G call (.cmp .ne (.var 7) (.frh false (.dis .nil))) env M Q X := congrArg (fun z => wE G call z env M Q X) (show d_printed_by_c1 = (.cmp .ne (.var 7) (.frh false (.dis .nil))) from rfl)
def d_printed_by_t2 : CT := (.tup (.cons (.var 9) (.cons (.var 10) .nil)))
theorem d_printed_by_t2_u {G : Gl} {call : CallT} {v : PV} {env : Env} {M : MM} {Q : Env → MM → Prop} {X : XK} : wT G call d_printed_by_t2 v env M Q X = wT G call (.tup (.cons (.var 9) (.cons (.var 10) .nil))) v env M Q X := congrArg (fun z => wT G call z v env M Q X) (show d_printed_by_t2 = (.tup (.cons (.var 9) (.cons (.var 10) .nil))) from rfl)
def d_printed_by_e3 : CE := (.tup (.pos (.bin .add (.sub (.var 0) (.int 2)) (.var 9)) (.pos (.var 10) .nil)))
theorem d_printed_by_e3_u {G : Gl} {call : CallT} {env : Env} {M : MM} {Q : PV → MM → Prop} {X : XK} : wE G call d_printed_by_e3 env M Q X = wE G call (.tup (.pos (.bin .add (.sub (.var 0) (.int 2)) (.var 9)) (.pos (.var 10) .nil))) env M Q X := congrArg (fun z => wE G call z env M Q X) (show d_printed_by_e3 = (.tup (.pos (.bin .add (.sub (.var 0) (.int 2)) (.var 9)) (.pos (.var 10) .nil))) from rfl)
def d_printed_by_b4 : CSs := (.cons (.expr (.lme (.var 5) "extend" (.pos (.frh false (.cmp d_printed_by_e3 d_printed_by_t2 (.enum (.var 6)) (.bl true) [9, 10])) .nil)))
  (.cons (.asg (.var 0) (.sli (.var 0) (.sub (.var 7) (.int 0)) .non))
  (.cons (.asg (.tup (.cons (.var 6) (.cons (.var 7) (.cons (.var 8) .nil)))) (.call "told_by" (.pos (.var 0) (.pos (.var 4) (.pos (.var 1) .nil)))))
  .nil)))
theorem d_printed_by_b4_u {G : Gl} {call : CallT} {env : Env} {M : MM} {D : Ends} {XX : XE} : wSs G call d_printed_by_b4 env M D XX = wSs G call (.cons (.expr (.lme (.var 5) "extend" (.pos (.frh false (.cmp d_printed_by_e3 d_printed_by_t2 (.enum (.var 6)) (.bl true) [9, 10])) .nil)))
  (.cons (.asg (.var 0) (.sli (.var 0) (.sub (.var 7) (.int 0)) .non))
  (.cons (.asg (.tup (.cons (.var 6) (.cons (.var 7) (.cons (.var 8) .nil)))) (.call "told_by" (.pos (.var 0) (.pos (.var 4) (.pos (.var 1) .nil)))))
  .nil))) env M D XX := congrArg (fun z => wSs G call z env M D XX) (show d_printed_by_b4 = (.cons (.expr (.lme (.var 5) "extend" (.pos (.frh false (.cmp d_printed_by_e3 d_printed_by_t2 (.enum (.var 6)) (.bl true) [9, 10])) .nil)))
  (.cons (.asg (.var 0) (.sli (.var 0) (.sub (.var 7) (.int 0)) .non))
  (.cons (.asg (.tup (.cons (.var 6) (.cons (.var 7) (.cons (.var 8) .nil)))) (.call "told_by" (.pos (.var 0) (.pos (.var 4) (.pos (.var 1) .nil)))))
  .nil))) from rfl)
def d_printed_by : CDef where
  ps := ["held", "width", "height", "room"]
  slots := 11
  mode := 0
  body := (.cons (.asg (.tup (.cons (.var 4) (.cons (.var 5) .nil))) (.tup (.pos (.call "heads_of" (.pos (.var 2) (.pos (.var 3) .nil))) (.pos (.frh true (.dis .nil)) .nil))))
    (.cons (.asg (.tup (.cons (.var 6) (.cons (.var 7) (.cons (.var 8) .nil)))) (.call "told_by" (.pos (.var 0) (.pos (.var 4) (.pos (.var 1) .nil)))))
    (.cons (.whl d_printed_by_c1 d_printed_by_b4)
    (.cons (.ret (.tup (.pos (.var 5) (.pos (.var 0) (.pos (.var 8) .nil)))))
    .nil))))
def d_check_number : CDef where
  ps := ["number", "least", "most"]
  slots := 3
  mode := 0
  body := (.cons (.ife (.not (.call "is_between" (.pos (.var 0) (.pos (.var 1) (.pos (.var 2) .nil)))))
      (.cons (.rais "InvalidNumber" (.pos (.var 0) .nil))
      .nil)
      .nil)
    .nil)
def d_check_room : CDef where
  ps := ["room"]
  slots := 1
  mode := 0
  body := (.cons (.expr (.call "check_number" (.pos (.var 0) (.pos (.int 1) (.pos (.glob "MOST_SIDE") .nil)))))
    .nil)
def d_check_octets_t1 : CT := (.var 1)
theorem d_check_octets_t1_u {G : Gl} {call : CallT} {v : PV} {env : Env} {M : MM} {Q : Env → MM → Prop} {X : XK} : wT G call d_check_octets_t1 v env M Q X = wT G call (.var 1) v env M Q X := congrArg (fun z => wT G call z v env M Q X) (show d_check_octets_t1 = (.var 1) from rfl)
def d_check_octets_b2 : CSs := (.cons (.rais "InvalidOctets" (.pos (.var 1) .nil))
  .nil)
theorem d_check_octets_b2_u {G : Gl} {call : CallT} {env : Env} {M : MM} {D : Ends} {XX : XE} : wSs G call d_check_octets_b2 env M D XX = wSs G call (.cons (.rais "InvalidOctets" (.pos (.var 1) .nil))
  .nil) env M D XX := congrArg (fun z => wSs G call z env M D XX) (show d_check_octets_b2 = (.cons (.rais "InvalidOctets" (.pos (.var 1) .nil))
  .nil) from rfl)
def d_check_octets : CDef where
  ps := ["octets"]
  slots := 2
  mode := 0
  body := (.cons (.for d_check_octets_t1 (.seq (.call "wrong_in_octets" (.pos (.var 0) .nil))) d_check_octets_b2)
    .nil)
def d_Press___init__ : CDef where
  ps := ["self", "width", "height", "room"]
  slots := 4
  mode := 0
  body := (.cons (.expr (.call "check_number" (.pos (.var 1) (.pos (.int 1) (.pos (.glob "MOST_ROW") .nil)))))
    (.cons (.expr (.call "check_number" (.pos (.var 2) (.pos (.int 1) (.pos (.glob "MOST_ROW") .nil)))))
    (.cons (.expr (.call "check_room" (.pos (.var 3) .nil)))
    (.cons (.asg (.att (.var 0) "sizes") (.tup (.pos (.var 1) (.pos (.var 2) (.pos (.var 3) .nil)))))
    (.cons (.asg (.att (.var 0) "standing") (.tup (.pos (.tup .nil) (.pos (.int 0) (.pos (.tup .nil) .nil)))))
    .nil)))))
def d_Press_held : CDef where
  ps := ["self"]
  slots := 1
  mode := 0
  body := (.cons (.ret (.sub (.att (.var 0) "standing") (.int 1)))
    .nil)
def d_Press_printed : CDef where
  ps := ["self"]
  slots := 1
  mode := 0
  body := (.cons (.ret (.sub (.att (.var 0) "standing") (.int 2)))
    .nil)
def d_Press_put_t1 : CT := (.var 9)
theorem d_Press_put_t1_u {G : Gl} {call : CallT} {v : PV} {env : Env} {M : MM} {Q : Env → MM → Prop} {X : XK} : wT G call d_Press_put_t1 v env M Q X = wT G call (.var 9) v env M Q X := congrArg (fun z => wT G call z v env M Q X) (show d_Press_put_t1 = (.var 9) from rfl)
def d_Press_put_b2 : CSs := (.cons (.asg (.att (.var 0) "standing") (.tup (.pos (.tup .nil) (.pos (.int 0) (.pos (.var 8) .nil)))))
  (.cons (.rais "InvalidOctets" (.pos (.var 9) .nil))
  .nil))
theorem d_Press_put_b2_u {G : Gl} {call : CallT} {env : Env} {M : MM} {D : Ends} {XX : XE} : wSs G call d_Press_put_b2 env M D XX = wSs G call (.cons (.asg (.att (.var 0) "standing") (.tup (.pos (.tup .nil) (.pos (.int 0) (.pos (.var 8) .nil)))))
  (.cons (.rais "InvalidOctets" (.pos (.var 9) .nil))
  .nil)) env M D XX := congrArg (fun z => wSs G call z env M D XX) (show d_Press_put_b2 = (.cons (.asg (.att (.var 0) "standing") (.tup (.pos (.tup .nil) (.pos (.int 0) (.pos (.var 8) .nil)))))
  (.cons (.rais "InvalidOctets" (.pos (.var 9) .nil))
  .nil)) from rfl)
def d_Press_put : CDef where
  ps := ["self", "octets"]
  slots := 10
  mode := 0
  body := (.cons (.expr (.call "check_octets" (.pos (.var 1) .nil)))
    (.cons (.asg (.tup (.cons (.var 2) (.cons (.var 3) (.cons (.var 4) .nil)))) (.att (.var 0) "sizes"))
    (.cons (.asg (.tup (.cons (.var 5) (.cons (.var 6) (.cons (.var 7) .nil)))) (.call "printed_by" (.pos (.tup (.star (.sub (.att (.var 0) "standing") (.int 0)) (.star (.var 1) .nil))) (.pos (.var 2) (.pos (.var 3) (.pos (.var 4) .nil))))))
    (.cons (.asg (.var 8) (.tup (.star (.att (.var 0) "printed") (.star (.var 5) .nil))))
    (.cons (.for d_Press_put_t1 (.seq (.var 7)) d_Press_put_b2)
    (.cons (.asg (.att (.var 0) "standing") (.tup (.pos (.var 6) (.pos (.bi .len (.pos (.var 6) .nil)) (.pos (.var 8) .nil)))))
    (.cons (.ret (.bi .tuple (.pos (.var 5) .nil)))
    .nil)))))))
def d__law_well_t1 : CT := (.var 3)
theorem d__law_well_t1_u {G : Gl} {call : CallT} {v : PV} {env : Env} {M : MM} {Q : Env → MM → Prop} {X : XK} : wT G call d__law_well_t1 v env M Q X = wT G call (.var 3) v env M Q X := congrArg (fun z => wT G call z v env M Q X) (show d__law_well_t1 = (.var 3) from rfl)
def d__law_well_b2 : CSs := (.cons (.asg (.var 2) (.bin .mod (.bi .int (.pos (.bin .add (.bin .add (.bin .mul (.var 2) (.int 48271)) (.bin .mod (.bi .int (.pos (.var 3) .nil)) (.int 2147483549))) (.int 23)) .nil)) (.int 2147483587)))
  .nil)
theorem d__law_well_b2_u {G : Gl} {call : CallT} {env : Env} {M : MM} {D : Ends} {XX : XE} : wSs G call d__law_well_b2 env M D XX = wSs G call (.cons (.asg (.var 2) (.bin .mod (.bi .int (.pos (.bin .add (.bin .add (.bin .mul (.var 2) (.int 48271)) (.bin .mod (.bi .int (.pos (.var 3) .nil)) (.int 2147483549))) (.int 23)) .nil)) (.int 2147483587)))
  .nil) env M D XX := congrArg (fun z => wSs G call z env M D XX) (show d__law_well_b2 = (.cons (.asg (.var 2) (.bin .mod (.bi .int (.pos (.bin .add (.bin .add (.bin .mul (.var 2) (.int 48271)) (.bin .mod (.bi .int (.pos (.var 3) .nil)) (.int 2147483549))) (.int 23)) .nil)) (.int 2147483587)))
  .nil) from rfl)
def d__law_well : CDef where
  ps := ["script", "lap"]
  slots := 5
  mode := 1
  body := (.cons (.asg (.var 2) (.bin .add (.int 704969) (.bin .mul (.int 6121) (.var 1))))
    (.cons (.for d__law_well_t1 (.seq (.sli (.var 0) .non (.int 16))) d__law_well_b2)
    (.cons (.asg (.var 4) (.ife (.cmp .lt (.var 1) (.bi .len (.pos (.var 0) .nil))) (.bi .int (.pos (.sub (.var 0) (.var 1)) .nil)) (.int 0)))
    (.cons (.asg (.var 2) (.bin .mod (.bi .int (.pos (.bin .add (.bin .add (.bin .mul (.var 2) (.int 53)) (.bin .mul (.bin .mod (.bi .int (.pos (.var 4) .nil)) (.int 2147483549)) (.int 15013))) (.int 11)) .nil)) (.int 2147483587)))
    (.cons (.ret (.frh true (.dis (.pos (.ife (.or (.cmp .lt (.var 4) (.int 0)) (.cmp .ge (.var 4) (.bin .pow (.int 10) (.int 15)))) (.bi .abs (.pos (.var 4) .nil)) (.int 0)) (.pos (.var 2) (.pos (.int 0) .nil))))))
    .nil)))))
def d__law_draw : CDef where
  ps := ["well", "limit"]
  slots := 4
  mode := 0
  body := (.cons (.ife (.cmp .gt (.sub (.var 0) (.int 0)) (.int 0))
      (.cons (.asg (.tup (.cons (.sub (.var 0) (.int 0)) (.cons (.var 2) .nil))) (.bi .divmod (.pos (.sub (.var 0) (.int 0)) (.pos (.var 1) .nil))))
      (.cons (.ret (.var 2))
      .nil))
      .nil)
    (.cons (.asg (.sub (.var 0) (.int 2)) (.bin .add (.sub (.var 0) (.int 2)) (.int 1)))
    (.cons (.asg (.var 3) (.bin .mod (.bi .int (.pos (.bin .add (.bin .add (.bin .mul (.sub (.var 0) (.int 1)) (.int 40009)) (.bin .mul (.int 15013) (.sub (.var 0) (.int 2)))) (.int 3)) .nil)) (.int 2147483587)))
    (.cons (.asg (.sub (.var 0) (.int 1)) (.bin .mod (.bi .int (.pos (.bin .add (.bin .mul (.var 3) (.bin .add (.bin .mod (.bi .int (.pos (.var 3) .nil)) (.int 5003)) (.int 20011))) (.sub (.var 0) (.int 2))) .nil)) (.int 2147483587)))
    (.cons (.ret (.bin .mod (.bi .int (.pos (.bin .fdiv (.sub (.var 0) (.int 1)) (.int 1031)) .nil)) (.var 1)))
    .nil)))))
def d__law_of : CDef where
  ps := ["well", "some"]
  slots := 2
  mode := 0
  body := (.cons (.ret (.sub (.var 1) (.call "_law_draw" (.pos (.var 0) (.pos (.bi .len (.pos (.var 1) .nil)) .nil)))))
    .nil)
def d__law_same_t1 : CT := (.var 3)
theorem d__law_same_t1_u {G : Gl} {call : CallT} {v : PV} {env : Env} {M : MM} {Q : Env → MM → Prop} {X : XK} : wT G call d__law_same_t1 v env M Q X = wT G call (.var 3) v env M Q X := congrArg (fun z => wT G call z v env M Q X) (show d__law_same_t1 = (.var 3) from rfl)
def d__law_same_e2 : CE := (.call "_law_same" (.pos (.sub (.var 0) (.var 3)) (.pos (.sub (.var 1) (.var 3)) .nil)))
theorem d__law_same_e2_u {G : Gl} {call : CallT} {env : Env} {M : MM} {Q : PV → MM → Prop} {X : XK} : wE G call d__law_same_e2 env M Q X = wE G call (.call "_law_same" (.pos (.sub (.var 0) (.var 3)) (.pos (.sub (.var 1) (.var 3)) .nil))) env M Q X := congrArg (fun z => wE G call z env M Q X) (show d__law_same_e2 = (.call "_law_same" (.pos (.sub (.var 0) (.var 3)) (.pos (.sub (.var 1) (.var 3)) .nil))) from rfl)
def d__law_same : CDef where
  ps := ["one", "two"]
  slots := 4
  mode := 0
  body := (.cons (.ife (.isi (.var 1) .tuple)
      (.cons (.ife (.or (.not (.isi (.var 0) .tuple)) (.cmp .ne (.bi .len (.pos (.var 0) .nil)) (.bi .len (.pos (.var 1) .nil))))
        (.cons (.ret (.bl false))
        .nil)
        .nil)
      (.cons (.ret (.bi .all (.pos (.frh false (.cmp d__law_same_e2 d__law_same_t1 (.rng1 (.bi .len (.pos (.var 1) .nil))) (.bl true) [3])) .nil)))
      .nil))
      .nil)
    (.cons (.ife (.isi (.var 1) .bool)
      (.cons (.ret (.and (.isi (.var 0) .bool) (.cmp .eq (.var 0) (.var 1))))
      .nil)
      .nil)
    (.cons (.ife (.isi (.var 1) .int)
      (.cons (.ret (.and (.isi (.var 0) .int) (.and (.not (.isi (.var 0) .bool)) (.cmp .eq (.var 0) (.var 1)))))
      .nil)
      .nil)
    (.cons (.ife (.isi (.var 1) .str)
      (.cons (.ret (.and (.isi (.var 0) .str) (.cmp .eq (.var 0) (.var 1))))
      .nil)
      .nil)
    (.cons (.ife (.cmp .is (.var 1) .non)
      (.cons (.ret (.cmp .is (.var 0) .non))
      .nil)
      .nil)
    (.cons (.asg (.var 2) (.and (.cmp .eq (.isi (.var 0) .list) (.isi (.var 1) .list)) (.cmp .eq (.isi (.var 0) .dict) (.isi (.var 1) .dict))))
    (.cons (.ret (.and (.var 2) (.and (.not (.isi (.var 0) .tuple)) (.cmp .is (.cmp .eq (.var 0) (.var 1)) (.bl true)))))
    .nil)))))))
def d__law_runs_t1 : CT := (.var 2)
theorem d__law_runs_t1_u {G : Gl} {call : CallT} {v : PV} {env : Env} {M : MM} {Q : Env → MM → Prop} {X : XK} : wT G call d__law_runs_t1 v env M Q X = wT G call (.var 2) v env M Q X := congrArg (fun z => wT G call z v env M Q X) (show d__law_runs_t1 = (.var 2) from rfl)
def d__law_runs_b2 : CSs := (.cons (.ife (.and (.cmp .ne (.var 1) (.frh false (.dis .nil))) (.cmp .eq (.sub (.sub (.var 1) (.neg (.int 1))) (.int 1)) (.var 2)))
    (.cons (.asg (.sub (.var 1) (.neg (.int 1))) (.tup (.pos (.bin .add (.sub (.sub (.var 1) (.neg (.int 1))) (.int 0)) (.int 1)) (.pos (.var 2) .nil))))
    .nil)
    (.cons (.expr (.lme (.var 1) "append" (.pos (.tup (.pos (.int 1) (.pos (.var 2) .nil))) .nil)))
    .nil))
  .nil)
theorem d__law_runs_b2_u {G : Gl} {call : CallT} {env : Env} {M : MM} {D : Ends} {XX : XE} : wSs G call d__law_runs_b2 env M D XX = wSs G call (.cons (.ife (.and (.cmp .ne (.var 1) (.frh false (.dis .nil))) (.cmp .eq (.sub (.sub (.var 1) (.neg (.int 1))) (.int 1)) (.var 2)))
    (.cons (.asg (.sub (.var 1) (.neg (.int 1))) (.tup (.pos (.bin .add (.sub (.sub (.var 1) (.neg (.int 1))) (.int 0)) (.int 1)) (.pos (.var 2) .nil))))
    .nil)
    (.cons (.expr (.lme (.var 1) "append" (.pos (.tup (.pos (.int 1) (.pos (.var 2) .nil))) .nil)))
    .nil))
  .nil) env M D XX := congrArg (fun z => wSs G call z env M D XX) (show d__law_runs_b2 = (.cons (.ife (.and (.cmp .ne (.var 1) (.frh false (.dis .nil))) (.cmp .eq (.sub (.sub (.var 1) (.neg (.int 1))) (.int 1)) (.var 2)))
    (.cons (.asg (.sub (.var 1) (.neg (.int 1))) (.tup (.pos (.bin .add (.sub (.sub (.var 1) (.neg (.int 1))) (.int 0)) (.int 1)) (.pos (.var 2) .nil))))
    .nil)
    (.cons (.expr (.lme (.var 1) "append" (.pos (.tup (.pos (.int 1) (.pos (.var 2) .nil))) .nil)))
    .nil))
  .nil) from rfl)
def d__law_runs : CDef where
  ps := ["inks"]
  slots := 3
  mode := 0
  body := (.cons (.asg (.var 1) (.frh true (.dis .nil)))
    (.cons (.for d__law_runs_t1 (.seq (.var 0)) d__law_runs_b2)
    (.cons (.ret (.bi .tuple (.pos (.var 1) .nil)))
    .nil)))
def d__law_message_t1 : CT := (.var 5)
theorem d__law_message_t1_u {G : Gl} {call : CallT} {v : PV} {env : Env} {M : MM} {Q : Env → MM → Prop} {X : XK} : wT G call d__law_message_t1 v env M Q X = wT G call (.var 5) v env M Q X := congrArg (fun z => wT G call z v env M Q X) (show d__law_message_t1 = (.var 5) from rfl)
def d__law_message_t2 : CT := (.tup (.cons (.var 7) (.cons (.var 8) .nil)))
theorem d__law_message_t2_u {G : Gl} {call : CallT} {v : PV} {env : Env} {M : MM} {Q : Env → MM → Prop} {X : XK} : wT G call d__law_message_t2 v env M Q X = wT G call (.tup (.cons (.var 7) (.cons (.var 8) .nil))) v env M Q X := congrArg (fun z => wT G call z v env M Q X) (show d__law_message_t2 = (.tup (.cons (.var 7) (.cons (.var 8) .nil))) from rfl)
def d__law_message_b3 : CSs := (.cons (.asg (.var 4) (.bin .add (.var 4) (.tup (.pos (.var 7) (.pos (.var 8) .nil)))))
  .nil)
theorem d__law_message_b3_u {G : Gl} {call : CallT} {env : Env} {M : MM} {D : Ends} {XX : XE} : wSs G call d__law_message_b3 env M D XX = wSs G call (.cons (.asg (.var 4) (.bin .add (.var 4) (.tup (.pos (.var 7) (.pos (.var 8) .nil)))))
  .nil) env M D XX := congrArg (fun z => wSs G call z env M D XX) (show d__law_message_b3 = (.cons (.asg (.var 4) (.bin .add (.var 4) (.tup (.pos (.var 7) (.pos (.var 8) .nil)))))
  .nil) from rfl)
def d__law_message_b4 : CSs := (.cons (.asg (.var 6) (.call "_law_runs" (.pos (.var 5) .nil)))
  (.cons (.asg (.var 4) (.bin .add (.var 4) (.tup (.pos (.bi .len (.pos (.var 6) .nil)) .nil))))
  (.cons (.for d__law_message_t2 (.seq (.var 6)) d__law_message_b3)
  .nil)))
theorem d__law_message_b4_u {G : Gl} {call : CallT} {env : Env} {M : MM} {D : Ends} {XX : XE} : wSs G call d__law_message_b4 env M D XX = wSs G call (.cons (.asg (.var 6) (.call "_law_runs" (.pos (.var 5) .nil)))
  (.cons (.asg (.var 4) (.bin .add (.var 4) (.tup (.pos (.bi .len (.pos (.var 6) .nil)) .nil))))
  (.cons (.for d__law_message_t2 (.seq (.var 6)) d__law_message_b3)
  .nil))) env M D XX := congrArg (fun z => wSs G call z env M D XX) (show d__law_message_b4 = (.cons (.asg (.var 6) (.call "_law_runs" (.pos (.var 5) .nil)))
  (.cons (.asg (.var 4) (.bin .add (.var 4) (.tup (.pos (.bi .len (.pos (.var 6) .nil)) .nil))))
  (.cons (.for d__law_message_t2 (.seq (.var 6)) d__law_message_b3)
  .nil))) from rfl)
def d__law_message : CDef where
  ps := ["sheet", "room", "band"]
  slots := 9
  mode := 0
  body := (.cons (.asg (.var 3) (.sli (.var 0) (.bin .mul (.var 2) (.var 1)) (.bin .mul (.bin .add (.var 2) (.int 1)) (.var 1))))
    (.cons (.asg (.var 4) (.tup (.pos (.int 66) (.pos (.var 2) (.pos (.bin .mul (.var 2) (.var 1)) (.pos (.bi .len (.pos (.var 3) .nil)) .nil))))))
    (.cons (.for d__law_message_t1 (.seq (.var 3)) d__law_message_b4)
    (.cons (.ret (.bin .add (.var 4) (.tup (.pos (.bin .mod (.bi .int (.pos (.bi .sum (.pos (.var 4) .nil)) .nil)) (.int 251)) .nil))))
    .nil))))
def d__law_bands : CDef where
  ps := ["sheet", "room"]
  slots := 2
  mode := 0
  body := (.cons (.ret (.bin .fdiv (.bin .sub (.bin .add (.bi .len (.pos (.var 0) .nil)) (.var 1)) (.int 1)) (.var 1)))
    .nil)
def d__law_drawn_page_t1 : CT := (.var 5)
theorem d__law_drawn_page_t1_u {G : Gl} {call : CallT} {v : PV} {env : Env} {M : MM} {Q : Env → MM → Prop} {X : XK} : wT G call d__law_drawn_page_t1 v env M Q X = wT G call (.var 5) v env M Q X := congrArg (fun z => wT G call z v env M Q X) (show d__law_drawn_page_t1 = (.var 5) from rfl)
def d__law_drawn_page_e2 : CE := (.call "_law_draw" (.pos (.var 0) (.pos (.var 3) .nil)))
theorem d__law_drawn_page_e2_u {G : Gl} {call : CallT} {env : Env} {M : MM} {Q : PV → MM → Prop} {X : XK} : wE G call d__law_drawn_page_e2 env M Q X = wE G call (.call "_law_draw" (.pos (.var 0) (.pos (.var 3) .nil))) env M Q X := congrArg (fun z => wE G call z env M Q X) (show d__law_drawn_page_e2 = (.call "_law_draw" (.pos (.var 0) (.pos (.var 3) .nil))) from rfl)
def d__law_drawn_page_t3 : CT := (.var 4)
theorem d__law_drawn_page_t3_u {G : Gl} {call : CallT} {v : PV} {env : Env} {M : MM} {Q : Env → MM → Prop} {X : XK} : wT G call d__law_drawn_page_t3 v env M Q X = wT G call (.var 4) v env M Q X := congrArg (fun z => wT G call z v env M Q X) (show d__law_drawn_page_t3 = (.var 4) from rfl)
def d__law_drawn_page_e4 : CE := (.bi .tuple (.pos (.frh false (.cmp d__law_drawn_page_e2 d__law_drawn_page_t1 (.rng1 (.var 1)) (.bl true) [5])) .nil))
theorem d__law_drawn_page_e4_u {G : Gl} {call : CallT} {env : Env} {M : MM} {Q : PV → MM → Prop} {X : XK} : wE G call d__law_drawn_page_e4 env M Q X = wE G call (.bi .tuple (.pos (.frh false (.cmp d__law_drawn_page_e2 d__law_drawn_page_t1 (.rng1 (.var 1)) (.bl true) [5])) .nil)) env M Q X := congrArg (fun z => wE G call z env M Q X) (show d__law_drawn_page_e4 = (.bi .tuple (.pos (.frh false (.cmp d__law_drawn_page_e2 d__law_drawn_page_t1 (.rng1 (.var 1)) (.bl true) [5])) .nil)) from rfl)
def d__law_drawn_page : CDef where
  ps := ["well", "wide", "high"]
  slots := 6
  mode := 0
  body := (.cons (.asg (.var 3) (.call "_law_of" (.pos (.var 0) (.pos (.tup (.pos (.int 2) (.pos (.int 2) (.pos (.int 3) (.pos (.int 8) .nil))))) .nil))))
    (.cons (.ret (.bi .tuple (.pos (.frh false (.cmp d__law_drawn_page_e4 d__law_drawn_page_t3 (.rng1 (.var 2)) (.bl true) [4])) .nil)))
    .nil))
def d__law_pieces_t1 : CT := (.var 4)
theorem d__law_pieces_t1_u {G : Gl} {call : CallT} {v : PV} {env : Env} {M : MM} {Q : Env → MM → Prop} {X : XK} : wT G call d__law_pieces_t1 v env M Q X = wT G call (.var 4) v env M Q X := congrArg (fun z => wT G call z v env M Q X) (show d__law_pieces_t1 = (.var 4) from rfl)
def d__law_pieces_b2 : CSs := (.cons (.ife (.cmp .lt (.var 3) (.bi .len (.pos (.var 1) .nil)))
    (.cons (.asg (.var 5) (.call "_law_of" (.pos (.var 0) (.pos (.tup (.pos (.int 0) (.pos (.int 1) (.pos (.int 1) (.pos (.int 2) (.pos (.int 3) (.pos (.int 7) (.pos (.int 50) .nil)))))))) .nil))))
    (.cons (.expr (.lme (.var 2) "append" (.pos (.sli (.var 1) (.var 3) (.bin .add (.var 3) (.var 5))) .nil)))
    (.cons (.asg (.var 3) (.bin .add (.var 3) (.var 5)))
    .nil)))
    .nil)
  .nil)
theorem d__law_pieces_b2_u {G : Gl} {call : CallT} {env : Env} {M : MM} {D : Ends} {XX : XE} : wSs G call d__law_pieces_b2 env M D XX = wSs G call (.cons (.ife (.cmp .lt (.var 3) (.bi .len (.pos (.var 1) .nil)))
    (.cons (.asg (.var 5) (.call "_law_of" (.pos (.var 0) (.pos (.tup (.pos (.int 0) (.pos (.int 1) (.pos (.int 1) (.pos (.int 2) (.pos (.int 3) (.pos (.int 7) (.pos (.int 50) .nil)))))))) .nil))))
    (.cons (.expr (.lme (.var 2) "append" (.pos (.sli (.var 1) (.var 3) (.bin .add (.var 3) (.var 5))) .nil)))
    (.cons (.asg (.var 3) (.bin .add (.var 3) (.var 5)))
    .nil)))
    .nil)
  .nil) env M D XX := congrArg (fun z => wSs G call z env M D XX) (show d__law_pieces_b2 = (.cons (.ife (.cmp .lt (.var 3) (.bi .len (.pos (.var 1) .nil)))
    (.cons (.asg (.var 5) (.call "_law_of" (.pos (.var 0) (.pos (.tup (.pos (.int 0) (.pos (.int 1) (.pos (.int 1) (.pos (.int 2) (.pos (.int 3) (.pos (.int 7) (.pos (.int 50) .nil)))))))) .nil))))
    (.cons (.expr (.lme (.var 2) "append" (.pos (.sli (.var 1) (.var 3) (.bin .add (.var 3) (.var 5))) .nil)))
    (.cons (.asg (.var 3) (.bin .add (.var 3) (.var 5)))
    .nil)))
    .nil)
  .nil) from rfl)
def d__law_pieces : CDef where
  ps := ["well", "some"]
  slots := 6
  mode := 0
  body := (.cons (.asg (.tup (.cons (.var 2) (.cons (.var 3) .nil))) (.tup (.pos (.frh true (.dis .nil)) (.pos (.int 0) .nil))))
    (.cons (.for d__law_pieces_t1 (.rng1 (.bin .mul (.int 2) (.bi .len (.pos (.var 1) .nil)))) d__law_pieces_b2)
    (.cons (.ret (.bin .add (.var 2) (.frh false (.dis (.pos (.sli (.var 1) (.var 3) .non) (.pos (.sli (.var 1) .non (.int 0)) .nil))))))
    .nil)))
def d__law_run_wrong_t1 : CT := (.var 6)
theorem d__law_run_wrong_t1_u {G : Gl} {call : CallT} {v : PV} {env : Env} {M : MM} {Q : Env → MM → Prop} {X : XK} : wT G call d__law_run_wrong_t1 v env M Q X = wT G call (.var 6) v env M Q X := congrArg (fun z => wT G call z v env M Q X) (show d__law_run_wrong_t1 = (.var 6) from rfl)
def d__law_run_wrong_b2 : CSs := (.cons (.asg (.var 7) (.bin .sub (.bin .sub (.var 2) (.var 6)) (.int 1)))
  (.cons (.ife (.cmp .lt (.var 1) (.bi .len (.pos (.var 0) .nil)))
    (.cons (.asg (.var 8) (.chn (.int 1) .le (.sub (.var 0) (.var 1)) .le (.bin .sub (.var 5) (.var 7))))
    (.cons (.ife (.and (.cmp .isnot (.var 4) .non) (.cmp .eq (.var 7) (.int 0)))
      (.cons (.asg (.var 8) (.cmp .eq (.sub (.var 0) (.var 1)) (.var 5)))
      .nil)
      .nil)
    (.cons (.ife (.not (.var 8))
      (.cons (.ret (.tup (.pos (.var 1) (.pos (.var 1) .nil))))
      .nil)
      .nil)
    (.cons (.asg (.var 5) (.bin .sub (.var 5) (.sub (.var 0) (.var 1))))
    .nil))))
    .nil)
  (.cons (.ife (.cmp .lt (.bin .add (.var 1) (.int 1)) (.bi .len (.pos (.var 0) .nil)))
    (.cons (.ife (.or (.cmp .gt (.sub (.var 0) (.bin .add (.var 1) (.int 1))) (.int 7)) (.cmp .eq (.sub (.var 0) (.bin .add (.var 1) (.int 1))) (.var 3)))
      (.cons (.ret (.tup (.pos (.bin .add (.var 1) (.int 1)) (.pos (.var 1) .nil))))
      .nil)
      .nil)
    (.cons (.asg (.var 3) (.sub (.var 0) (.bin .add (.var 1) (.int 1))))
    .nil))
    .nil)
  (.cons (.asg (.var 1) (.bin .add (.var 1) (.int 2)))
  .nil))))
theorem d__law_run_wrong_b2_u {G : Gl} {call : CallT} {env : Env} {M : MM} {D : Ends} {XX : XE} : wSs G call d__law_run_wrong_b2 env M D XX = wSs G call (.cons (.asg (.var 7) (.bin .sub (.bin .sub (.var 2) (.var 6)) (.int 1)))
  (.cons (.ife (.cmp .lt (.var 1) (.bi .len (.pos (.var 0) .nil)))
    (.cons (.asg (.var 8) (.chn (.int 1) .le (.sub (.var 0) (.var 1)) .le (.bin .sub (.var 5) (.var 7))))
    (.cons (.ife (.and (.cmp .isnot (.var 4) .non) (.cmp .eq (.var 7) (.int 0)))
      (.cons (.asg (.var 8) (.cmp .eq (.sub (.var 0) (.var 1)) (.var 5)))
      .nil)
      .nil)
    (.cons (.ife (.not (.var 8))
      (.cons (.ret (.tup (.pos (.var 1) (.pos (.var 1) .nil))))
      .nil)
      .nil)
    (.cons (.asg (.var 5) (.bin .sub (.var 5) (.sub (.var 0) (.var 1))))
    .nil))))
    .nil)
  (.cons (.ife (.cmp .lt (.bin .add (.var 1) (.int 1)) (.bi .len (.pos (.var 0) .nil)))
    (.cons (.ife (.or (.cmp .gt (.sub (.var 0) (.bin .add (.var 1) (.int 1))) (.int 7)) (.cmp .eq (.sub (.var 0) (.bin .add (.var 1) (.int 1))) (.var 3)))
      (.cons (.ret (.tup (.pos (.bin .add (.var 1) (.int 1)) (.pos (.var 1) .nil))))
      .nil)
      .nil)
    (.cons (.asg (.var 3) (.sub (.var 0) (.bin .add (.var 1) (.int 1))))
    .nil))
    .nil)
  (.cons (.asg (.var 1) (.bin .add (.var 1) (.int 2)))
  .nil)))) env M D XX := congrArg (fun z => wSs G call z env M D XX) (show d__law_run_wrong_b2 = (.cons (.asg (.var 7) (.bin .sub (.bin .sub (.var 2) (.var 6)) (.int 1)))
  (.cons (.ife (.cmp .lt (.var 1) (.bi .len (.pos (.var 0) .nil)))
    (.cons (.asg (.var 8) (.chn (.int 1) .le (.sub (.var 0) (.var 1)) .le (.bin .sub (.var 5) (.var 7))))
    (.cons (.ife (.and (.cmp .isnot (.var 4) .non) (.cmp .eq (.var 7) (.int 0)))
      (.cons (.asg (.var 8) (.cmp .eq (.sub (.var 0) (.var 1)) (.var 5)))
      .nil)
      .nil)
    (.cons (.ife (.not (.var 8))
      (.cons (.ret (.tup (.pos (.var 1) (.pos (.var 1) .nil))))
      .nil)
      .nil)
    (.cons (.asg (.var 5) (.bin .sub (.var 5) (.sub (.var 0) (.var 1))))
    .nil))))
    .nil)
  (.cons (.ife (.cmp .lt (.bin .add (.var 1) (.int 1)) (.bi .len (.pos (.var 0) .nil)))
    (.cons (.ife (.or (.cmp .gt (.sub (.var 0) (.bin .add (.var 1) (.int 1))) (.int 7)) (.cmp .eq (.sub (.var 0) (.bin .add (.var 1) (.int 1))) (.var 3)))
      (.cons (.ret (.tup (.pos (.bin .add (.var 1) (.int 1)) (.pos (.var 1) .nil))))
      .nil)
      .nil)
    (.cons (.asg (.var 3) (.sub (.var 0) (.bin .add (.var 1) (.int 1))))
    .nil))
    .nil)
  (.cons (.asg (.var 1) (.bin .add (.var 1) (.int 2)))
  .nil)))) from rfl)
def d__law_run_wrong : CDef where
  ps := ["octets", "at", "left", "last", "wide"]
  slots := 9
  mode := 0
  body := (.cons (.asg (.var 5) (.ife (.cmp .is (.var 4) .non) (.int 24) (.var 4)))
    (.cons (.for d__law_run_wrong_t1 (.rng1 (.var 2)) d__law_run_wrong_b2)
    (.cons (.ret (.tup (.pos .non (.pos (.var 1) .nil))))
    .nil)))
def d__law_spoilt : CDef where
  ps := ["well", "octets"]
  slots := 4
  mode := 0
  body := (.cons (.asg (.tup (.cons (.var 2) (.cons (.var 3) .nil))) (.tup (.pos (.call "_law_draw" (.pos (.var 0) (.pos (.bi .len (.pos (.var 1) .nil)) .nil))) (.pos (.call "_law_draw" (.pos (.var 0) (.pos (.int 6) .nil))) .nil))))
    (.cons (.ife (.cmp .eq (.var 3) (.int 0))
      (.cons (.ret (.sli (.var 1) .non (.var 2)))
      .nil)
      .nil)
    (.cons (.ife (.cmp .eq (.var 3) (.int 1))
      (.cons (.ret (.bin .add (.var 1) (.tup (.pos (.call "_law_of" (.pos (.var 0) (.pos (.tup (.pos (.int 0) (.pos (.int 1) (.pos (.int 66) (.pos (.int 255) .nil))))) .nil))) .nil))))
      .nil)
      .nil)
    (.cons (.ife (.cmp .eq (.var 3) (.int 2))
      (.cons (.ret (.bin .add (.sli (.var 1) .non (.var 2)) (.sli (.var 1) (.bin .add (.var 2) (.int 1)) .non)))
      .nil)
      .nil)
    (.cons (.ret (.bin .add (.bin .add (.sli (.var 1) .non (.var 2)) (.tup (.pos (.call "_law_of" (.pos (.var 0) (.pos (.tup (.pos (.int 0) (.pos (.int 1) (.pos (.int 2) (.pos (.int 7) (.pos (.int 8) (.pos (.int 24) (.pos (.int 25) (.pos (.int 255) (.pos (.call "_law_draw" (.pos (.var 0) (.pos (.int 256) .nil))) .nil)))))))))) .nil))) .nil))) (.sli (.var 1) (.bin .add (.var 2) (.int 1)) .non)))
    .nil)))))
def d__law_pressed_t1 : CT := (.var 4)
theorem d__law_pressed_t1_u {G : Gl} {call : CallT} {v : PV} {env : Env} {M : MM} {Q : Env → MM → Prop} {X : XK} : wT G call d__law_pressed_t1 v env M Q X = wT G call (.var 4) v env M Q X := congrArg (fun z => wT G call z v env M Q X) (show d__law_pressed_t1 = (.var 4) from rfl)
def d__law_pressed_b2 : CSs := (.cons (.asg (.tup (.cons (.var 5) (.cons (.var 6) .nil))) (.tup (.pos (.ife (.cmp .gt (.var 4) (.int 0)) (.sub (.var 0) (.int 1)) (.int 0)) (.pos (.ife (.cmp .gt (.var 4) (.int 1)) (.sub (.var 0) (.int 2)) (.int 0)) .nil))))
  (.cons (.asg (.var 7) (.tup (.pos (.cmp .eq (.sub (.var 0) (.var 4)) (.int 66)) (.pos (.cmp .lt (.bin .mul (.sub (.var 0) (.var 4)) (.var 3)) (.var 2)) (.pos (.cmp .eq (.sub (.var 0) (.var 4)) (.bin .mul (.var 5) (.var 3))) (.pos (.cmp .eq (.sub (.var 0) (.var 4)) (.bi .min (.pos (.var 3) (.pos (.bin .sub (.var 2) (.var 6)) .nil)))) .nil))))))
  (.cons (.ife (.not (.sub (.var 7) (.var 4)))
    (.cons (.ret (.tup (.pos (.var 4) (.pos .non .nil))))
    .nil)
    .nil)
  .nil)))
theorem d__law_pressed_b2_u {G : Gl} {call : CallT} {env : Env} {M : MM} {D : Ends} {XX : XE} : wSs G call d__law_pressed_b2 env M D XX = wSs G call (.cons (.asg (.tup (.cons (.var 5) (.cons (.var 6) .nil))) (.tup (.pos (.ife (.cmp .gt (.var 4) (.int 0)) (.sub (.var 0) (.int 1)) (.int 0)) (.pos (.ife (.cmp .gt (.var 4) (.int 1)) (.sub (.var 0) (.int 2)) (.int 0)) .nil))))
  (.cons (.asg (.var 7) (.tup (.pos (.cmp .eq (.sub (.var 0) (.var 4)) (.int 66)) (.pos (.cmp .lt (.bin .mul (.sub (.var 0) (.var 4)) (.var 3)) (.var 2)) (.pos (.cmp .eq (.sub (.var 0) (.var 4)) (.bin .mul (.var 5) (.var 3))) (.pos (.cmp .eq (.sub (.var 0) (.var 4)) (.bi .min (.pos (.var 3) (.pos (.bin .sub (.var 2) (.var 6)) .nil)))) .nil))))))
  (.cons (.ife (.not (.sub (.var 7) (.var 4)))
    (.cons (.ret (.tup (.pos (.var 4) (.pos .non .nil))))
    .nil)
    .nil)
  .nil))) env M D XX := congrArg (fun z => wSs G call z env M D XX) (show d__law_pressed_b2 = (.cons (.asg (.tup (.cons (.var 5) (.cons (.var 6) .nil))) (.tup (.pos (.ife (.cmp .gt (.var 4) (.int 0)) (.sub (.var 0) (.int 1)) (.int 0)) (.pos (.ife (.cmp .gt (.var 4) (.int 1)) (.sub (.var 0) (.int 2)) (.int 0)) .nil))))
  (.cons (.asg (.var 7) (.tup (.pos (.cmp .eq (.sub (.var 0) (.var 4)) (.int 66)) (.pos (.cmp .lt (.bin .mul (.sub (.var 0) (.var 4)) (.var 3)) (.var 2)) (.pos (.cmp .eq (.sub (.var 0) (.var 4)) (.bin .mul (.var 5) (.var 3))) (.pos (.cmp .eq (.sub (.var 0) (.var 4)) (.bi .min (.pos (.var 3) (.pos (.bin .sub (.var 2) (.var 6)) .nil)))) .nil))))))
  (.cons (.ife (.not (.sub (.var 7) (.var 4)))
    (.cons (.ret (.tup (.pos (.var 4) (.pos .non .nil))))
    .nil)
    .nil)
  .nil))) from rfl)
def d__law_pressed_t3 : CT := (.var 9)
theorem d__law_pressed_t3_u {G : Gl} {call : CallT} {v : PV} {env : Env} {M : MM} {Q : Env → MM → Prop} {X : XK} : wT G call d__law_pressed_t3 v env M Q X = wT G call (.var 9) v env M Q X := congrArg (fun z => wT G call z v env M Q X) (show d__law_pressed_t3 = (.var 9) from rfl)
def d__law_pressed_t4 : CT := (.var 13)
theorem d__law_pressed_t4_u {G : Gl} {call : CallT} {v : PV} {env : Env} {M : MM} {Q : Env → MM → Prop} {X : XK} : wT G call d__law_pressed_t4 v env M Q X = wT G call (.var 13) v env M Q X := congrArg (fun z => wT G call z v env M Q X) (show d__law_pressed_t4 = (.var 13) from rfl)
def d__law_pressed_b5 : CSs := (.cons (.asg (.var 12) (.bin .add (.var 12) (.bin .mul (.tup (.pos (.sub (.var 0) (.bin .add (.var 13) (.int 1))) .nil)) (.sub (.var 0) (.var 13)))))
  .nil)
theorem d__law_pressed_b5_u {G : Gl} {call : CallT} {env : Env} {M : MM} {D : Ends} {XX : XE} : wSs G call d__law_pressed_b5 env M D XX = wSs G call (.cons (.asg (.var 12) (.bin .add (.var 12) (.bin .mul (.tup (.pos (.sub (.var 0) (.bin .add (.var 13) (.int 1))) .nil)) (.sub (.var 0) (.var 13)))))
  .nil) env M D XX := congrArg (fun z => wSs G call z env M D XX) (show d__law_pressed_b5 = (.cons (.asg (.var 12) (.bin .add (.var 12) (.bin .mul (.tup (.pos (.sub (.var 0) (.bin .add (.var 13) (.int 1))) .nil)) (.sub (.var 0) (.var 13)))))
  .nil) from rfl)
def d__law_pressed_b6 : CSs := (.cons (.ife (.cmp .ge (.var 4) (.bi .len (.pos (.var 0) .nil)))
    (.cons (.ret (.tup (.pos .non (.pos .non .nil))))
    .nil)
    .nil)
  (.cons (.ife (.not (.chn (.int 1) .le (.sub (.var 0) (.var 4)) .le (.var 1)))
    (.cons (.ret (.tup (.pos (.var 4) (.pos .non .nil))))
    .nil)
    .nil)
  (.cons (.asg (.tup (.cons (.var 10) (.cons (.var 11) .nil))) (.call "_law_run_wrong" (.pos (.var 0) (.pos (.bin .add (.var 4) (.int 1)) (.pos (.sub (.var 0) (.var 4)) (.pos (.int 99) (.pos (.var 1) .nil)))))))
  (.cons (.ife (.cmp .isnot (.var 10) .non)
    (.cons (.ret (.tup (.pos (.var 10) (.pos .non .nil))))
    .nil)
    .nil)
  (.cons (.asg (.var 12) (.tup .nil))
  (.cons (.for d__law_pressed_t4 (.rng3 (.bin .add (.var 4) (.int 1)) (.bi .min (.pos (.var 11) (.pos (.bin .sub (.bi .len (.pos (.var 0) .nil)) (.int 1)) .nil))) (.int 2)) d__law_pressed_b5)
  (.cons (.asg (.tup (.cons (.var 8) (.cons (.var 4) .nil))) (.tup (.pos (.bin .add (.var 8) (.tup (.pos (.tup (.pos (.bin .add (.sub (.var 0) (.int 2)) (.var 9)) (.pos (.var 12) .nil))) .nil))) (.pos (.var 11) .nil))))
  .nil)))))))
theorem d__law_pressed_b6_u {G : Gl} {call : CallT} {env : Env} {M : MM} {D : Ends} {XX : XE} : wSs G call d__law_pressed_b6 env M D XX = wSs G call (.cons (.ife (.cmp .ge (.var 4) (.bi .len (.pos (.var 0) .nil)))
    (.cons (.ret (.tup (.pos .non (.pos .non .nil))))
    .nil)
    .nil)
  (.cons (.ife (.not (.chn (.int 1) .le (.sub (.var 0) (.var 4)) .le (.var 1)))
    (.cons (.ret (.tup (.pos (.var 4) (.pos .non .nil))))
    .nil)
    .nil)
  (.cons (.asg (.tup (.cons (.var 10) (.cons (.var 11) .nil))) (.call "_law_run_wrong" (.pos (.var 0) (.pos (.bin .add (.var 4) (.int 1)) (.pos (.sub (.var 0) (.var 4)) (.pos (.int 99) (.pos (.var 1) .nil)))))))
  (.cons (.ife (.cmp .isnot (.var 10) .non)
    (.cons (.ret (.tup (.pos (.var 10) (.pos .non .nil))))
    .nil)
    .nil)
  (.cons (.asg (.var 12) (.tup .nil))
  (.cons (.for d__law_pressed_t4 (.rng3 (.bin .add (.var 4) (.int 1)) (.bi .min (.pos (.var 11) (.pos (.bin .sub (.bi .len (.pos (.var 0) .nil)) (.int 1)) .nil))) (.int 2)) d__law_pressed_b5)
  (.cons (.asg (.tup (.cons (.var 8) (.cons (.var 4) .nil))) (.tup (.pos (.bin .add (.var 8) (.tup (.pos (.tup (.pos (.bin .add (.sub (.var 0) (.int 2)) (.var 9)) (.pos (.var 12) .nil))) .nil))) (.pos (.var 11) .nil))))
  .nil))))))) env M D XX := congrArg (fun z => wSs G call z env M D XX) (show d__law_pressed_b6 = (.cons (.ife (.cmp .ge (.var 4) (.bi .len (.pos (.var 0) .nil)))
    (.cons (.ret (.tup (.pos .non (.pos .non .nil))))
    .nil)
    .nil)
  (.cons (.ife (.not (.chn (.int 1) .le (.sub (.var 0) (.var 4)) .le (.var 1)))
    (.cons (.ret (.tup (.pos (.var 4) (.pos .non .nil))))
    .nil)
    .nil)
  (.cons (.asg (.tup (.cons (.var 10) (.cons (.var 11) .nil))) (.call "_law_run_wrong" (.pos (.var 0) (.pos (.bin .add (.var 4) (.int 1)) (.pos (.sub (.var 0) (.var 4)) (.pos (.int 99) (.pos (.var 1) .nil)))))))
  (.cons (.ife (.cmp .isnot (.var 10) .non)
    (.cons (.ret (.tup (.pos (.var 10) (.pos .non .nil))))
    .nil)
    .nil)
  (.cons (.asg (.var 12) (.tup .nil))
  (.cons (.for d__law_pressed_t4 (.rng3 (.bin .add (.var 4) (.int 1)) (.bi .min (.pos (.var 11) (.pos (.bin .sub (.bi .len (.pos (.var 0) .nil)) (.int 1)) .nil))) (.int 2)) d__law_pressed_b5)
  (.cons (.asg (.tup (.cons (.var 8) (.cons (.var 4) .nil))) (.tup (.pos (.bin .add (.var 8) (.tup (.pos (.tup (.pos (.bin .add (.sub (.var 0) (.int 2)) (.var 9)) (.pos (.var 12) .nil))) .nil))) (.pos (.var 11) .nil))))
  .nil))))))) from rfl)
def d__law_pressed : CDef where
  ps := ["octets", "wide", "high", "room"]
  slots := 14
  mode := 0
  body := (.cons (.for d__law_pressed_t1 (.rng1 (.bi .min (.pos (.int 4) (.pos (.bi .len (.pos (.var 0) .nil)) .nil)))) d__law_pressed_b2)
    (.cons (.asg (.tup (.cons (.var 4) (.cons (.var 8) .nil))) (.tup (.pos (.int 4) (.pos (.tup .nil) .nil))))
    (.cons (.for d__law_pressed_t3 (.rng1 (.ife (.cmp .gt (.bi .len (.pos (.var 0) .nil)) (.int 3)) (.sub (.var 0) (.int 3)) (.int 0))) d__law_pressed_b6)
    (.cons (.ife (.or (.cmp .le (.bi .len (.pos (.var 0) .nil)) (.int 4)) (.cmp .ge (.var 4) (.bi .len (.pos (.var 0) .nil))))
      (.cons (.ret (.tup (.pos .non (.pos .non .nil))))
      .nil)
      .nil)
    (.cons (.ret (.ife (.cmp .ne (.sub (.var 0) (.var 4)) (.bin .mod (.bi .int (.pos (.bi .sum (.pos (.sli (.var 0) .non (.var 4)) .nil)) .nil)) (.int 251))) (.tup (.pos (.var 4) (.pos .non .nil))) (.tup (.pos .non (.pos (.tup (.pos (.bin .add (.var 4) (.int 1)) (.pos (.var 8) .nil))) .nil)))))
    .nil)))))
def d__law_put : CDef where
  ps := ["press", "octets"]
  slots := 3
  mode := 0
  body := (.cons (.try
      (.cons (.ret (.tup (.pos (.str "printed") (.pos (.mth (.var 0) "put" (.pos (.var 1) .nil)) .nil))))
      .nil)
      (.cons "InkError" (some 2)
        (.cons (.ret (.tup (.pos (.str "wrong") (.pos (.ife (.and (.exi 2 "InvalidOctets") (.exi 2 "ValueError")) (.exf 2 "index") .non) .nil))))
        .nil)
        .nil))
    .nil)
def d__law_due_t1 : CT := (.var 6)
theorem d__law_due_t1_u {G : Gl} {call : CallT} {v : PV} {env : Env} {M : MM} {Q : Env → MM → Prop} {X : XK} : wT G call d__law_due_t1 v env M Q X = wT G call (.var 6) v env M Q X := congrArg (fun z => wT G call z v env M Q X) (show d__law_due_t1 = (.var 6) from rfl)
def d__law_due_b2 : CSs := (.cons (.asg (.tup (.cons (.var 7) (.cons (.var 8) .nil))) (.call "_law_pressed" (.pos (.var 4) (.pos (.bi .len (.pos (.sub (.var 2) (.int 0)) .nil)) (.pos (.bi .len (.pos (.var 2) .nil)) (.pos (.var 3) .nil))))))
  (.cons (.ife (.cmp .isnot (.var 7) .non)
    (.cons (.ret (.tup (.pos (.tup (.pos (.str "wrong") (.pos (.var 7) .nil))) (.pos (.var 5) (.pos (.tup .nil) .nil)))))
    .nil)
    .nil)
  (.cons (.ife (.cmp .is (.var 8) .non)
    (.cons (.ret (.tup (.pos (.tup (.pos (.str "printed") (.pos (.var 5) .nil))) (.pos (.var 5) (.pos (.var 4) .nil)))))
    .nil)
    .nil)
  (.cons (.asg (.tup (.cons (.var 4) (.cons (.var 5) .nil))) (.tup (.pos (.sli (.var 4) (.sub (.var 8) (.int 0)) .non) (.pos (.bin .add (.var 5) (.sub (.var 8) (.int 1))) .nil))))
  .nil))))
theorem d__law_due_b2_u {G : Gl} {call : CallT} {env : Env} {M : MM} {D : Ends} {XX : XE} : wSs G call d__law_due_b2 env M D XX = wSs G call (.cons (.asg (.tup (.cons (.var 7) (.cons (.var 8) .nil))) (.call "_law_pressed" (.pos (.var 4) (.pos (.bi .len (.pos (.sub (.var 2) (.int 0)) .nil)) (.pos (.bi .len (.pos (.var 2) .nil)) (.pos (.var 3) .nil))))))
  (.cons (.ife (.cmp .isnot (.var 7) .non)
    (.cons (.ret (.tup (.pos (.tup (.pos (.str "wrong") (.pos (.var 7) .nil))) (.pos (.var 5) (.pos (.tup .nil) .nil)))))
    .nil)
    .nil)
  (.cons (.ife (.cmp .is (.var 8) .non)
    (.cons (.ret (.tup (.pos (.tup (.pos (.str "printed") (.pos (.var 5) .nil))) (.pos (.var 5) (.pos (.var 4) .nil)))))
    .nil)
    .nil)
  (.cons (.asg (.tup (.cons (.var 4) (.cons (.var 5) .nil))) (.tup (.pos (.sli (.var 4) (.sub (.var 8) (.int 0)) .non) (.pos (.bin .add (.var 5) (.sub (.var 8) (.int 1))) .nil))))
  .nil)))) env M D XX := congrArg (fun z => wSs G call z env M D XX) (show d__law_due_b2 = (.cons (.asg (.tup (.cons (.var 7) (.cons (.var 8) .nil))) (.call "_law_pressed" (.pos (.var 4) (.pos (.bi .len (.pos (.sub (.var 2) (.int 0)) .nil)) (.pos (.bi .len (.pos (.var 2) .nil)) (.pos (.var 3) .nil))))))
  (.cons (.ife (.cmp .isnot (.var 7) .non)
    (.cons (.ret (.tup (.pos (.tup (.pos (.str "wrong") (.pos (.var 7) .nil))) (.pos (.var 5) (.pos (.tup .nil) .nil)))))
    .nil)
    .nil)
  (.cons (.ife (.cmp .is (.var 8) .non)
    (.cons (.ret (.tup (.pos (.tup (.pos (.str "printed") (.pos (.var 5) .nil))) (.pos (.var 5) (.pos (.var 4) .nil)))))
    .nil)
    .nil)
  (.cons (.asg (.tup (.cons (.var 4) (.cons (.var 5) .nil))) (.tup (.pos (.sli (.var 4) (.sub (.var 8) (.int 0)) .non) (.pos (.bin .add (.var 5) (.sub (.var 8) (.int 1))) .nil))))
  .nil)))) from rfl)
def d__law_due : CDef where
  ps := ["held", "octets", "page", "room"]
  slots := 9
  mode := 0
  body := (.cons (.asg (.tup (.cons (.var 4) (.cons (.var 5) .nil))) (.tup (.pos (.bin .add (.var 0) (.var 1)) (.pos (.tup .nil) .nil))))
    (.cons (.for d__law_due_t1 (.rng1 (.bin .add (.bi .len (.pos (.var 4) .nil)) (.int 1))) d__law_due_b2)
    (.cons (.ret (.tup (.pos (.tup (.pos (.str "printed") (.pos (.var 5) .nil))) (.pos (.var 5) (.pos (.var 4) .nil)))))
    .nil)))
def d__law_right_t1 : CT := (.var 7)
theorem d__law_right_t1_u {G : Gl} {call : CallT} {v : PV} {env : Env} {M : MM} {Q : Env → MM → Prop} {X : XK} : wT G call d__law_right_t1 v env M Q X = wT G call (.var 7) v env M Q X := congrArg (fun z => wT G call z v env M Q X) (show d__law_right_t1 = (.var 7) from rfl)
def d__law_right_b2 : CSs := (.cons (.asg (.var 8) (.call "_law_message" (.pos (.var 2) (.pos (.var 1) (.pos (.call "_law_draw" (.pos (.var 0) (.pos (.call "_law_bands" (.pos (.var 2) (.pos (.var 1) .nil))) .nil))) .nil)))))
  (.cons (.asg (.var 6) (.bin .add (.var 6) (.ife (.cmp .eq (.call "_law_draw" (.pos (.var 0) (.pos (.int 2) .nil))) (.int 0)) (.var 8) (.call "_law_spoilt" (.pos (.var 0) (.pos (.var 8) .nil))))))
  .nil))
theorem d__law_right_b2_u {G : Gl} {call : CallT} {env : Env} {M : MM} {D : Ends} {XX : XE} : wSs G call d__law_right_b2 env M D XX = wSs G call (.cons (.asg (.var 8) (.call "_law_message" (.pos (.var 2) (.pos (.var 1) (.pos (.call "_law_draw" (.pos (.var 0) (.pos (.call "_law_bands" (.pos (.var 2) (.pos (.var 1) .nil))) .nil))) .nil)))))
  (.cons (.asg (.var 6) (.bin .add (.var 6) (.ife (.cmp .eq (.call "_law_draw" (.pos (.var 0) (.pos (.int 2) .nil))) (.int 0)) (.var 8) (.call "_law_spoilt" (.pos (.var 0) (.pos (.var 8) .nil))))))
  .nil)) env M D XX := congrArg (fun z => wSs G call z env M D XX) (show d__law_right_b2 = (.cons (.asg (.var 8) (.call "_law_message" (.pos (.var 2) (.pos (.var 1) (.pos (.call "_law_draw" (.pos (.var 0) (.pos (.call "_law_bands" (.pos (.var 2) (.pos (.var 1) .nil))) .nil))) .nil)))))
  (.cons (.asg (.var 6) (.bin .add (.var 6) (.ife (.cmp .eq (.call "_law_draw" (.pos (.var 0) (.pos (.int 2) .nil))) (.int 0)) (.var 8) (.call "_law_spoilt" (.pos (.var 0) (.pos (.var 8) .nil))))))
  .nil)) from rfl)
def d__law_right_t3 : CT := (.var 9)
theorem d__law_right_t3_u {G : Gl} {call : CallT} {v : PV} {env : Env} {M : MM} {Q : Env → MM → Prop} {X : XK} : wT G call d__law_right_t3 v env M Q X = wT G call (.var 9) v env M Q X := congrArg (fun z => wT G call z v env M Q X) (show d__law_right_t3 = (.var 9) from rfl)
def d__law_right_b4 : CSs := (.cons (.asg (.tup (.cons (.var 10) (.cons (.var 11) (.cons (.var 4) .nil)))) (.call "_law_due" (.pos (.var 4) (.pos (.var 9) (.pos (.var 2) (.pos (.var 1) .nil))))))
  (.cons (.asg (.var 12) (.call "_law_put" (.pos (.var 3) (.pos (.var 9) .nil))))
  (.cons (.asg (.var 5) (.bin .add (.var 5) (.var 11)))
  (.cons (.ife (.not (.call "_law_same" (.pos (.tup (.pos (.var 12) (.pos (.att (.var 3) "printed") (.pos (.att (.var 3) "held") .nil)))) (.pos (.tup (.pos (.var 10) (.pos (.var 5) (.pos (.bi .len (.pos (.var 4) .nil)) .nil)))) .nil))))
    (.cons (.ret (.bl false))
    .nil)
    .nil)
  .nil))))
theorem d__law_right_b4_u {G : Gl} {call : CallT} {env : Env} {M : MM} {D : Ends} {XX : XE} : wSs G call d__law_right_b4 env M D XX = wSs G call (.cons (.asg (.tup (.cons (.var 10) (.cons (.var 11) (.cons (.var 4) .nil)))) (.call "_law_due" (.pos (.var 4) (.pos (.var 9) (.pos (.var 2) (.pos (.var 1) .nil))))))
  (.cons (.asg (.var 12) (.call "_law_put" (.pos (.var 3) (.pos (.var 9) .nil))))
  (.cons (.asg (.var 5) (.bin .add (.var 5) (.var 11)))
  (.cons (.ife (.not (.call "_law_same" (.pos (.tup (.pos (.var 12) (.pos (.att (.var 3) "printed") (.pos (.att (.var 3) "held") .nil)))) (.pos (.tup (.pos (.var 10) (.pos (.var 5) (.pos (.bi .len (.pos (.var 4) .nil)) .nil)))) .nil))))
    (.cons (.ret (.bl false))
    .nil)
    .nil)
  .nil)))) env M D XX := congrArg (fun z => wSs G call z env M D XX) (show d__law_right_b4 = (.cons (.asg (.tup (.cons (.var 10) (.cons (.var 11) (.cons (.var 4) .nil)))) (.call "_law_due" (.pos (.var 4) (.pos (.var 9) (.pos (.var 2) (.pos (.var 1) .nil))))))
  (.cons (.asg (.var 12) (.call "_law_put" (.pos (.var 3) (.pos (.var 9) .nil))))
  (.cons (.asg (.var 5) (.bin .add (.var 5) (.var 11)))
  (.cons (.ife (.not (.call "_law_same" (.pos (.tup (.pos (.var 12) (.pos (.att (.var 3) "printed") (.pos (.att (.var 3) "held") .nil)))) (.pos (.tup (.pos (.var 10) (.pos (.var 5) (.pos (.bi .len (.pos (.var 4) .nil)) .nil)))) .nil))))
    (.cons (.ret (.bl false))
    .nil)
    .nil)
  .nil)))) from rfl)
def d__law_right_t5 : CT := (.tup (.cons (.var 13) (.cons (.var 14) .nil)))
theorem d__law_right_t5_u {G : Gl} {call : CallT} {v : PV} {env : Env} {M : MM} {Q : Env → MM → Prop} {X : XK} : wT G call d__law_right_t5 v env M Q X = wT G call (.tup (.cons (.var 13) (.cons (.var 14) .nil))) v env M Q X := congrArg (fun z => wT G call z v env M Q X) (show d__law_right_t5 = (.tup (.cons (.var 13) (.cons (.var 14) .nil))) from rfl)
def d__law_right_b6 : CSs := (.cons (.ife (.not (.call "_law_same" (.pos (.tup (.pos (.call "_law_put" (.pos (.var 3) (.pos (.var 13) .nil))) (.pos (.att (.var 3) "printed") (.pos (.att (.var 3) "held") .nil)))) (.pos (.tup (.pos (.tup (.pos (.str "wrong") (.pos (.var 14) .nil))) (.pos (.var 5) (.pos (.bi .len (.pos (.var 4) .nil)) .nil)))) .nil))))
    (.cons (.ret (.bl false))
    .nil)
    .nil)
  .nil)
theorem d__law_right_b6_u {G : Gl} {call : CallT} {env : Env} {M : MM} {D : Ends} {XX : XE} : wSs G call d__law_right_b6 env M D XX = wSs G call (.cons (.ife (.not (.call "_law_same" (.pos (.tup (.pos (.call "_law_put" (.pos (.var 3) (.pos (.var 13) .nil))) (.pos (.att (.var 3) "printed") (.pos (.att (.var 3) "held") .nil)))) (.pos (.tup (.pos (.tup (.pos (.str "wrong") (.pos (.var 14) .nil))) (.pos (.var 5) (.pos (.bi .len (.pos (.var 4) .nil)) .nil)))) .nil))))
    (.cons (.ret (.bl false))
    .nil)
    .nil)
  .nil) env M D XX := congrArg (fun z => wSs G call z env M D XX) (show d__law_right_b6 = (.cons (.ife (.not (.call "_law_same" (.pos (.tup (.pos (.call "_law_put" (.pos (.var 3) (.pos (.var 13) .nil))) (.pos (.att (.var 3) "printed") (.pos (.att (.var 3) "held") .nil)))) (.pos (.tup (.pos (.tup (.pos (.str "wrong") (.pos (.var 14) .nil))) (.pos (.var 5) (.pos (.bi .len (.pos (.var 4) .nil)) .nil)))) .nil))))
    (.cons (.ret (.bl false))
    .nil)
    .nil)
  .nil) from rfl)
def d__law_right_t7 : CT := (.var 17)
theorem d__law_right_t7_u {G : Gl} {call : CallT} {v : PV} {env : Env} {M : MM} {Q : Env → MM → Prop} {X : XK} : wT G call d__law_right_t7 v env M Q X = wT G call (.var 17) v env M Q X := congrArg (fun z => wT G call z v env M Q X) (show d__law_right_t7 = (.var 17) from rfl)
def d__law_right_e8 : CE := (.tup (.pos (.var 17) (.pos (.sub (.var 2) (.var 17)) .nil)))
theorem d__law_right_e8_u {G : Gl} {call : CallT} {env : Env} {M : MM} {Q : PV → MM → Prop} {X : XK} : wE G call d__law_right_e8 env M Q X = wE G call (.tup (.pos (.var 17) (.pos (.sub (.var 2) (.var 17)) .nil))) env M Q X := congrArg (fun z => wE G call z env M Q X) (show d__law_right_e8 = (.tup (.pos (.var 17) (.pos (.sub (.var 2) (.var 17)) .nil))) from rfl)
def d__law_right : CDef where
  ps := ["well"]
  slots := 18
  mode := 0
  body := (.cons (.asg (.var 1) (.bin .add (.int 1) (.call "_law_draw" (.pos (.var 0) (.pos (.int 4) .nil)))))
    (.cons (.asg (.var 2) (.call "_law_drawn_page" (.pos (.var 0) (.pos (.bin .add (.int 1) (.call "_law_draw" (.pos (.var 0) (.pos (.int 7) .nil)))) (.pos (.bin .add (.int 1) (.call "_law_draw" (.pos (.var 0) (.pos (.int 7) .nil)))) .nil)))))
    (.cons (.asg (.tup (.cons (.var 3) (.cons (.var 4) (.cons (.var 5) (.cons (.var 6) .nil))))) (.tup (.pos (.new "Press" (.pos (.bi .len (.pos (.sub (.var 2) (.int 0)) .nil)) (.pos (.bi .len (.pos (.var 2) .nil)) (.pos (.var 1) .nil)))) (.pos (.tup .nil) (.pos (.tup .nil) (.pos (.tup .nil) .nil))))))
    (.cons (.for d__law_right_t1 (.rng1 (.int 5)) d__law_right_b2)
    (.cons (.for d__law_right_t3 (.seq (.call "_law_pieces" (.pos (.var 0) (.pos (.var 6) .nil)))) d__law_right_b4)
    (.cons (.for d__law_right_t5 (.seq (.tup (.pos (.tup (.pos .non (.pos .non .nil))) (.pos (.tup (.pos (.frh false (.dis (.pos (.int 66) .nil))) (.pos .non .nil))) (.pos (.tup (.pos (.tup (.pos (.int 256) .nil)) (.pos (.int 0) .nil))) (.pos (.tup (.pos (.tup (.pos (.int 66) (.pos .non .nil))) (.pos (.int 1) .nil))) (.pos (.tup (.pos (.int 5) (.pos .non .nil))) (.pos (.tup (.pos (.str "B") (.pos .non .nil))) (.pos (.tup (.pos (.tup (.pos (.int 66) (.pos (.int 0) (.pos (.bl true) .nil)))) (.pos (.int 2) .nil))) .nil))))))))) d__law_right_b6)
    (.cons (.asg (.var 15) (.call "_law_message" (.pos (.var 2) (.pos (.var 1) (.pos (.int 0) .nil)))))
    (.cons (.asg (.var 16) (.new "Press" (.pos (.bi .len (.pos (.sub (.var 2) (.int 0)) .nil)) (.pos (.bi .len (.pos (.var 2) .nil)) (.pos (.var 1) .nil)))))
    (.cons (.ret (.call "_law_same" (.pos (.mth (.var 16) "put" (.pos (.var 15) .nil)) (.pos (.bi .tuple (.pos (.frh false (.cmp d__law_right_e8 d__law_right_t7 (.rng1 (.bi .min (.pos (.var 1) (.pos (.bi .len (.pos (.var 2) .nil)) .nil)))) (.bl true) [17])) .nil)) .nil))))
    .nil)))))))))
def d_law_t1 : CT := (.var 2)
theorem d_law_t1_u {G : Gl} {call : CallT} {v : PV} {env : Env} {M : MM} {Q : Env → MM → Prop} {X : XK} : wT G call d_law_t1 v env M Q X = wT G call (.var 2) v env M Q X := congrArg (fun z => wT G call z v env M Q X) (show d_law_t1 = (.var 2) from rfl)
def d_law_e2 : CE := (.call "_law_well" (.pos (.var 0) (.pos (.var 2) .nil)))
theorem d_law_e2_u {G : Gl} {call : CallT} {env : Env} {M : MM} {Q : PV → MM → Prop} {X : XK} : wE G call d_law_e2 env M Q X = wE G call (.call "_law_well" (.pos (.var 0) (.pos (.var 2) .nil))) env M Q X := congrArg (fun z => wE G call z env M Q X) (show d_law_e2 = (.call "_law_well" (.pos (.var 0) (.pos (.var 2) .nil))) from rfl)
def d_law_t3 : CT := (.var 2)
theorem d_law_t3_u {G : Gl} {call : CallT} {v : PV} {env : Env} {M : MM} {Q : Env → MM → Prop} {X : XK} : wT G call d_law_t3 v env M Q X = wT G call (.var 2) v env M Q X := congrArg (fun z => wT G call z v env M Q X) (show d_law_t3 = (.var 2) from rfl)
def d_law_e4 : CE := (.call "_law_right" (.pos (.sub (.var 1) (.bin .mod (.bi .int (.pos (.var 2) .nil)) (.bi .len (.pos (.var 1) .nil)))) .nil))
theorem d_law_e4_u {G : Gl} {call : CallT} {env : Env} {M : MM} {Q : PV → MM → Prop} {X : XK} : wE G call d_law_e4 env M Q X = wE G call (.call "_law_right" (.pos (.sub (.var 1) (.bin .mod (.bi .int (.pos (.var 2) .nil)) (.bi .len (.pos (.var 1) .nil)))) .nil)) env M Q X := congrArg (fun z => wE G call z env M Q X) (show d_law_e4 = (.call "_law_right" (.pos (.sub (.var 1) (.bin .mod (.bi .int (.pos (.var 2) .nil)) (.bi .len (.pos (.var 1) .nil)))) .nil)) from rfl)
def d_law : CDef where
  ps := ["script"]
  slots := 3
  mode := 0
  body := (.cons (.asg (.var 1) (.frh false (.cmp d_law_e2 d_law_t1 (.rng1 (.bi .max (.pos (.int 1) (.pos (.bi .min (.pos (.bi .len (.pos (.var 0) .nil)) (.pos (.int 2) .nil))) .nil)))) (.bl true) [2])))
    (.cons (.ret (.bi .all (.pos (.frh false (.cmp d_law_e4 d_law_t3 (.rng1 (.int 2)) (.bl true) [2])) .nil)))
    .nil))
def LD : LawD where
  defs := [⟨"is_whole", 5, ["value"], false, none, d_is_whole⟩,
    ⟨"is_between", 6, ["value", "least", "most"], false, none, d_is_between⟩,
    ⟨"is_up_to", 7, ["value", "most"], false, none, d_is_up_to⟩,
    ⟨"wrong_in", 8, ["value", "least", "most", "is_right", "index", "each"], false, none, d_wrong_in⟩,
    ⟨"wrong_in_octets", 15, ["value"], true, none, d_wrong_in_octets⟩,
    ⟨"less_whole", 20, ["number"], false, none, d_less_whole⟩,
    ⟨"many_bands", 21, ["height", "room"], false, none, d_many_bands⟩,
    ⟨"heads_of", 22, ["height", "room", "band"], false, none, d_heads_of⟩,
    ⟨"wrong_in_head", 23, ["octets", "heads", "at", "head"], false, none, d_wrong_in_head⟩,
    ⟨"wrong_in_run", 24, ["row", "many", "left", "width", "room", "least"], false, none, d_wrong_in_run⟩,
    ⟨"row_told", 25, ["octets", "at", "width", "many", "row", "run", "spot", "_"], false, none, d_row_told⟩,
    ⟨"told_by", 26, ["octets", "heads", "width", "wrong", "rows", "at", "_", "row"], false, none, d_told_by⟩,
    ⟨"printed_by", 28, ["held", "width", "height", "room", "heads", "found", "rows", "behind", "wrong", "at", "row"], false, none, d_printed_by⟩,
    ⟨"check_number", 30, ["number", "least", "most"], false, none, d_check_number⟩,
    ⟨"check_room", 31, ["room"], false, none, d_check_room⟩,
    ⟨"check_octets", 32, ["octets", "index"], false, none, d_check_octets⟩,
    ⟨"Press.__init__", 34, ["self", "width", "height", "room"], false, some ("Press", "__init__", 0, false), d_Press___init__⟩,
    ⟨"Press.held", 34, ["self"], false, some ("Press", "held", 1, true), d_Press_held⟩,
    ⟨"Press.printed", 34, ["self"], false, some ("Press", "printed", 2, true), d_Press_printed⟩,
    ⟨"Press.put", 34, ["self", "octets", "width", "height", "room", "found", "held", "wrong", "printed", "index"], false, some ("Press", "put", 3, false), d_Press_put⟩,
    ⟨"_law_well", 36, ["script", "lap", "stirred", "cell", "own"], false, none, d__law_well⟩,
    ⟨"_law_draw", 37, ["well", "limit", "figure", "mixed"], false, none, d__law_draw⟩,
    ⟨"_law_of", 38, ["well", "some"], false, none, d__law_of⟩,
    ⟨"_law_same", 39, ["one", "two", "alike", "k"], false, none, d__law_same⟩,
    ⟨"_law_runs", 40, ["inks", "found", "ink"], false, none, d__law_runs⟩,
    ⟨"_law_message", 41, ["sheet", "room", "band", "rows", "found", "inks", "runs", "many", "ink"], false, none, d__law_message⟩,
    ⟨"_law_bands", 42, ["sheet", "room"], false, none, d__law_bands⟩,
    ⟨"_law_drawn_page", 43, ["well", "wide", "high", "few", "row", "column"], false, none, d__law_drawn_page⟩,
    ⟨"_law_pieces", 44, ["well", "some", "found", "at", "lap", "more"], false, none, d__law_pieces⟩,
    ⟨"_law_run_wrong", 45, ["octets", "at", "left", "last", "wide", "room", "lap", "after", "fine"], false, none, d__law_run_wrong⟩,
    ⟨"_law_spoilt", 46, ["well", "octets", "at", "way"], false, none, d__law_spoilt⟩,
    ⟨"_law_pressed", 47, ["octets", "wide", "high", "room", "at", "band", "first", "fine", "rows", "lap", "wrong", "end", "cells", "k"], false, none, d__law_pressed⟩,
    ⟨"_law_put", 48, ["press", "octets", "e"], false, none, d__law_put⟩,
    ⟨"_law_due", 49, ["held", "octets", "page", "room", "left", "rows", "lap", "wrong", "whole"], false, none, d__law_due⟩,
    ⟨"_law_right", 50, ["well", "room", "page", "press", "held", "printed", "octets", "lap", "message", "piece", "due", "rows", "told", "odd", "at", "whole", "fresh", "k"], false, none, d__law_right⟩,
    ⟨"law", 51, ["script", "wells", "lap"], false, none, d_law⟩]
  clss := [⟨"Press", ⟨some "Press.__init__", [("held", "Press.held"), ("printed", "Press.printed")], [("put", "Press.put")], ["sizes", "standing"], true⟩⟩]
  consts := [("MOST_INK", (.int 7)), ("MOST_ROW", (.int 24)), ("MOST_SIDE", (.int 24)), ("MOST_OCTETS", (.int 2900)), ("MOST_OCTET", (.int 255)), ("SIGN", (.int 66)), ("HEAD", (.int 4)), ("MOST_SUM", (.int 251))]
  excs := [("InvalidNumber", "given", ["InvalidNumber", "InkError", "ValueError", "Exception", "BaseException"]), ("InvalidOctets", "index", ["InvalidOctets", "InkError", "ValueError", "Exception", "BaseException"])]
  hnd := ["InkError"]
  xis := ["InvalidOctets", "ValueError"]
  xfs := ["index"]
end LW
end

section
set_option Elab.async false
set_option linter.all false
set_option maxRecDepth 100000
set_option maxHeartbeats 400000
/-! P1: stepping through Core. -/
namespace IB
section
variable {G : Gl} {call : CallT} {env : Env} {M : MM} {X : XK} {Q : PV → MM → Prop}
@[simp ↓] theorem e_non : wE G call .non env M Q X = Q .non M := (rfl)
@[simp ↓] theorem e_bl {b} : wE G call (.bl b) env M Q X = Q (.bl b) M := (rfl)
@[simp ↓] theorem e_int {i} : wE G call (.int i) env M Q X = Q (.int i) M := (rfl)
@[simp ↓] theorem e_str {s} : wE G call (.str s) env M Q X = Q (.str s) M := (rfl)
@[simp ↓] theorem e_var {i} : wE G call (.var i) env M Q X = (match slot env i with | some (.pv v) => Q v M | _ => False) := (rfl)
@[simp ↓] theorem e_glob {x} : wE G call (.glob x) env M Q X = (match G.consts x with | some v => Q v M | none => False) := (rfl)
@[simp ↓] theorem e_tup {es} : wE G call (.tup es) env M Q X = wD G call es env M (fun xs M1 => xs.length ≤ line ∧ Q (.tup xs) M1) X := (rfl)
@[simp ↓] theorem e_frt {f} : wE G call (.frh true f) env M Q X = wF G call f env M (fun xs M1 => ∀ a, M1 a = none → Q (.ref a) (upd M1 a (.lst xs))) X := (rfl)
@[simp ↓] theorem e_frf {f} : wE G call (.frh false f) env M Q X = wF G call f env M (fun xs M1 => Q (.lst xs) M1) X := (rfl)
@[simp ↓] theorem e_bin {o a b} : wE G call (.bin o a b) env M Q X = wE G call a env M (fun x M1 => wE G call b env M1 (fun y M2 => wBin o x y M2 Q X) X) X := (rfl)
@[simp ↓] theorem e_neg {a} : wE G call (.neg a) env M Q X = wE G call a env M (fun x M1 => match x with | .int i => Q (.int (-i)) M1 | _ => False) X := (rfl)
@[simp ↓] theorem e_cmp {o a b} : wE G call (.cmp o a b) env M Q X = wE G call a env M (fun x M1 => wE G call b env M1 (fun y M2 => wCmp o x y M2 (fun c M3 => Q (.bl c) M3) X) X) X := (rfl)
@[simp ↓] theorem e_chn {a o1 b o2 c} : wE G call (.chn a o1 b o2 c) env M Q X = wE G call a env M (fun x M1 => wE G call b env M1 (fun y M2 => wCmp o1 x y M2 (fun k M3 => if k = true then wE G call c env M3 (fun z M4 => wCmp o2 y z M4 (fun k M5 => Q (.bl k) M5) X) X else Q (.bl false) M3) X) X) X := (rfl)
@[simp ↓] theorem e_and {a b} : wE G call (.and a b) env M Q X = wE G call a env M (fun x M1 => match x with | .bl true => wE G call b env M1 Q X | .bl false => Q (.bl false) M1 | _ => False) X := (rfl)
@[simp ↓] theorem e_or {a b} : wE G call (.or a b) env M Q X = wE G call a env M (fun x M1 => match x with | .bl false => wE G call b env M1 Q X | .bl true => Q (.bl true) M1 | _ => False) X := (rfl)
@[simp ↓] theorem e_not {a} : wE G call (.not a) env M Q X = wE G call a env M (fun x M1 => match x with | .bl b => Q (.bl (!b)) M1 | _ => False) X := (rfl)
@[simp ↓] theorem e_ife {c a b} : wE G call (.ife c a b) env M Q X = wE G call c env M (fun x M1 => match x with | .bl k => (if k = true then wE G call a env M1 Q X else wE G call b env M1 Q X) | _ => False) X := (rfl)
@[simp ↓] theorem e_call {f es} : wE G call (.call f es) env M Q X = wA G call es env M (fun as M1 => call (.fn f) as M1 Q X) X := (rfl)
@[simp ↓] theorem e_calv {i es} : wE G call (.calv i es) env M Q X = (match slot env i with
    | some (.fn f) => wA G call es env M (fun as M1 => call (.fn f) as M1 Q X) X
    | some (.clo np body caps) => wA G call es env M (fun as M1 => call (.clo np body caps) as M1 Q X) X
    | _ => False) := (rfl)
@[simp ↓] theorem e_bi {b es} : wE G call (.bi b es) env M Q X = wD G call es env M (fun xs M1 => wBi b xs M1 Q X) X := (rfl)
@[simp ↓] theorem e_isi {e t} : wE G call (.isi e t) env M Q X = wE G call e env M (fun x M1 => match isOf M1 x t with | some b => Q (.bl b) M1 | none => False) X := (rfl)
@[simp ↓] theorem e_exf {i f} : wE G call (.exf i f) env M Q X = (match slot env i with
    | some (.exc _ fs) => (match fs.lookup f with | some v => Q v M | none => False)
    | _ => False) := (rfl)
@[simp ↓] theorem e_exi {i c} : wE G call (.exi i c) env M Q X = (match slot env i with
    | some (.exc d _) => (match G.excs d with | some (ups, _) => Q (.bl (ups.contains c)) M | none => False)
    | _ => False) := (rfl)
@[simp ↓] theorem e_sub {a i} : wE G call (.sub a i) env M Q X = wE G call a env M (fun x M1 => wE G call i env M1 (fun y M2 => wSub x y M2 Q X) X) X := (rfl)
@[simp ↓] theorem e_sli {a lo hi} : wE G call (.sli a lo hi) env M Q X = wE G call a env M (fun x M1 => wE G call lo env M1 (fun l M2 => match bound? (isNon lo) l with
    | some l' => wE G call hi env M2 (fun h M3 => match bound? (isNon hi) h with | some h' => wSli x l' h' M3 Q X | none => False) X
    | none => False) X) X := (rfl)
@[simp ↓] theorem e_lme {e m es} : wE G call (.lme e m es) env M Q X = wE G call e env M (fun x M1 => match listOf M1 x with | some _ => wD G call es env M1 (fun xs M2 => wMb x m xs M2 Q X) X | none => False) X := (rfl)
@[simp ↓] theorem f_dis {es} {Q : List PV → MM → Prop} : wF G call (.dis es) env M Q X = wD G call es env M (fun xs M1 => xs.length ≤ line ∧ Q xs M1) X := (rfl)
@[simp ↓] theorem d_nil {Q : List PV → MM → Prop} : wD G call .nil env M Q X = Q [] M := (rfl)
@[simp ↓] theorem d_pos {e r} {Q : List PV → MM → Prop} : wD G call (.pos e r) env M Q X = wE G call e env M (fun x M1 => wD G call r env M1 (fun xs M2 => Q (x :: xs) M2) X) X := (rfl)
@[simp ↓] theorem a_nil' {Q : Args → MM → Prop} : wA G call .nil env M Q X = Q ⟨[], []⟩ M := (rfl)
@[simp ↓] theorem a_pos' {e r} {Q : Args → MM → Prop} : wA G call (.pos e r) env M Q X = wE G call e env M (fun x M1 => wA G call r env M1 (fun as M2 => Q ⟨.pv x :: as.pos, as.kw⟩ M2) X) X := (rfl)
@[simp ↓] theorem a_kw' {n e r} {Q : Args → MM → Prop} : wA G call (.kw n e r) env M Q X = wE G call e env M (fun x M1 => wA G call r env M1 (fun as M2 => Q ⟨as.pos, (n, x) :: as.kw⟩ M2) X) X := (rfl)
@[simp ↓] theorem a_fn' {f r} {Q : Args → MM → Prop} : wA G call (.fn f r) env M Q X = wA G call r env M (fun as M2 => Q ⟨.fn f :: as.pos, as.kw⟩ M2) X := (rfl)
@[simp ↓] theorem a_lam' {np caps body r} {Q : Args → MM → Prop} : wA G call (.lam np caps body r) env M Q X = wA G call r env M (fun as M2 => Q ⟨.clo np body (captured env caps) :: as.pos, as.kw⟩ M2) X := (rfl)
@[simp ↓] theorem i_seq' {e} {Q : List PV → (MM → Prop) → MM → Prop} : wI G call (.seq e) env M Q X = wE G call e env M (fun x M1 => seqQ id x M1 Q) X := (rfl)
@[simp ↓] theorem i_rng1' {a} {Q : List PV → (MM → Prop) → MM → Prop} : wI G call (.rng1 a) env M Q X = wE G call a env M (fun x M1 => match x with | .int j => big62 j ∧ Q (upTo 0 j.toNat) (fun _ => True) M1 | _ => False) X := (rfl)
@[simp ↓] theorem i_enum' {e} {Q : List PV → (MM → Prop) → MM → Prop} : wI G call (.enum e) env M Q X = wE G call e env M (fun x M1 => seqQ pairUp x M1 Q) X := (rfl)
@[simp ↓] theorem t_var' {i v} {Q : Env → MM → Prop} : wT G call (.var i) v env M Q X = Q (env.set i (some (.pv v))) M := (rfl)
@[simp ↓] theorem t_tup' {ts v} {Q : Env → MM → Prop} : wT G call (.tup ts) v env M Q X = (match itemsOf M v with | some xs => xs.length = tgLen ts ∧ wTs G call ts xs env M Q X | none => False) := (rfl)
@[simp ↓] theorem t_sub' {a i v} {Q : Env → MM → Prop} : wT G call (.sub a i) v env M Q X = wE G call a env M (fun o M1 => wE G call i env M1 (fun k M2 => wStore o k v M2 (Q env)) noX) noX := (rfl)
@[simp ↓] theorem ts_nil' {Q : Env → MM → Prop} : wTs G call .nil [] env M Q X = Q env M := (rfl)
@[simp ↓] theorem ts_cons' {t r x xs} {Q : Env → MM → Prop} : wTs G call (.cons t r) (x :: xs) env M Q X = wT G call t x env M (fun env1 M1 => wTs G call r xs env1 M1 Q X) X := (rfl)
variable {D : Ends} {XX : XE}
@[simp ↓] theorem s_nil' : wSs G call .nil env M D XX = D.nx env M := (rfl)
@[simp ↓] theorem s_cons' {s r} : wSs G call (.cons s r) env M D XX = wS G call s env M { nx := fun env' M' => wSs G call r env' M' D XX, rt := D.rt, bk := D.bk, ct := D.ct } XX := (rfl)
@[simp ↓] theorem s_expr' {e} : wS G call (.expr e) env M D XX = wE G call e env M (fun _ M1 => D.nx env M1) (XX env) := (rfl)
@[simp ↓] theorem s_asg' {t e} : wS G call (.asg t e) env M D XX = wE G call e env M (fun v M1 => wT G call t v env M1 D.nx (XX env)) (XX env) := (rfl)
@[simp ↓] theorem s_ife' {c a b} : wS G call (.ife c a b) env M D XX = wC G call c env M (fun k M1 => if k = true then wSs G call a env M1 D XX else wSs G call b env M1 D XX) (XX env) := (rfl)
@[simp ↓] theorem c_def {c} {Q : Bool → MM → Prop} : wC G call c env M Q X = wE G call c env M (fun v M' => match v with | .bl b => Q b M' | _ => False) X := (rfl)
@[simp ↓] theorem s_for' {t it b} : wS G call (.for t it b) env M D XX = wI G call it env M (fun xs g M1 => forL g (fun v env M Q => wT G call t v env M Q (XX env)) (fun env M D => wSs G call b env M D XX) D xs env M1) (XX env) := (rfl)
@[simp ↓] theorem s_ret' {e} : wS G call (.ret e) env M D XX = wE G call e env M D.rt (XX env) := (rfl)
@[simp ↓] theorem s_rais' {c es} : wS G call (.rais c es) env M D XX = (match G.excs c with
    | some (_, ns) => wD G call es env M (fun vs M1 => vs.length = ns.length ∧ XX env c (ns.zip vs) M1) (XX env)
    | none => False) := (rfl)
@[simp ↓] theorem s_try' {b hs} : wS G call (.try b hs) env M D XX = wSs G call b env M D (fun env' c fs M' => wHs G call hs c fs env' M' D XX) := (rfl)
@[simp] theorem sl0 {x : Option SV} {l : Env} : slot (x :: l) 0 = x := by unfold slot; cases x <;> rfl
@[simp] theorem slS {x : Option SV} {l : Env} {i : Nat} : slot (x :: l) (i + 1) = slot l i := (rfl)
@[simp ↓] theorem f_cmp' {el t it c own} {Q : List PV → MM → Prop} : wF G call (.cmp el t it c own) env M Q X = wI G call it env M (fun xs g M1 =>
      compL g (fun v env M Q => wT G call t v env M Q noX) (fun env M Q => wE G call c env M (fun v M' => match v with | .bl b => Q b M' | _ => False) noX) (fun env M Q => wE G call el env M Q noX) (clean (wipeE env own)) Q xs [] M1) X := (rfl)
/-! ### operations -/
@[simp] theorem b_add {i j : Int} : wBin .add (.int i) (.int j) M Q X = Q (.int (i + j)) M := (rfl)
@[simp] theorem b_sub {i j : Int} : wBin .sub (.int i) (.int j) M Q X = Q (.int (i - j)) M := (rfl)
@[simp] theorem b_mul {i j : Int} : wBin .mul (.int i) (.int j) M Q X = (mulOk i j ∧ Q (.int (i * j)) M) := (rfl)
@[simp] theorem b_fdiv {i j : Int} : wBin .fdiv (.int i) (.int j) M Q X = ((j ≠ 0 ∧ j.natAbs < 1073741824) ∧ Q (.int (i.fdiv j)) M) := (rfl)
@[simp] theorem b_mod {i j : Int} : wBin .mod (.int i) (.int j) M Q X = (0 < j ∧ Q (.int (i % j)) M) := (rfl)
@[simp] theorem b_pow {i j : Int} : wBin .pow (.int i) (.int j) M Q X = ((0 ≤ j ∧ j ≤ 1000000 ∧ i.natAbs < 2 ^ 64) ∧ Q (.int (i ^ j.toNat)) M) := (rfl)
@[simp] theorem b_addT {xs ys : List PV} : wBin .add (.tup xs) (.tup ys) M Q X = (xs.length + ys.length ≤ line ∧ Q (.tup (xs ++ ys)) M) := (rfl)
@[simp] theorem b_mulT {xs : List PV} {n : Int} : wBin .mul (.tup xs) (.int n) M Q X = ((xs ≠ [] ∧ 1 ≤ n ∧ n ≤ 1000 ∧ xs.length ≤ 1000) ∧ Q (.tup (List.replicate n.toNat xs).flatten) M) := (rfl)
variable {QB : Bool → MM → Prop}
@[simp] theorem c_lt {i j : Int} : wCmp .lt (.int i) (.int j) M QB X = QB (decide (i < j)) M := (rfl)
@[simp] theorem c_le {i j : Int} : wCmp .le (.int i) (.int j) M QB X = QB (decide (i ≤ j)) M := (rfl)
@[simp] theorem c_gt {i j : Int} : wCmp .gt (.int i) (.int j) M QB X = QB (decide (j < i)) M := (rfl)
@[simp] theorem c_ge {i j : Int} : wCmp .ge (.int i) (.int j) M QB X = QB (decide (j ≤ i)) M := (rfl)
@[simp] theorem c_eqI {i j : Int} : wCmp .eq (.int i) (.int j) M QB X = QB (decide (i = j)) M := by
  have e : wCmp .eq (.int i) (.int j) M QB X = (true = true ∧ true = true ∧ QB (decide (i = j)) M) := (rfl)
  rw [e]; simp
theorem c_eqI' {i j : Int} : (PV.eqv (.int i) (.int j)) = decide (i = j) := (rfl)
@[simp] theorem c_neI {i j : Int} : wCmp .ne (.int i) (.int j) M QB X = QB (!decide (i = j)) M := by
  have e : wCmp .ne (.int i) (.int j) M QB X = (true = true ∧ true = true ∧ QB (!decide (i = j)) M) := (rfl)
  rw [e]; simp
@[simp] theorem c_isT {b : Bool} : wCmp .is (.bl b) (.bl true) M QB X = QB b M := (rfl)
theorem wEq_def {x y : PV} : wCmp .eq x y M QB X = (PV.dat 50 (rd M x) = true ∧ PV.dat 50 (rd M y) = true ∧ QB (PV.eqv (rd M x) (rd M y)) M) := (rfl)
theorem wNe_def {x y : PV} : wCmp .ne x y M QB X = (PV.dat 50 (rd M x) = true ∧ PV.dat 50 (rd M y) = true ∧ QB (!PV.eqv (rd M x) (rd M y)) M) := (rfl)
@[simp] theorem bi_len {x : PV} : wBi .len [x] M Q X = (match itemsR M x with | some ys => Q (.int ys.length) M | none => False) := (rfl)
@[simp] theorem bi_int {i : Int} : wBi .int [.int i] M Q X = Q (.int i) M := (rfl)
@[simp] theorem bi_abs {i : Int} : wBi .abs [.int i] M Q X = Q (.int (if i < 0 then -i else i)) M := (rfl)
@[simp] theorem bi_min {i j : Int} : wBi .min [.int i, .int j] M Q X = Q (.int (if j < i then j else i)) M := (rfl)
@[simp] theorem bi_max {i j : Int} : wBi .max [.int i, .int j] M Q X = Q (.int (if j > i then j else i)) M := (rfl)
@[simp] theorem bi_tuple {x : PV} : wBi .tuple [x] M Q X = (match itemsOf M x with | some ys => Q (.tup ys) M | none => False) := (rfl)
@[simp] theorem bi_all {x : PV} : wBi .all [x] M Q X = (match (listOf M x).bind bools? with | some ys => Q (.bl (ys.all id)) M | none => False) := (rfl)
@[simp] theorem bi_sum {x : PV} : wBi .sum [x] M Q X = (match (itemsOf M x).bind ints? with | some ys => Q (.int ys.sum) M | none => False) := (rfl)
@[simp] theorem bi_divmod {i j : Int} : wBi .divmod [.int i, .int j] M Q X = ((0 < j ∧ j < 1073741824) ∧ Q (.tup [.int (i / j), .int (i % j)]) M) := (rfl)
@[simp] theorem ir_tup {xs : List PV} : itemsR M (.tup xs) = some xs := (rfl)
@[simp] theorem ir_lst {xs : List PV} : itemsR M (.lst xs) = some xs := (rfl)
@[simp] theorem ir_rol {xs : List PV} : itemsR M (.rol xs) = some xs := (rfl)
@[simp] theorem io_tup {xs : List PV} : itemsOf M (.tup xs) = some xs := (rfl)
@[simp] theorem io_lst {xs : List PV} : itemsOf M (.lst xs) = some xs := (rfl)
@[simp] theorem lo_lst {xs : List PV} : listOf M (.lst xs) = some xs := (rfl)
@[simp] theorem sq_tup {f : List PV → List PV} {xs : List PV} {Q : List PV → (MM → Prop) → MM → Prop} : seqQ f (.tup xs) M Q = Q (f xs) (fun _ => True) M := (rfl)
@[simp] theorem sq_lst {f : List PV → List PV} {xs : List PV} {Q : List PV → (MM → Prop) → MM → Prop} : seqQ f (.lst xs) M Q = Q (f xs) (fun _ => True) M := (rfl)
@[simp] theorem sli_tup {xs : List PV} {l h : Option Int} : wSli (.tup xs) l h M Q X = Q (.tup (sliceOf xs l h)) M := (rfl)
@[simp] theorem sli_rol {xs : List PV} {l h : Option Int} : wSli (.rol xs) l h M Q X = Q (.lst (sliceOf xs l h)) M := (rfl)
@[simp] theorem bd_none {v : PV} : bound? true v = some none := (rfl)
@[simp] theorem bd_int {i : Int} : bound? false (.int i) = some (some i) := (rfl)
theorem ir_ref {a : Nat} {xs : List PV} (h : M a = some (.lst xs)) : itemsR M (.ref a) = some xs := by unfold itemsR; simp [h]
theorem io_ref {a : Nat} {xs : List PV} (h : M a = some (.lst xs)) : itemsOf M (.ref a) = some xs := by unfold itemsOf rd; simp [h]
theorem lo_ref {a : Nat} {xs : List PV} (h : M a = some (.lst xs)) : listOf M (.ref a) = some xs := by unfold listOf rd; simp [h]
theorem rd_ref {a : Nat} {xs : List PV} (h : M a = some (.lst xs)) : rd M (.ref a) = .lst xs := by unfold rd; simp [h]
/-! ### stores -/
@[simp] theorem upd_s {M : MM} {a : Nat} {o : MO} : upd M a o a = some o := by unfold upd; simp
theorem upd_o {M : MM} {a b : Nat} {o : MO} (h : b ≠ a) : upd M a o b = M b := by unfold upd; simp [h]
@[simp] theorem upd_u {M : MM} {a : Nat} {o o' : MO} : upd (upd M a o) a o' = upd M a o' := by
  funext b; unfold upd; by_cases h : b = a <;> simp [h]
theorem upd_id {M : MM} {a : Nat} {o : MO} (h : M a = some o) : upd M a o = M := by
  funext b; unfold upd; by_cases hb : b = a
  · subst hb; simp [h]
  · simp [hb]
@[simp] theorem restr_self {M : MM} : restr M M = M := by
  funext b; unfold restr
  cases h : M b <;> simp
theorem restr_new {M M' : MM} {a : Nat} {o : MO} (h : M a = none) : restr M (upd M' a o) = restr M M' := by
  funext b; unfold restr
  by_cases hb : b = a
  · subst hb; simp [h]
  · rw [upd_o hb]
theorem restr_old {M M' : MM} {a : Nat} {o : MO} (h : (M a).isSome = true) : restr M (upd M' a o) = upd (restr M M') a o := by
  funext b
  by_cases hb : b = a
  · subst hb; simp [restr, h]
  · rw [upd_o hb]; unfold restr; rw [upd_o hb]
/-- no place within -/
def PV.nr : PV → Bool
  | .ref _ => false
  | .tup xs => nrs xs
  | _ => true
where nrs : List PV → Bool
  | [] => true
  | x :: xs => PV.nr x && nrs xs
theorem frz_nr {M M' : MM} : ∀ (n : Nat) (p : PV), PV.nr p = true → frz M M' n p = p := by
  intro n
  induction n with
  | zero => intro p _; cases p <;> rfl
  | succ n ih =>
    intro p h
    cases p with
    | ref a => cases h
    | tup xs =>
      have h : PV.nr.nrs xs = true := h
      have q : xs.map (frz M M' n) = xs := by
        induction xs with
        | nil => rfl
        | cons x xs ihx =>
          have h : (PV.nr x && PV.nr.nrs xs) = true := h
          rw [Bool.and_eq_true] at h
          rw [List.map_cons, ih x h.1, ihx h.2 h.2]
      show PV.tup (xs.map (frz M M' n)) = _
      rw [q]
    | non => rfl
    | bl _ => rfl
    | int _ => rfl
    | str _ => rfl
    | lst _ => rfl
    | rol _ => rfl
@[simp] theorem frz_non {M M' : MM} {n : Nat} : frz M M' n .non = .non := by cases n <;> rfl
@[simp] theorem frz_bl {M M' : MM} {n : Nat} {b : Bool} : frz M M' n (.bl b) = .bl b := by cases n <;> rfl
@[simp] theorem frz_int {M M' : MM} {n : Nat} {b : Int} : frz M M' n (.int b) = .int b := by cases n <;> rfl
@[simp] theorem frz_str {M M' : MM} {n : Nat} {b : String} : frz M M' n (.str b) = .str b := by cases n <;> rfl
@[simp] theorem frz_lst {M M' : MM} {n : Nat} {b : List PV} : frz M M' n (.lst b) = .lst b := by cases n <;> rfl
@[simp] theorem frz_rol {M M' : MM} {n : Nat} {b : List PV} : frz M M' n (.rol b) = .rol b := by cases n <;> rfl
@[simp] theorem sub_t0 {a : PV} {xs : List PV} : wSub (.tup (a :: xs)) (.int 0) M Q X = Q a M := by
  have e : (idx? (a :: xs).length 0) = some 0 := by unfold idx?; rw [if_pos (by decide), if_pos (by first | (simp; done) | (simp; omega))]; rfl
  show (match (idx? (a :: xs).length 0).bind ((a :: xs)[·]?) with | some v => Q v M | none => False) = _
  rw [e]; rfl
@[simp] theorem sub_t1 {a b : PV} {xs : List PV} : wSub (.tup (a :: b :: xs)) (.int 1) M Q X = Q b M := by
  have e : (idx? (a :: b :: xs).length 1) = some 1 := by unfold idx?; rw [if_pos (by decide), if_pos (by first | (simp; done) | (simp; omega))]; rfl
  show (match (idx? (a :: b :: xs).length 1).bind ((a :: b :: xs)[·]?) with | some v => Q v M | none => False) = _
  rw [e]; rfl
theorem sub_at {x : PV} {xs : List PV} {i : Int} {v : PV} (h : itemsR M x = some xs) (hi : (idx? xs.length i).bind (xs[·]?) = some v) : wSub x (.int i) M Q X = Q v M := by
  show (match itemsR M x, PV.int i with
    | some xs, .int i => (match (idx? xs.length i).bind (xs[·]?) with | some v => Q v M | none => False)
    | _, _ => False) = _
  rw [h]
  dsimp only
  rw [hi]
theorem idx_nat {α : Type} {xs : List α} {i : Nat} (h : i < xs.length) : (idx? xs.length (i : Int)).bind (xs[·]?) = xs[i]? := by
  unfold idx?
  rw [if_pos (by omega), if_pos (by omega)]
  simp
end
section
variable {M : MM} {X : XK} {Q : PV → MM → Prop} {a : Nat} {ys : List PV}
@[simp] theorem mb_app {x : PV} : wMb (.ref a) "append" [x] (upd M a (.lst ys)) Q X = (ys.length < line ∧ Q .non (upd M a (.lst (ys ++ [x])))) := by
  unfold wMb
  simp
@[simp] theorem mb_ext {x : PV} {zs : List PV} (h : listOf (upd M a (.lst ys)) x = some zs) : wMb (.ref a) "extend" [x] (upd M a (.lst ys)) Q X = (ys.length + zs.length ≤ line ∧ Q .non (upd M a (.lst (ys ++ zs)))) := by
  unfold wMb
  simp [h]
theorem mb_popl {y : PV} (h : ys.getLast? = some y) : wMb (.ref a) "pop" [] (upd M a (.lst ys)) Q X = Q y (upd M a (.lst ys.dropLast)) := by
  unfold wMb
  simp [h]
@[simp] theorem lo_upd : listOf (upd M a (.lst ys)) (.ref a) = some ys := lo_ref upd_s
@[simp] theorem io_upd : itemsOf (upd M a (.lst ys)) (.ref a) = some ys := io_ref upd_s
@[simp] theorem ir_upd : itemsR (upd M a (.lst ys)) (.ref a) = some ys := ir_ref upd_s
@[simp] theorem rd_upd : rd (upd M a (.lst ys)) (.ref a) = .lst ys := rd_ref upd_s
end
theorem frz_tup {M M' : MM} {n : Nat} {xs : List PV} : frz M M' (n + 1) (.tup xs) = .tup (xs.map (frz M M' n)) := by rw [frz]
section
variable {M : MM} {X : XK} {Q : PV → MM → Prop} {QM : MM → Prop} {a : Nat} {v0 v1 v2 v : PV} {r : List PV}
@[simp] theorem sub_u0 : wSub (.ref a) (.int 0) (upd M a (.lst [v0, v1, v2])) Q X = Q v0 (upd M a (.lst [v0, v1, v2])) := sub_at ir_upd rfl
@[simp] theorem sub_u1 : wSub (.ref a) (.int 1) (upd M a (.lst [v0, v1, v2])) Q X = Q v1 (upd M a (.lst [v0, v1, v2])) := sub_at ir_upd rfl
@[simp] theorem sub_u2 : wSub (.ref a) (.int 2) (upd M a (.lst [v0, v1, v2])) Q X = Q v2 (upd M a (.lst [v0, v1, v2])) := sub_at ir_upd rfl
theorem store_u {k : Int} {i : Nat} {xs : List PV} (hi : idx? xs.length k = some i) : wStore (.ref a) (.int k) v (upd M a (.lst xs)) QM = QM (upd M a (.lst (xs.set i v))) := by
  unfold wStore
  simp [hi]
@[simp] theorem st_u0 : wStore (.ref a) (.int 0) v (upd M a (.lst [v0, v1, v2])) QM = QM (upd M a (.lst [v, v1, v2])) := store_u (i := 0) rfl
@[simp] theorem st_u1 : wStore (.ref a) (.int 1) v (upd M a (.lst [v0, v1, v2])) QM = QM (upd M a (.lst [v0, v, v2])) := store_u (i := 1) rfl
@[simp] theorem st_u2 : wStore (.ref a) (.int 2) v (upd M a (.lst [v0, v1, v2])) QM = QM (upd M a (.lst [v0, v1, v])) := store_u (i := 2) rfl
end
section
variable {M : MM} {X : XK}
@[simp] theorem c_isN {v : PV} {QB : Bool → MM → Prop} : wCmp .is v .non M QB X = QB (match v with | .non => true | _ => false) M := rfl
end
@[simp ↓] theorem h_cons' {G : Gl} {call : CallT} {d : String} {i : Option Nat} {b : CSs} {r : CHs} {c : String} {fs : List (String × PV)} {env : Env} {M : MM} {D : Ends} {X : XE} : wHs G call (.cons d i b r) c fs env M D X = (match G.excs c with
    | some (ups, _) => if ups.contains d = true then
        (match i with
         | none => wSs G call b env M D (fun _ _ _ _ => False)
         | some k => wSs G call b ((dropX env).set k (some (.exc c fs))) M { nx := fun env' M' => D.nx (dropX (env'.set k none)) M', rt := D.rt, bk := fun env' M' => D.bk (dropX (env'.set k none)) M', ct := fun env' M' => D.ct (dropX (env'.set k none)) M' } (fun _ _ _ _ => False))
      else wHs G call r c fs env M D X
    | none => False) := rfl
@[simp] theorem c_eqIN {i : Int} {M : MM} {X : XK} {QB : Bool → MM → Prop} : wCmp .eq (.int i) .non M QB X = QB false M := by
  have e : wCmp .eq (.int i) .non M QB X = (true = true ∧ true = true ∧ QB false M) := rfl
  rw [e]; simp
section
variable {G : Gl} {call : CallT} {env : Env} {M : MM} {X : XK} {Q : PV → MM → Prop} {D : Ends} {XX : XE}
@[simp ↓] theorem d_star {e r} {Q : List PV → MM → Prop} : wD G call (.star e r) env M Q X = wE G call e env M (fun x M1 => match itemsOf M1 x with | some ys => wD G call r env M1 (fun xs M2 => Q (ys ++ xs) M2) X | none => False) X := (rfl)
@[simp ↓] theorem f_ofl {e} {Q : List PV → MM → Prop} : wF G call (.ofl e) env M Q X = wE G call e env M (fun x M1 => match itemsOf M1 x with | some xs => Q xs M1 | none => False) X := (rfl)
@[simp ↓] theorem e_att {e f} : wE G call (.att e f) env M Q X = wE G call e env M (fun x M1 => match x with
    | .ref a => (match M1 a with
      | some (.ins c fs) => (match G.clss c with
        | some cc => (match cc.props.lookup f with
          | some d => call (.fn d) ⟨[.pv (.ref a)], []⟩ M1 Q noX
          | none => cc.flds.contains f = true ∧ (match fs.lookup f with | some v => Q v M1 | none => False))
        | none => False)
      | _ => False)
    | _ => False) X := (rfl)
@[simp ↓] theorem e_mth {e m es} : wE G call (.mth e m es) env M Q X = wE G call e env M (fun x M1 => match x with
    | .ref a => (match M1 a with
      | some (.ins c fs) => (match (G.clss c).bind (·.meths.lookup m) with
        | some d => fs.lookup m = none ∧ wA G call es env M1 (fun as M2 => call (.fn d) ⟨.pv (.ref a) :: as.pos, as.kw⟩ M2 Q X) X
        | none => False)
      | _ => False)
    | _ => False) X := (rfl)
@[simp ↓] theorem e_new {c es} : wE G call (.new c es) env M Q X = (match (G.clss c).bind (·.init) with
    | some d => wA G call es env M (fun as M1 => ∀ a, M1 a = none → call (.fn d) ⟨.pv (.ref a) :: as.pos, as.kw⟩ (upd M1 a (.ins c [])) (fun v M2 => v = .non ∧ Q (.ref a) M2) X) X
    | none => False) := (rfl)
@[simp ↓] theorem e_ide {ne a b} : wE G call (.ide ne a b) env M Q X = wE G call a env M (fun x M1 => wE G call b env M1 (fun y M2 => match x, y with
    | .ref p, .ref q => (match M2 p, M2 q with
      | some (.ins c _), some (.ins d _) => ((G.clss c).any (·.plain) = true ∧ (G.clss d).any (·.plain) = true) ∧ Q (.bl (if ne = true then !decide (p = q) else decide (p = q))) M2
      | _, _ => False)
    | _, _ => False) X) X := (rfl)
@[simp ↓] theorem i_rng2' {a b} {Q : List PV → (MM → Prop) → MM → Prop} : wI G call (.rng2 a b) env M Q X = wE G call a env M (fun x M1 => wE G call b env M1 (fun y M2 => match x, y with | .int i, .int j => big62 i ∧ big62 j ∧ Q (upTo i (j - i).toNat) (fun _ => True) M2 | _, _ => False) X) X := (rfl)
@[simp ↓] theorem i_rng3' {a b c} {Q : List PV → (MM → Prop) → MM → Prop} : wI G call (.rng3 a b c) env M Q X = wE G call a env M (fun x M1 => wE G call b env M1 (fun y M2 => wE G call c env M2 (fun z M3 => match x, y, z with
    | .int i, .int j, .int k => ((0 < k ∧ k ≤ 1000) ∧ mid i ∧ mid j) ∧ Q (byStep i k (stepN i j k)) (fun _ => True) M3
    | _, _, _ => False) X) X) X := (rfl)
@[simp ↓] theorem t_att' {e f v} {Q : Env → MM → Prop} : wT G call (.att e f) v env M Q X = wE G call e env M (fun o M1 => match o with
    | .ref a => (match M1 a with
      | some (.ins c fs) => ((G.clss c).any (·.flds.contains f) = true ∧ fs.length < 100) ∧ Q env (upd M1 a (.ins c (putF f v fs)))
      | _ => False)
    | _ => False) noX := (rfl)
@[simp ↓] theorem s_whl' {c b} : wS G call (.whl c b) env M D XX = (∃ n, whileN (fun env M Q => wC G call c env M Q (XX env)) (fun env M D => wSs G call b env M D XX) D n env M) := (rfl)
@[simp ↓] theorem s_pass' : wS G call .pass env M D XX = D.nx env M := (rfl)
@[simp ↓] theorem s_retn' : wS G call .retn env M D XX = D.rt .non M := (rfl)
@[simp ↓] theorem s_brk' : wS G call .brk env M D XX = D.bk env M := (rfl)
@[simp ↓] theorem s_cont' : wS G call .cont env M D XX = D.ct env M := (rfl)
end
/-- a comprehension without a test whose items change nothing -/
theorem comp_pure {t : PV → Env → MM → (Env → MM → Prop) → Prop} {el : Env → MM → (PV → MM → Prop) → Prop} {env : Env} {f : PV → PV} {M : MM} {QL : List PV → MM → Prop} : ∀ (xs acc : List PV), (∀ x ∈ xs, ∀ K : PV → MM → Prop, K (f x) M → t x env M (fun env1 M1 => el env1 M1 K)) → acc.length + xs.length ≤ 1000000 → QL (acc ++ xs.map f) M →
    compL (fun _ => True) t (fun env M Q => Q true M) el env QL xs acc M := by
  intro xs
  induction xs with
  | nil => intro acc _ _ h; exact ⟨trivial, by simpa using h⟩
  | cons x xs ih =>
    intro acc hs hl h
    have hline : line = 16777216 := rfl
    refine ⟨trivial, ?_⟩
    have q := hs x List.mem_cons_self (fun y M3 => acc.length < line ∧ compL (fun _ => True) t (fun env M Q => Q true M) el env QL xs (acc ++ [y]) M3) ⟨by rw [List.length_cons] at hl; omega, ih (acc ++ [f x]) (fun z hz => hs z (List.mem_cons_of_mem _ hz)) (by rw [List.length_append]; rw [List.length_cons] at hl; simp; omega) (by simpa using h)⟩
    exact q
theorem frz_new {M M' : MM} {a k : Nat} {xs : List PV} (h : M a = none) : frz M (upd M' a (.lst xs)) (k + 1) (.ref a) = .lst (xs.map (frz M (upd M' a (.lst xs)) k)) := by
  rw [frz, h]
  simp
theorem frz_map_int {M M' : MM} {k : Nat} (l : List Int) : (l.map PV.int).map (frz M M' k) = l.map PV.int := by
  rw [List.map_map]
  exact List.map_congr_left fun i _ => frz_int
theorem wNi_lst {x : PV} {ys : List PV} {M : MM} {QB : Bool → MM → Prop} {X : XK} : wCmp .notin x (.lst ys) M QB X = (PV.dat 50 x = true ∧ ys.all (PV.dat 49) = true ∧ QB (!(ys.any fun z => PV.eqv z x)) M) := rfl
theorem wIn_lst {x : PV} {ys : List PV} {M : MM} {QB : Bool → MM → Prop} {X : XK} : wCmp .isin x (.lst ys) M QB X = (PV.dat 50 x = true ∧ ys.all (PV.dat 49) = true ∧ QB (ys.any fun z => PV.eqv z x) M) := rfl
@[simp] theorem sub_l0 {v : PV} {xs : List PV} {M : MM} {Q : PV → MM → Prop} {X : XK} : wSub (.lst (v :: xs)) (.int 0) M Q X = Q v M := by
  refine sub_at (xs := v :: xs) rfl ?_
  unfold idx?
  rw [if_pos (by decide), if_pos (by rw [List.length_cons]; omega)]
  rfl
end IB
end

section
set_option Elab.async false
set_option linter.all false
set_option maxRecDepth 100000
set_option maxHeartbeats 400000
namespace LW
open IB
section
variable {n : Nat} {M : MM} {X : XK} {Q : PV → MM → Prop}
theorem call0 {f : String} {as : Args} {d : CDef} {svs : List SV} (hd : LD.G.defs f = some d) (hm : d.mode = 0) (hk : kwOk d.ps as.pos.length (as.kw.map (·.1)) = true) (hb : bindA d.ps as.pos as.kw = some svs)
    (h : wSs LD.G (cal LD.G n) d.body (startE d.slots svs) M ⟨fun _ M' => Q .non (restr M M'), fun r M' => Q (frz M M' 4 r) (restr M M'), fun _ _ => False, fun _ _ => False⟩ (fun _ c fs M' => X c (fs.map fun p => (p.1, frz M M' 4 p.2)) (restr M M'))) : cal LD.G (n + 1) (.fn f) as M Q X := cal_0 hd hm hk hb h
theorem call1 {f : String} {as : Args} {d : CDef} {svs : List SV} (hd : LD.G.defs f = some d) (hm : d.mode = 1) (hk : kwOk d.ps as.pos.length (as.kw.map (·.1)) = true) (hb : bindA d.ps as.pos as.kw = some svs)
    (h : wSs LD.G (cal LD.G n) d.body (startE d.slots svs) M ⟨fun _ M' => Q .non M', Q, fun _ _ => False, fun _ _ => False⟩ (fun _ => X)) : cal LD.G (n + 1) (.fn f) as M Q X := cal_1 hd hm hk hb h
def isInt : PV → Bool
  | .int _ => true
  | _ => false
@[simp] theorem start1 {a : SV} {n : Nat} : startE n [a] = some a :: List.replicate (n - 1) none := rfl
@[simp] theorem start2 {a b : SV} {n : Nat} : startE n [a, b] = some a :: some b :: List.replicate (n - 2) none := rfl
@[simp] theorem start3 {a b c : SV} {n : Nat} : startE n [a, b, c] = some a :: some b :: some c :: List.replicate (n - 3) none := rfl
@[simp] theorem start4 {a b c d : SV} {n : Nat} : startE n [a, b, c, d] = some a :: some b :: some c :: some d :: List.replicate (n - 4) none := rfl
theorem s_is_whole {v : PV} (hv : ∀ a, v ≠ .ref a) (h : Q (.bl (isInt v)) M) : cal LD.G (n + 1) (.fn "is_whole") ⟨[.pv v], []⟩ M Q X := by
  refine call0 (d := d_is_whole) (svs := [.pv v]) rfl rfl rfl rfl ?_
  unfold d_is_whole
  cases v with
  | ref a => exact absurd rfl (hv a)
  | int i => simp [isOf, frz_nr, PV.nr]; exact h
  | bl i => simp [isOf, frz_nr, PV.nr]; exact h
  | non => simp [isOf, frz_nr, PV.nr]; exact h
  | str i => simp [isOf, frz_nr, PV.nr]; exact h
  | tup i => simp [isOf, frz_nr, PV.nr]; exact h
  | lst i => simp [isOf, frz_nr, PV.nr]; exact h
  | rol i => simp [isOf, frz_nr, PV.nr]; exact h
def btw (v : PV) (lo hi : Int) : Bool := match v with
  | .int i => decide (lo ≤ i) && decide (i ≤ hi)
  | _ => false
theorem s_is_between {v : PV} {lo hi : Int} (hv : ∀ a, v ≠ .ref a) (h : Q (.bl (btw v lo hi)) M) : cal LD.G (n + 2) (.fn "is_between") ⟨[.pv v, .pv (.int lo), .pv (.int hi)], []⟩ M Q X := by
  refine call0 (d := d_is_between) (svs := [.pv v, .pv (.int lo), .pv (.int hi)]) rfl rfl rfl rfl ?_
  unfold d_is_between
  simp
  refine s_is_whole hv ?_
  cases v with
  | int i =>
    simp [isInt, frz_nr, PV.nr]
    by_cases c : lo ≤ i
    · simp [c, frz_nr, PV.nr]; simpa [btw, c] using h
    · simp [c, frz_nr, PV.nr]; simpa [btw, c] using h
  | _ => simp [isInt, frz_nr, PV.nr]; exact h
theorem s_is_up_to {v : PV} {hi : Int} (hv : ∀ a, v ≠ .ref a) (h : Q (.bl (btw v 0 hi)) M) : cal LD.G (n + 3) (.fn "is_up_to") ⟨[.pv v, .pv (.int hi)], []⟩ M Q X := by
  refine call0 (d := d_is_up_to) (svs := [.pv v, .pv (.int hi)]) rfl rfl rfl rfl ?_
  unfold d_is_up_to
  simp
  refine s_is_between hv ?_
  simp [frz_nr, PV.nr]; exact h
/-- the first item that may not stand there -/
def wrongFrom (p : List PV → PV → Bool) (most : Nat) : List PV → List PV → Option Nat
  | _, [] => none
  | ahead, x :: r => if (ahead.length == most || !p ahead x) = true then some ahead.length else wrongFrom p most (ahead ++ [x]) r
theorem slice_take {xs : List PV} {k : Nat} (h : k ≤ xs.length) : sliceOf xs none (some (k : Int)) = xs.take k := by
  have e : clampIx xs.length (k : Int) = k := by
    unfold clampIx
    rw [if_neg (by omega)]
    simp [h]
  unfold sliceOf
  simp [e]
theorem loop_wrong {sv : SV} {p : List PV → PV → Bool} {most least : Nat} {xs : List PV} {D : Ends} {XX : XE} (hsv : (∃ f, sv = .fn f) ∨ ∃ np b c, sv = .clo np b c)
    (hcall : ∀ (ahead : List PV) (each : PV) (k : Nat) (M : MM) (Q : PV → MM → Prop) (X : XK), xs[k]? = some each → ahead = xs.take k → (∀ j y, j < k → xs[j]? = some y → p (xs.take j) y = true) → Q (.bl (p ahead each)) M → cal LD.G n sv ⟨[.pv (.tup ahead), .pv each], []⟩ M Q X) :
    ∀ (rest ahead : List PV) (e4 e5 : Option SV), xs = ahead ++ rest → (∀ j y, j < ahead.length → xs[j]? = some y → p (xs.take j) y = true) → (match wrongFrom p most ahead rest with | some i => D.rt (.lst [.int i]) M | none => ∀ e4 e5, D.nx [some (.pv (.tup xs)), some (.pv (.int least)), some (.pv (.int most)), some sv, e4, e5] M) →
    forL (fun _ => True) (fun v env M Q => wT LD.G (cal LD.G n) d_wrong_in_t1 v env M Q (XX env)) (fun env M D => wSs LD.G (cal LD.G n) d_wrong_in_b2 env M D XX) D ((rest.zipIdx ahead.length).map fun (x, i) => .tup [.int i, x]) [some (.pv (.tup xs)), some (.pv (.int least)), some (.pv (.int most)), some sv, e4, e5] M := by
  intro rest
  induction rest with
  | nil =>
    intro ahead e4 e5 he hpv h
    exact ⟨trivial, h e4 e5⟩
  | cons x r ih =>
    intro ahead e4 e5 he hpv h
    refine ⟨trivial, ?_⟩
    dsimp only
    rw [d_wrong_in_t1_u]
    have hx : xs[ahead.length]? = some x := by rw [he]; simp
    have ht : ahead = xs.take ahead.length := by rw [he]; simp
    have hl : ahead.length ≤ xs.length := by rw [he]; simp
    simp [tgLen]
    rw [d_wrong_in_b2_u]
    unfold wrongFrom at h
    by_cases c : ahead.length = most
    · have c' : (ahead.length : Int) = most := by omega
      simp [c', isNon]
      rw [if_pos (by simp [c])] at h
      rw [c] at h
      exact ⟨by decide, h⟩
    · have c' : ¬ (ahead.length : Int) = most := by omega
      have fin : ∀ M', M' = M → (if (!p ahead x) = true then D.rt (.lst [.int ahead.length]) M' else forL (fun _ => True) (fun v env M Q => wT LD.G (cal LD.G n) d_wrong_in_t1 v env M Q (XX env)) (fun env M D => wSs LD.G (cal LD.G n) d_wrong_in_b2 env M D XX) D ((r.zipIdx (ahead.length + 1)).map fun (x, i) => .tup [.int i, x]) [some (.pv (.tup xs)), some (.pv (.int least)), some (.pv (.int most)), some sv, some (.pv (.int ahead.length)), some (.pv x)] M') := by
        rintro M' rfl
        cases hp : p ahead x with
        | false =>
          rw [if_pos (by simp [hp])] at h
          exact h
        | true =>
          rw [if_neg (by simp [hp, c])] at h
          have q := ih (ahead ++ [x]) (some (.pv (.int ahead.length))) (some (.pv x)) (by rw [he]; simp) (fun j y hj hy => by
            rw [List.length_append] at hj
            by_cases hj2 : j < ahead.length
            · exact hpv j y hj2 hy
            · have e : j = ahead.length := by simp at hj; omega
              subst e
              rw [hx] at hy
              cases hy
              rw [← ht]; exact hp) h
          rw [List.length_append] at q
          exact q
      have f0 := fin M rfl
      have l1 : 1 ≤ line := by decide
      rcases hsv with ⟨f, rfl⟩ | ⟨np, b, cc, rfl⟩
      · simp [c', isNon, slice_take hl]
        refine hcall _ x ahead.length M _ _ hx rfl hpv ?_
        rw [← ht]
        cases hp : p ahead x with
        | false => simpa [hp, l1] using f0
        | true => simpa [hp, l1] using f0
      · simp [c', isNon, slice_take hl]
        refine hcall _ x ahead.length M _ _ hx rfl hpv ?_
        rw [← ht]
        cases hp : p ahead x with
        | false => simpa [hp, l1] using f0
        | true => simpa [hp, l1] using f0
/-- wrong_in: what comes back -/
def wrongRes (p : List PV → PV → Bool) (least most : Nat) : PV → PV
  | .tup xs => if xs.length < least then .lst [.non] else match wrongFrom p most [] xs with | some i => .lst [.int i] | none => .lst []
  | _ => .lst [.non]
theorem s_wrong_in {sv : SV} {p : List PV → PV → Bool} {least most : Nat} {v : PV} (hv : ∀ a, v ≠ .ref a) (hsv : (∃ f, sv = .fn f) ∨ ∃ np b c, sv = .clo np b c)
    (hcall : ∀ xs, v = .tup xs → ∀ (ahead : List PV) (each : PV) (k : Nat) (M : MM) (Q : PV → MM → Prop) (X : XK), xs[k]? = some each → ahead = xs.take k → (∀ j y, j < k → xs[j]? = some y → p (xs.take j) y = true) → Q (.bl (p ahead each)) M → cal LD.G n sv ⟨[.pv (.tup ahead), .pv each], []⟩ M Q X)
    (h : Q (wrongRes p least most v) M) : cal LD.G (n + 1) (.fn "wrong_in") ⟨[.pv v, .pv (.int least), .pv (.int most), sv], []⟩ M Q X := by
  have l1 : 1 ≤ line := by decide
  refine call0 (d := d_wrong_in) (svs := [.pv v, .pv (.int least), .pv (.int most), sv]) rfl rfl rfl rfl ?_
  unfold d_wrong_in
  cases v with
  | ref a => exact absurd rfl (hv a)
  | tup xs =>
    rw [s_cons', s_ife']
    have e : wC LD.G (cal LD.G n) (.or (.not (.isi (.var 0) .tuple)) (.cmp .lt (.bi .len (.pos (.var 0) .nil)) (.var 1))) (startE 6 [.pv (.tup xs), .pv (.int least), .pv (.int most), sv]) M = fun Q X => Q (decide (xs.length < least)) M := by
      funext Q X
      simp [isOf]
    rw [e]
    dsimp only
    unfold wrongRes at h
    dsimp only at h
    by_cases c : xs.length < least
    · rw [if_pos (by simpa using c)]
      rw [if_pos c] at h
      simp [l1]
      exact h
    · rw [if_neg (by simpa using c)]
      rw [if_neg c] at h
      rw [s_nil']
      dsimp only
      rw [s_cons', s_for']
      simp only [i_enum', e_var, start4, sl0, sq_tup]
      refine loop_wrong (p := p) hsv (hcall xs rfl) xs [] none none rfl (fun j y hj _ => by simp at hj) ?_
      cases hw : wrongFrom p most [] xs with
      | none =>
        rw [hw] at h
        intro e4 e5
        simpa [l1] using h
      | some i =>
        rw [hw] at h
        simpa [l1] using h
  | non => simp [isOf, l1]; exact h
  | bl b => simp [isOf, l1]; exact h
  | int b => simp [isOf, l1]; exact h
  | str b => simp [isOf, l1]; exact h
  | lst b => simp [isOf, l1]; exact h
  | rol b => simp [isOf, l1]; exact h
theorem frz_wrong {p : List PV → PV → Bool} {least most : Nat} {v : PV} {M' : MM} : frz M M' 4 (wrongRes p least most v) = wrongRes p least most v := by
  unfold wrongRes
  cases v with
  | tup xs =>
    dsimp only
    by_cases c : xs.length < least
    · rw [if_pos c]; simp
    · rw [if_neg c]
      cases wrongFrom p most [] xs <;> simp
  | _ => simp
theorem wrongFrom_ok {p : List PV → PV → Bool} {most : Nat} : ∀ (rest ahead : List PV), ahead.length + rest.length ≤ most → (∀ (k : Nat) x, rest[k]? = some x → p (ahead ++ rest.take k) x = true) → wrongFrom p most ahead rest = none
  | [], _, _, _ => rfl
  | x :: r, ahead, hl, h => by
    unfold wrongFrom
    have h0 := h 0 x rfl
    simp at h0
    simp at hl
    rw [if_neg (by simp [h0]; omega)]
    refine wrongFrom_ok r (ahead ++ [x]) (by simp; omega) fun k y hy => ?_
    have := h (k + 1) y (by simpa using hy)
    simpa using this
end
end LW
end

section
set_option Elab.async false
set_option linter.all false
set_option maxRecDepth 100000
set_option maxHeartbeats 400000
namespace LW
open IB
section
variable {n : Nat} {M : MM} {X : XK} {Q : PV → MM → Prop}
def well (x y z : Int) : MO := .lst [.int x, .int y, .int z]
theorem s_law_draw {a : Nat} {x y z limit : Int} (h0 : M a = some (well x y z)) (hx : 0 ≤ x) (hl : 0 < limit) (hl2 : limit < 1000000) (h : ∀ r x' y' z' : Int, 0 ≤ r → r < limit → 0 ≤ x' → Q (.int r) (upd M a (well x' y' z'))) : cal LD.G (n + 1) (.fn "_law_draw") ⟨[.pv (.ref a), .pv (.int limit)], []⟩ M Q X := by
  have e0 : M = upd M a (.lst [.int x, .int y, .int z]) := (upd_id h0).symm
  have hs : (M a).isSome = true := by rw [h0]; rfl
  have rs : ∀ o, restr M (upd M a o) = upd M a o := fun o => by rw [restr_old hs, restr_self]
  refine call0 (d := d__law_draw) (svs := [.pv (.ref a), .pv (.int limit)]) rfl rfl rfl rfl ?_
  suffices q : wSs LD.G (cal LD.G n) d__law_draw.body (startE 4 [.pv (.ref a), .pv (.int limit)]) (upd M a (.lst [.int x, .int y, .int z])) ⟨fun _ M' => Q .non (restr M M'), fun r M' => Q (frz M M' 4 r) (restr M M'), fun _ _ => False, fun _ _ => False⟩ (fun _ c fs M' => X c (fs.map fun p => (p.1, frz M M' 4 p.2)) (restr M M')) by
    rw [← e0] at q
    exact q
  unfold d__law_draw
  simp [tgLen]
  by_cases c : 0 < x
  · simp [c]
    refine ⟨⟨by omega, by omega⟩, ?_⟩
    rw [rs]
    exact h _ _ _ _ (Int.emod_nonneg _ (by omega)) (Int.emod_lt_of_pos _ hl) (Int.ediv_nonneg hx (by omega))
  · simp [c]
    refine ⟨.inr (by decide), .inl (by decide), .inr ?_, hl, ?_⟩
    · have h1 := Int.emod_nonneg ((y * 40009 + 15013 * (z + 1) + 3) % 2147483587) (b := 5003) (by decide)
      have h2 := Int.emod_lt_of_pos ((y * 40009 + 15013 * (z + 1) + 3) % 2147483587) (b := 5003) (by decide)
      constructor <;> omega
    · rw [rs]
      exact h _ _ _ _ (Int.emod_nonneg _ (by omega)) (Int.emod_lt_of_pos _ hl) hx
theorem s_law_of {a : Nat} {x y z : Int} {xs : List Int} (h0 : M a = some (well x y z)) (hx : 0 ≤ x) (hl : xs ≠ []) (hl2 : xs.length < 1000) (h : ∀ v ∈ xs, ∀ x' y' z' : Int, 0 ≤ x' → Q (.int v) (upd M a (well x' y' z'))) : cal LD.G (n + 2) (.fn "_law_of") ⟨[.pv (.ref a), .pv (.tup (xs.map .int))], []⟩ M Q X := by
  have hs : (M a).isSome = true := by rw [h0]; rfl
  have hp : 0 < xs.length := by cases xs with | nil => exact absurd rfl hl | cons _ _ => simp
  refine call0 (d := d__law_of) (svs := [.pv (.ref a), .pv (.tup (xs.map .int))]) rfl rfl rfl rfl ?_
  unfold d__law_of
  simp
  refine s_law_draw h0 hx (by omega) (by omega) fun r x' y' z' h1 h2 h3 => ?_
  obtain ⟨k, rfl⟩ := Int.eq_ofNat_of_zero_le h1
  have hk : k < xs.length := by omega
  have e := idx_nat (xs := xs.map PV.int) (i := k) (by simpa using hk)
  rw [sub_at (v := .int xs[k]) rfl (by rw [e, List.getElem?_map, List.getElem?_eq_getElem hk]; rfl)]
  simp
  rw [restr_old hs, restr_self]
  exact h _ (List.getElem_mem hk) _ _ _ h3
/-- data without places: ints, None, lists of such, tuples of data -/
inductive Dat : Nat → PV → Prop
  | int {d i} : Dat d (.int i)
  | non {d} : Dat d .non
  | str {d s} : Dat d (.str s)
  | lst {d xs} (h : ∀ x ∈ xs, x = .non ∨ ∃ i, x = .int i) (hl : xs.length ≤ 900) : Dat d (.lst xs)
  | tup {d xs} (h : ∀ x ∈ xs, Dat d x) (hl : xs.length ≤ 900) : Dat (d + 1) (.tup xs)
theorem eqv_flat : ∀ {xs : List PV}, (∀ x ∈ xs, x = .non ∨ ∃ i, x = .int i) → PV.eqvs xs xs = true
  | [], _ => rfl
  | x :: xs, h => by
    have e : PV.eqv x x = true := by
      rcases h x List.mem_cons_self with rfl | ⟨i, rfl⟩
      · rfl
      · show (i == i) = true; simp
    show (PV.eqv x x && PV.eqvs xs xs) = true
    rw [e, eqv_flat fun y hy => h y (List.mem_cons_of_mem _ hy)]; rfl
theorem dat_flat {xs : List PV} (h : ∀ x ∈ xs, x = .non ∨ ∃ i, x = .int i) : PV.dat 50 (.lst xs) = true := by
  show xs.all (PV.dat 49) = true
  rw [List.all_eq_true]
  intro x hx
  rcases h x hx with rfl | ⟨i, rfl⟩ <;> rfl
theorem s_same_int {i : Int} (h : Q (.bl true) M) : cal LD.G (n + 1) (.fn "_law_same") ⟨[.pv (.int i), .pv (.int i)], []⟩ M Q X := by
  refine call0 (d := d__law_same) (svs := [.pv (.int i), .pv (.int i)]) rfl rfl rfl rfl ?_
  unfold d__law_same
  simp [isOf]
  exact h
theorem s_same_non (h : Q (.bl true) M) : cal LD.G (n + 1) (.fn "_law_same") ⟨[.pv .non, .pv .non], []⟩ M Q X := by
  refine call0 (d := d__law_same) (svs := [.pv .non, .pv .non]) rfl rfl rfl rfl ?_
  unfold d__law_same
  simp [isOf]
  exact h
theorem s_same_str {s : String} (h : Q (.bl true) M) : cal LD.G (n + 1) (.fn "_law_same") ⟨[.pv (.str s), .pv (.str s)], []⟩ M Q X := by
  refine call0 (d := d__law_same) (svs := [.pv (.str s), .pv (.str s)]) rfl rfl rfl rfl ?_
  unfold d__law_same
  have e : ∀ {QB : Bool → MM → Prop} {M : MM} {X : XK}, wCmp .eq (.str s) (.str s) M QB X = QB true M := by
    intro QB M X
    rw [wEq_def, show rd M (.str s) = .str s from rfl, show PV.dat 50 (.str s) = true from rfl, show PV.eqv (.str s) (.str s) = true from by show (s == s) = true; simp]
    simp
  simp [isOf, e]
  exact h
theorem s_same_lst {xs : List PV} (hx : ∀ x ∈ xs, x = .non ∨ ∃ i, x = .int i) (h : Q (.bl true) M) : cal LD.G (n + 1) (.fn "_law_same") ⟨[.pv (.lst xs), .pv (.lst xs)], []⟩ M Q X := by
  refine call0 (d := d__law_same) (svs := [.pv (.lst xs), .pv (.lst xs)]) rfl rfl rfl rfl ?_
  unfold d__law_same
  have d1 := dat_flat hx
  have e1 : PV.eqv (.lst xs) (.lst xs) = true := eqv_flat hx
  have eb : ∀ {b : Bool} {QB : Bool → MM → Prop} {M : MM} {X : XK}, wCmp .eq (.bl b) (.bl b) M QB X = QB true M := by
    intro b QB M X
    cases b <;> (show (true = true ∧ true = true ∧ QB true M) = _; simp)
  have el : ∀ {QB : Bool → MM → Prop} {M : MM} {X : XK}, wCmp .eq (.lst xs) (.lst xs) M QB X = QB true M := by
    intro QB M X
    rw [wEq_def, show rd M (.lst xs) = .lst xs from rfl, d1, e1]; simp
  simp [isOf, eb, el]
  exact h
theorem comp_same {xs : List PV} {x2 x3 : Option SV} {QL : List PV → MM → Prop} (hc : ∀ x ∈ xs, ∀ (Q : PV → MM → Prop) (X : XK), Q (.bl true) M → cal LD.G n (.fn "_law_same") ⟨[.pv x, .pv x], []⟩ M Q X) :
    ∀ (m k : Nat) (acc : List PV), k + m = xs.length → acc.length + m ≤ 1000 → QL (acc ++ List.replicate m (.bl true)) M →
    compL (fun _ => True) (fun v env M Q => wT LD.G (cal LD.G n) d__law_same_t1 v env M Q noX) (fun env M Q => Q true M) (fun env M Q => wE LD.G (cal LD.G n) d__law_same_e2 env M Q noX) [some (.pv (.tup xs)), some (.pv (.tup xs)), x2, x3] QL ((List.range' k m).map fun (i : Nat) => PV.int (i : Int)) acc M := by
  intro m
  induction m with
  | zero =>
    intro k acc _ _ h
    exact ⟨trivial, by simpa using h⟩
  | succ m ih =>
    intro k acc hk hle h
    rw [List.range'_succ, List.map_cons]
    refine ⟨trivial, ?_⟩
    dsimp only
    rw [d__law_same_t1_u]
    simp
    rw [d__law_same_e2_u]
    have hlt : k < xs.length := by omega
    have e := idx_nat (xs := xs) (i := k) hlt
    rw [List.getElem?_eq_getElem hlt] at e
    have es : ∀ {Q : PV → MM → Prop} {M : MM} {X : XK}, wSub (.tup xs) (.int (k : Int)) M Q X = Q xs[k] M := fun {Q M X} => sub_at rfl e
    simp [es]
    refine hc _ (List.getElem_mem hlt) _ _ ?_
    have hline : line = 16777216 := rfl
    refine ⟨by omega, ?_⟩
    refine ih (k + 1) (acc ++ [.bl true]) (by omega) (by simp; omega) ?_
    rw [List.append_assoc]
    simpa [List.replicate_succ] using h
theorem bools_true : ∀ m, bools? (List.replicate m (.bl true)) = some (List.replicate m true)
  | 0 => rfl
  | m + 1 => by
    rw [List.replicate_succ]
    show (bools? (List.replicate m (.bl true))).map (true :: ·) = _
    rw [bools_true m]; rfl
theorem s_same : ∀ (d : Nat) (p : PV), Dat d p → ∀ {n : Nat} {M : MM} {X : XK} {Q : PV → MM → Prop}, Q (.bl true) M → cal LD.G (n + d + 1) (.fn "_law_same") ⟨[.pv p, .pv p], []⟩ M Q X := by
  intro d
  induction d with
  | zero =>
    intro p hp n M X Q h
    cases hp with
    | int => exact s_same_int h
    | non => exact s_same_non h
    | str => exact s_same_str h
    | lst hx _ => exact s_same_lst hx h
  | succ d ih =>
    intro p hp n M X Q h
    cases hp with
    | int => exact s_same_int h
    | non => exact s_same_non h
    | str => exact s_same_str h
    | lst hx _ => exact s_same_lst hx h
    | tup hx hl =>
      rename_i xs
      refine call0 (d := d__law_same) (svs := [.pv (.tup xs), .pv (.tup xs)]) rfl rfl rfl rfl ?_
      unfold d__law_same
      simp [isOf]
      refine ⟨by unfold big62; omega, ?_⟩
      have e : clean (wipeE [some (.pv (.tup xs)), some (.pv (.tup xs)), none, none] [3]) = [some (.pv (.tup xs)), some (.pv (.tup xs)), none, none] := rfl
      rw [e]
      have eu : upTo 0 xs.length = (List.range' 0 xs.length).map fun (i : Nat) => PV.int (i : Int) := by
        unfold upTo
        rw [List.range_eq_range']
        apply List.map_congr_left
        intro i _
        simp
      rw [eu]
      refine comp_same (fun x hm Q X hq => ih x (hx x hm) hq) xs.length 0 [] (by omega) (by simp; omega) ?_
      simp [bools_true]
      exact h
theorem loop_well {s0 s1 : PV} {D : Ends} {XX : XE} : ∀ (cells : List Int) (st : Int) (e3 e4 : Option SV), (∀ (st : Int) (e3 e4 : Option SV), D.nx [some (.pv s0), some (.pv s1), some (.pv (.int st)), e3, e4] M) →
    forL (fun _ => True) (fun v env M Q => wT LD.G (cal LD.G n) d__law_well_t1 v env M Q (XX env)) (fun env M D => wSs LD.G (cal LD.G n) d__law_well_b2 env M D XX) D (cells.map PV.int) [some (.pv s0), some (.pv s1), some (.pv (.int st)), e3, e4] M := by
  intro cells
  induction cells with
  | nil =>
    intro st e3 e4 h
    exact ⟨trivial, h _ _ _⟩
  | cons c r ih =>
    intro st e3 e4 h
    refine ⟨trivial, ?_⟩
    dsimp only
    rw [d__law_well_t1_u]
    simp
    rw [d__law_well_b2_u]
    simp
    exact ⟨.inr (by decide), ih _ _ _ h⟩
theorem s_law_well {ns : List Int} {lap : Nat} (h : ∀ (a : Nat) (x y z : Int), M a = none → 0 ≤ x → Q (.ref a) (upd M a (well x y z))) : cal LD.G (n + 1) (.fn "_law_well") ⟨[.pv (.rol (ns.map .int)), .pv (.int lap)], []⟩ M Q X := by
  refine call1 (d := d__law_well) (svs := [.pv (.rol (ns.map .int)), .pv (.int lap)]) rfl rfl rfl rfl ?_
  unfold d__law_well
  have hs : ∀ k : Int, sliceOf (ns.map PV.int) none (some k) = (sliceOf ns none (some k)).map PV.int := fun k => by
    unfold sliceOf
    simp [List.map_take]
  simp [isNon, hs]
  refine ⟨.inl (by decide), ?_⟩
  refine loop_well _ _ none none fun st e3 e4 => ?_
  simp
  have l3 : 3 ≤ line := by decide
  by_cases c : lap < ns.length
  · have e := idx_nat (xs := ns.map PV.int) (i := lap) (by simpa using c)
    rw [List.getElem?_map, List.getElem?_eq_getElem c] at e
    have es : ∀ {Q : PV → MM → Prop} {M : MM} {X : XK}, wSub (.rol (ns.map PV.int)) (.int (lap : Int)) M Q X = Q (.int ns[lap]) M := fun {Q M X} => sub_at rfl e
    simp only [c, if_true, es]
    generalize ns[lap] = v
    simp
    refine ⟨.inr (by decide), .inr (by decide), ?_⟩
    by_cases c1 : v < 0
    · simp [c1, l3]
      intro a ha
      exact h a _ _ _ ha (by omega)
    · by_cases c2 : 1000000000000000 ≤ v
      · simp [c1, c2, l3]
        intro a ha
        exact h a _ _ _ ha (by omega)
      · simp [c1, c2, l3]
        intro a ha
        exact h a _ _ _ ha (Int.le_refl 0)
  · simp [c, l3]
    refine ⟨.inr (by decide), .inr (by decide), ?_⟩
    intro a ha
    exact h a _ _ _ ha (Int.le_refl 0)
end
end LW
end

section
set_option Elab.async false
set_option linter.all false
set_option maxRecDepth 100000
set_option maxHeartbeats 400000
namespace LW
open IB
section
variable {n : Nat} {M : MM} {X : XK} {Q : PV → MM → Prop}
def ofP (p : Int × Int) : PV := .tup [.int p.1, .int p.2]
def decP : PV → Int × Int
  | .tup [.int a, .int b] => (a, b)
  | _ => (0, 0)
theorem dec_of (p : Int × Int) : decP (ofP p) = p := rfl
theorem dec_map (ps : List (Int × Int)) : (ps.map ofP).map decP = ps := by
  rw [List.map_map]
  show ps.map (fun p => decP (ofP p)) = ps
  rw [show (fun p => decP (ofP p)) = id from rfl, List.map_id]
theorem ints_map (l : List Int) : ints? (l.map PV.int) = some l := by
  induction l with
  | nil => rfl
  | cons a l ih =>
    show (ints? (l.map PV.int)).map (a :: ·) = _
    rw [ih]; rfl
theorem dat_ps (ps : List (Int × Int)) {k : Nat} (hk : 2 ≤ k) : PV.dat k (.tup (ps.map ofP)) = true := by
  match k, hk with
  | k + 2, _ =>
    show (ps.map ofP).all (PV.dat (k + 1)) = true
    rw [List.all_eq_true]
    intro x hx
    obtain ⟨p, _, rfl⟩ := List.mem_map.mp hx
    have e : ∀ i : Int, PV.dat k (.int i) = true := fun i => by cases k <;> rfl
    show ([PV.int p.1, PV.int p.2].all (PV.dat k)) = true
    simp [e]
theorem last_ps {ps : List (Int × Int)} {l : Int × Int} (h : ps.getLast? = some l) : (idx? (ps.map ofP).length (-1)).bind ((ps.map ofP)[·]?) = some (ofP l) := by
  have hn : 0 < ps.length := by cases ps with | nil => cases h | cons _ _ => simp
  unfold idx?
  rw [if_neg (by decide), if_pos (by simp; omega)]
  rw [List.getLast?_eq_getElem?] at h
  have e : (-1 + (((ps.map ofP).length : Nat) : Int)).toNat = ps.length - 1 := by simp; omega
  show (ps.map ofP)[(-1 + (((ps.map ofP).length : Nat) : Int)).toNat]? = _
  rw [e, List.getElem?_map, h]; rfl
def step (acc : List (Int × Int)) (ink : Int) : List (Int × Int) := match acc.getLast? with
  | some l => if l.2 = ink then acc.dropLast ++ [(l.1 + 1, ink)] else acc ++ [(1, ink)]
  | none => [(1, ink)]
def runsOf (row : List Int) : List (Int × Int) := row.foldl step []
theorem dat_lst (ps : List (Int × Int)) {k : Nat} (hk : 2 ≤ k) : PV.dat k (.lst (ps.map ofP)) = true := by
  match k, hk with
  | k + 2, h => exact dat_ps ps (k := k + 2) h
theorem eqv_lst (ps : List (Int × Int)) : PV.eqv (.lst (ps.map ofP)) (.lst []) = decide (ps = []) := by
  cases ps <;> rfl
theorem step_len {acc : List (Int × Int)} {i : Int} : (step acc i).length ≤ acc.length + 1 := by
  unfold step
  split
  · split
    · simp
    · simp
  · simp
theorem frz_ofP {M M' : MM} (p : Int × Int) : frz M M' 3 (ofP p) = ofP p := by
  show frz M M' (2 + 1) (.tup [.int p.1, .int p.2]) = _
  rw [frz_tup]
  show PV.tup [frz M M' 2 (.int p.1), frz M M' 2 (.int p.2)] = _
  rw [frz_int, frz_int]; rfl
theorem frz_ps {M M' : MM} (ps : List (Int × Int)) : frz M M' 4 (.tup (ps.map ofP)) = .tup (ps.map ofP) := by
  rw [frz_tup, List.map_map]
  exact congrArg PV.tup (List.map_congr_left fun p _ => frz_ofP p)
theorem frz_ints {M M' : MM} (ps : List Int) : frz M M' 4 (.tup (ps.map PV.int)) = .tup (ps.map PV.int) := by
  rw [frz_tup, List.map_map]
  exact congrArg PV.tup (List.map_congr_left fun p _ => frz_int)
theorem set_last {α : Type} {l : List α} {x y : α} (h : l.getLast? = some y) : l.set (l.length - 1) x = l.dropLast ++ [x] := by
  have e : l = l.dropLast ++ [y] := by
    obtain ⟨q, hq⟩ := List.getLast?_eq_some_iff.mp h
    rw [hq]; simp
  have hlen : l.length - 1 = l.dropLast.length := by simp
  rw [hlen]
  conv => lhs; rw [e]
  rw [show (l.dropLast ++ [y]).dropLast.length = l.dropLast.length by simp]
  simp
theorem loop_law_runs {row : PV} {a : Nat} {D : Ends} {XX : XE} : ∀ (rest : List Int) (acc : List (Int × Int)) (e2 : Option SV), acc.length + rest.length ≤ 900 →
    (∀ e2, D.nx [some (.pv row), some (.pv (.ref a)), e2] (upd M a (.lst ((rest.foldl step acc).map ofP)))) →
    forL (fun _ => True) (fun v env M Q => wT LD.G (cal LD.G n) d__law_runs_t1 v env M Q (XX env)) (fun env M D => wSs LD.G (cal LD.G n) d__law_runs_b2 env M D XX) D (rest.map PV.int) [some (.pv row), some (.pv (.ref a)), e2] (upd M a (.lst (acc.map ofP))) := by
  intro rest
  induction rest with
  | nil =>
    intro acc e2 _ h
    exact ⟨trivial, h _⟩
  | cons i r ih =>
    intro acc e2 hle h
    have hl : acc.length + 1 ≤ 900 := by simp at hle; omega
    have hline : line = 16777216 := rfl
    refine ⟨trivial, ?_⟩
    dsimp only
    rw [d__law_runs_t1_u]
    simp
    rw [d__law_runs_b2_u]
    simp
    rw [wNe_def, rd_upd, show rd (upd M a (.lst (acc.map ofP))) (.lst []) = .lst [] from rfl, eqv_lst]
    have d2 : PV.dat 50 (.lst []) = true := dat_lst [] (by decide)
    refine ⟨dat_lst acc (by decide), d2, ?_⟩
    have key := fun e2 => ih (step acc i) e2 (by have := step_len (acc := acc) (i := i); simp at hle; omega) h
    cases hg : acc.getLast? with
    | none =>
      have e : acc = [] := by simpa using hg
      subst e
      simp only [decide_true, Bool.not_true]
      simp [hline]
      have q := key (some (.pv (.int i)))
      rw [show step [] i = [(1, i)] from rfl] at q
      exact q
    | some l =>
      have e : acc ≠ [] := fun z => by subst z; cases hg
      have hq := last_ps hg
      have hn : 0 < acc.length := by cases acc with | nil => exact absurd rfl e | cons _ _ => simp
      simp only [e, decide_false, Bool.not_false]
      rw [sub_at (xs := acc.map ofP) ir_upd hq]
      rw [show ofP l = PV.tup [.int l.1, .int l.2] from rfl]
      simp only [sub_t1, c_eqI]
      by_cases c : l.2 = i
      · have es : step acc i = acc.dropLast ++ [(l.1 + 1, i)] := by unfold step; rw [hg]; simp [c]
        rw [if_pos (by simpa using c)]
        rw [sub_at (xs := acc.map ofP) ir_upd hq]
        rw [show ofP l = PV.tup [.int l.1, .int l.2] from rfl]
        simp [hline]
        have hi : idx? (acc.map ofP).length (-1) = some (acc.length - 1) := by
          unfold idx?
          rw [if_neg (by decide), if_pos (by simp; omega)]
          congr 1
          simp; omega
        show (match upd M a (.lst (acc.map ofP)) a, PV.int (-1) with
          | some (.lst xs), .int k => (match idx? xs.length k with | some n => _ | none => False)
          | _, _ => False)
        rw [upd_s]
        dsimp only
        rw [hi]
        dsimp only
        rw [upd_u]
        have q := key (some (.pv (.int i)))
        rw [es] at q
        have e3 : (acc.map ofP).set (acc.length - 1) (.tup [.int (l.1 + 1), .int i]) = (acc.dropLast ++ [(l.1 + 1, i)]).map ofP := by
          have hgl : (acc.map ofP).getLast? = some (ofP l) := by rw [List.getLast?_map, hg]; rfl
          have q3 := set_last (x := PV.tup [.int (l.1 + 1), .int i]) hgl
          rw [List.length_map] at q3
          rw [q3, List.map_append, ← List.map_dropLast]; rfl
        rw [e3]
        exact q
      · have es : step acc i = acc ++ [(1, i)] := by unfold step; rw [hg]; simp [c]
        rw [if_neg (by simpa using c)]
        simp [hline]
        refine ⟨by omega, ?_⟩
        have q := key (some (.pv (.int i)))
        rw [es] at q
        simpa [ofP] using q
theorem s_law_runs {row : List Int} (hl : row.length ≤ 900) (h : Q (.tup ((runsOf row).map ofP)) M) : cal LD.G (n + 1) (.fn "_law_runs") ⟨[.pv (.tup (row.map .int))], []⟩ M Q X := by
  refine call0 (d := d__law_runs) (svs := [.pv (.tup (row.map .int))]) rfl rfl rfl rfl ?_
  unfold d__law_runs
  simp
  intro a ha
  refine loop_law_runs row [] none (by simpa using hl) fun e2 => ?_
  simp
  rw [show List.foldl step [] row = runsOf row from rfl, frz_ps, restr_new ha, restr_self]
  exact h
/-- a row from its runs -/
def rowOf (ps : List (Int × Int)) : List Int := ps.flatMap fun p => List.replicate p.1.toNat p.2
theorem rowOf_app (a b : List (Int × Int)) : rowOf (a ++ b) = rowOf a ++ rowOf b := by unfold rowOf; rw [List.flatMap_append]
theorem rowOf_one (p : Int × Int) : rowOf [p] = List.replicate p.1.toNat p.2 := by simp [rowOf]
theorem step_row {acc : List (Int × Int)} {i : Int} (h : ∀ p ∈ acc, 1 ≤ p.1) : rowOf (step acc i) = rowOf acc ++ [i] ∧ ∀ p ∈ step acc i, 1 ≤ p.1 := by
  unfold step
  split
  · rename_i l hl
    obtain ⟨q, rfl⟩ := List.getLast?_eq_some_iff.mp hl
    have hl1 : 1 ≤ l.1 := h l (by simp)
    split
    · rename_i c
      refine ⟨?_, fun p hp => ?_⟩
      · rw [rowOf_app, rowOf_app, rowOf_one, rowOf_one, List.dropLast_concat]
        have e : (l.1 + 1).toNat = l.1.toNat + 1 := by omega
        rw [show ((l.1 + 1, i) : Int × Int).1 = l.1 + 1 from rfl, show ((l.1 + 1, i) : Int × Int).2 = i from rfl, e, List.replicate_succ', c, List.append_assoc]
      · rw [List.dropLast_concat] at hp
        rcases List.mem_append.mp hp with hp | hp
        · exact h p (List.mem_append_left _ hp)
        · obtain rfl : p = (l.1 + 1, i) := by simpa using hp
          show 1 ≤ l.1 + 1
          omega
    · refine ⟨by rw [rowOf_app, rowOf_one]; rfl, fun p hp => ?_⟩
      rcases List.mem_append.mp hp with hp | hp
      · exact h p hp
      · obtain rfl : p = (1, i) := by simpa using hp
        exact Int.le_refl 1
  · rename_i hl
    have e : acc = [] := by simpa using hl
    subst e
    refine ⟨rfl, fun p hp => ?_⟩
    obtain rfl : p = (1, i) := by simpa using hp
    exact Int.le_refl 1
theorem fold_row : ∀ (row : List Int) (acc : List (Int × Int)), (∀ p ∈ acc, 1 ≤ p.1) → rowOf (row.foldl step acc) = rowOf acc ++ row ∧ ∀ p ∈ row.foldl step acc, 1 ≤ p.1
  | [], acc, h => ⟨by simp, h⟩
  | i :: r, acc, h => by
    obtain ⟨h1, h2⟩ := step_row (i := i) h
    obtain ⟨h3, h4⟩ := fold_row r (step acc i) h2
    exact ⟨by rw [List.foldl_cons, h3, h1]; simp, h4⟩
theorem row_runs (row : List Int) : rowOf (runsOf row) = row := by
  have := (fold_row row [] (fun p h => by cases h)).1
  exact this
theorem runs_pos (row : List Int) : ∀ p ∈ runsOf row, 1 ≤ p.1 := (fold_row row [] (fun p h => by cases h)).2
def lastOf (ps : List (Int × Int)) : PV := match ps.getLast? with | none => .non | some l => .int l.2
theorem sum_row {ps : List (Int × Int)} (h : ∀ p ∈ ps, 1 ≤ p.1) : ((rowOf ps).length : Int) = (ps.map (·.1)).sum := by
  induction ps with
  | nil => rfl
  | cons p ps ih =>
    have h1 := h p List.mem_cons_self
    have e : rowOf (p :: ps) = List.replicate p.1.toNat p.2 ++ rowOf ps := rfl
    rw [e, List.length_append, List.length_replicate, List.map_cons, List.sum_cons]
    have := ih (fun q hq => h q (List.mem_cons_of_mem _ hq))
    omega
theorem step_ok {acc : List (Int × Int)} {i : Int} (hi : 0 ≤ i ∧ i < 8) (h : ∀ k p, acc[k]? = some p → 1 ≤ p.1 ∧ 0 ≤ p.2 ∧ p.2 < 8 ∧ lastOf (acc.take k) ≠ .int p.2) :
    ∀ k p, (step acc i)[k]? = some p → 1 ≤ p.1 ∧ 0 ≤ p.2 ∧ p.2 < 8 ∧ lastOf ((step acc i).take k) ≠ .int p.2 := by
  have app : ∀ (a : List (Int × Int)) (q : Int × Int), (∀ k p, a[k]? = some p → 1 ≤ p.1 ∧ 0 ≤ p.2 ∧ p.2 < 8 ∧ lastOf (a.take k) ≠ .int p.2) → 1 ≤ q.1 → 0 ≤ q.2 → q.2 < 8 → lastOf a ≠ .int q.2 → ∀ k p, (a ++ [q])[k]? = some p → 1 ≤ p.1 ∧ 0 ≤ p.2 ∧ p.2 < 8 ∧ lastOf ((a ++ [q]).take k) ≠ .int p.2 := by
    intro a q ha h1 h2 h3 h4 k p hk
    by_cases c : k < a.length
    · rw [List.getElem?_append_left c] at hk
      rw [List.take_append_of_le_length (by omega)]
      exact ha k p hk
    · have hk2 := (List.getElem?_eq_some_iff.mp hk).1
      have e : k = a.length := by simp at hk2; omega
      subst e
      simp at hk
      subst hk
      simp
      exact ⟨h1, h2, h3, h4⟩
  unfold step
  split
  · rename_i l hl
    obtain ⟨q, rfl⟩ := List.getLast?_eq_some_iff.mp hl
    split
    · rename_i c
      rw [List.dropLast_concat]
      have hq : ∀ k p, q[k]? = some p → 1 ≤ p.1 ∧ 0 ≤ p.2 ∧ p.2 < 8 ∧ lastOf (q.take k) ≠ .int p.2 := fun k p hk => by
        have hlt := (List.getElem?_eq_some_iff.mp hk).1
        have := h k p (by rw [List.getElem?_append_left hlt]; exact hk)
        rwa [List.take_append_of_le_length (by omega)] at this
      have hl2 := h q.length l (by simp)
      simp at hl2
      refine app q (l.1 + 1, i) hq ?_ hi.1 hi.2 ?_
      · show 1 ≤ l.1 + 1; omega
      · rw [← c]; exact hl2.2.2.2
    · rename_i c
      refine app _ (1, i) h (Int.le_refl 1) hi.1 hi.2 ?_
      simp [lastOf]
      exact c
  · rename_i hl
    have e : acc = [] := by simpa using hl
    subst e
    intro k p hk
    match k, hk with
    | 0, hk =>
      simp at hk
      subst hk
      exact ⟨Int.le_refl 1, hi.1, hi.2, by simp [lastOf]⟩
theorem fold_ok : ∀ (row : List Int) (acc : List (Int × Int)), (∀ v ∈ row, 0 ≤ v ∧ v < 8) → (∀ k p, acc[k]? = some p → 1 ≤ p.1 ∧ 0 ≤ p.2 ∧ p.2 < 8 ∧ lastOf (acc.take k) ≠ .int p.2) → ∀ k p, (row.foldl step acc)[k]? = some p → 1 ≤ p.1 ∧ 0 ≤ p.2 ∧ p.2 < 8 ∧ lastOf ((row.foldl step acc).take k) ≠ .int p.2
  | [], _, _, h => h
  | i :: r, acc, hv, h => by
    rw [List.foldl_cons]
    exact fold_ok r _ (fun v hm => hv v (List.mem_cons_of_mem _ hm)) (step_ok (hv i List.mem_cons_self) h)
theorem fold_len : ∀ (row : List Int) (acc : List (Int × Int)), (row.foldl step acc).length ≤ acc.length + row.length
  | [], _ => by simp
  | i :: r, acc => by
    rw [List.foldl_cons]
    have := fold_len r (step acc i)
    have := step_len (acc := acc) (i := i)
    simp; omega
theorem runs_len (row : List Int) : (runsOf row).length ≤ row.length := by
  have := fold_len row []
  simpa [runsOf] using this
end
end LW
end

section
set_option Elab.async false
set_option linter.all false
set_option maxRecDepth 100000
set_option maxHeartbeats 400000
namespace LW
open IB
section
variable {n : Nat} {M : MM} {X : XK} {Q : PV → MM → Prop}
theorem comp_draw {a : Nat} {few : Int} {x1 x2 x4 x5 : Option SV} {QL : List PV → MM → Prop} (hf : 0 < few) (hf2 : few < 1000000) :
    ∀ (its : List PV) (acc : List Int) (x y z : Int), 0 ≤ x → acc.length + its.length ≤ 1000 → (∀ v ∈ acc, 0 ≤ v ∧ v < few) →
    (∀ (vs : List Int) (x' y' z' : Int), vs.length = acc.length + its.length → (∀ v ∈ vs, 0 ≤ v ∧ v < few) → 0 ≤ x' → QL (vs.map .int) (upd M a (well x' y' z'))) →
    compL (fun _ => True) (fun v env M Q => wT LD.G (cal LD.G (n + 1)) d__law_drawn_page_t1 v env M Q noX) (fun env M Q => Q true M) (fun env M Q => wE LD.G (cal LD.G (n + 1)) d__law_drawn_page_e2 env M Q noX) [some (.pv (.ref a)), x1, x2, some (.pv (.int few)), x4, x5] QL its (acc.map .int) (upd M a (well x y z)) := by
  intro its
  induction its with
  | nil =>
    intro acc x y z hx hle hv h
    exact ⟨trivial, h acc x y z (by simp) hv hx⟩
  | cons i r ih =>
    intro acc x y z hx hle hv h
    refine ⟨trivial, ?_⟩
    dsimp only
    rw [d__law_drawn_page_t1_u]
    simp
    rw [d__law_drawn_page_e2_u]
    simp
    refine s_law_draw (x := x) (y := y) (z := z) (by simp) hx hf hf2 fun r' x' y' z' h1 h2 h3 => ?_
    rw [upd_u]
    have hline : line = 16777216 := rfl
    refine ⟨by simp at hle; omega, ?_⟩
    have q := ih (acc ++ [r']) x' y' z' h3 (by simp at hle ⊢; omega) (fun v hm => by
      rcases List.mem_append.mp hm with hm | hm
      · exact hv v hm
      · obtain rfl : v = r' := by simpa using hm
        exact ⟨h1, h2⟩) (fun vs x'' y'' z'' e1 e2 e3 => h vs x'' y'' z'' (by rw [e1]; simp; omega) e2 e3)
    simpa using q
/-- a page -/
def rowV (r : List Int) : PV := .tup (r.map .int)
def pgV (p : List (List Int)) : PV := .tup (p.map rowV)
theorem frz_pg {M M' : MM} (p : List (List Int)) : frz M M' 4 (pgV p) = pgV p := by
  unfold pgV
  rw [frz_tup, List.map_map]
  refine congrArg PV.tup (List.map_congr_left fun r _ => ?_)
  show frz M M' (2 + 1) (.tup (r.map .int)) = _
  rw [frz_tup, List.map_map]
  exact congrArg PV.tup (List.map_congr_left fun p _ => frz_int)
structure PgOk (p : List (List Int)) (wide high : Nat) : Prop where
  high : p.length = high
  wide : ∀ r ∈ p, r.length = wide
  ink : ∀ r ∈ p, ∀ v ∈ r, 0 ≤ v ∧ v < 8
theorem comp_rows {a wide : Nat} {few : Int} {x2 x4 x5 : Option SV} {QL : List PV → MM → Prop} (hf : 0 < few) (hf2 : few ≤ 8) (hw : wide ≤ 24) :
    ∀ (its : List PV) (acc : List (List Int)) (x y z : Int) (x4 : Option SV), 0 ≤ x → acc.length + its.length ≤ 1000 → PgOk acc wide acc.length →
    (∀ (p : List (List Int)) (x' y' z' : Int), PgOk p wide (acc.length + its.length) → 0 ≤ x' → QL (p.map rowV) (upd M a (well x' y' z'))) →
    compL (fun _ => True) (fun v env M Q => wT LD.G (cal LD.G (n + 1)) d__law_drawn_page_t3 v env M Q noX) (fun env M Q => Q true M) (fun env M Q => wE LD.G (cal LD.G (n + 1)) d__law_drawn_page_e4 env M Q noX) [some (.pv (.ref a)), some (.pv (.int wide)), x2, some (.pv (.int few)), none, none] QL its (acc.map rowV) (upd M a (well x y z)) := by
  intro its
  induction its with
  | nil =>
    intro acc x y z x4 hx hle ho h
    exact ⟨trivial, h acc x y z ho hx⟩
  | cons i r ih =>
    intro acc x y z x4 hx hle ho h
    refine ⟨trivial, ?_⟩
    dsimp only
    rw [d__law_drawn_page_t3_u]
    simp
    rw [d__law_drawn_page_e4_u]
    simp
    refine ⟨by unfold big62; omega, ?_⟩
    have e2 : clean (wipeE [some (.pv (.ref a)), some (.pv (.int wide)), x2, some (.pv (.int few)), some (.pv i), none] [5]) = clean [some (.pv (.ref a)), some (.pv (.int wide)), x2, some (.pv (.int few)), some (.pv i), none] := rfl
    rw [e2]
    have e3 : ∃ y2, clean [some (.pv (.ref a)), some (.pv (.int wide)), x2, some (.pv (.int few)), some (.pv i), none] = [some (.pv (.ref a)), some (.pv (.int wide)), y2, some (.pv (.int few)), some (.pv i), none] := ⟨_, rfl⟩
    obtain ⟨y2, e3⟩ := e3
    rw [e3]
    refine comp_draw (n := n) (M := M) hf (by omega) (upTo 0 wide) [] x y z hx (by rw [upTo_len]; simp; omega) (fun v hv => by cases hv) fun vs x' y' z' hl hv hx' => ?_
    rw [upTo_len] at hl
    have hline : line = 16777216 := rfl
    have hle' : acc.length + (r.length + 1) ≤ 1000 := by simpa using hle
    refine ⟨by omega, ?_⟩
    have q := ih (acc ++ [vs]) x' y' z' none hx' (by simp at hle ⊢; omega) ⟨rfl, fun r hr => ?_, fun r hr => ?_⟩ (fun p x'' y'' z'' e1 e2 => h p x'' y'' z'' ⟨by rw [e1.high]; simp; omega, e1.wide, e1.ink⟩ e2)
    · rw [List.map_append] at q
      exact q
    · rcases List.mem_append.mp hr with hr | hr
      · exact ho.wide r hr
      · obtain rfl : r = vs := by simpa using hr
        simpa using hl
    · rcases List.mem_append.mp hr with hr | hr
      · exact ho.ink r hr
      · obtain rfl : r = vs := by simpa using hr
        exact fun v hm => ⟨(hv v hm).1, by have := (hv v hm).2; omega⟩
theorem s_law_page {a : Nat} {x y z : Int} {wide high : Nat} (h0 : M a = some (well x y z)) (hx : 0 ≤ x) (hw : wide ≤ 24) (hh : high ≤ 24) (h : ∀ (p : List (List Int)) (x' y' z' : Int), PgOk p wide high → 0 ≤ x' → Q (pgV p) (upd M a (well x' y' z'))) :
    cal LD.G (n + 3) (.fn "_law_drawn_page") ⟨[.pv (.ref a), .pv (.int wide), .pv (.int high)], []⟩ M Q X := by
  have hs : (M a).isSome = true := by rw [h0]; rfl
  have rs : ∀ o, restr M (upd M a o) = upd M a o := fun o => by rw [restr_old hs, restr_self]
  have l4 : 4 ≤ line := by decide
  refine call0 (d := d__law_drawn_page) (svs := [.pv (.ref a), .pv (.int wide), .pv (.int high)]) rfl rfl rfl rfl ?_
  unfold d__law_drawn_page
  simp [l4]
  refine s_law_of (xs := [2, 2, 3, 8]) h0 hx (by simp) (by simp) fun few hf x1 y1 z1 h1 => ?_
  have hf1 : 0 < few ∧ few ≤ 8 := by
    simp at hf
    omega
  refine ⟨by unfold big62; omega, ?_⟩
  have e : clean (wipeE [some (.pv (.ref a)), some (.pv (.int wide)), some (.pv (.int high)), some (.pv (.int few)), none, none] [4]) = [some (.pv (.ref a)), some (.pv (.int wide)), some (.pv (.int high)), some (.pv (.int few)), none, none] := rfl
  rw [e]
  refine comp_rows (n := n + 1) (x4 := none) (x5 := none) hf1.1 hf1.2 hw (upTo 0 high) [] x1 y1 z1 none h1 (by rw [upTo_len]; simp; omega) ⟨rfl, fun r hr => (by cases hr), fun r hr => (by cases hr)⟩ fun p x' y' z' ho hx' => ?_
  rw [upTo_len] at ho
  show Q (frz M _ 4 (pgV p)) (restr M _)
  rw [frz_pg, rs]
  exact h p x' y' z' ⟨by have := ho.high; simpa using this, ho.wide, ho.ink⟩ hx'

end
end LW
end

section
set_option Elab.async false
set_option linter.all false
set_option maxRecDepth 100000
set_option maxHeartbeats 400000
namespace LW
open IB
section
variable {n : Nat} {M : MM} {X : XK} {Q : PV → MM → Prop}
theorem clamp_nat {n k : Nat} : clampIx n (k : Int) = min k n := by
  unfold clampIx
  rw [if_neg (by omega)]
  simp
theorem slice_seg {α : Type} (xs : List α) (lo hi : Nat) : sliceOf xs (some (lo : Int)) (some (hi : Int)) = (xs.drop lo).take (hi - lo) := by
  unfold sliceOf
  dsimp only
  rw [clamp_nat, clamp_nat]
  by_cases h : lo ≤ xs.length
  · rw [Nat.min_eq_left h]
    by_cases h2 : hi ≤ xs.length
    · rw [Nat.min_eq_left h2]
    · rw [Nat.min_eq_right (by omega), List.take_of_length_le (by simp), List.take_of_length_le (by simp; omega)]
  · rw [Nat.min_eq_right (show xs.length ≤ lo by omega), List.drop_length, List.drop_of_length_le (show xs.length ≤ lo by omega)]
    simp
theorem slice_to {α : Type} (xs : List α) (hi : Nat) : sliceOf xs none (some (hi : Int)) = xs.take hi := by
  unfold sliceOf
  dsimp only
  rw [clamp_nat, List.drop_zero, Nat.sub_zero]
  by_cases h2 : hi ≤ xs.length
  · rw [Nat.min_eq_left h2]
  · rw [Nat.min_eq_right (by omega), List.take_of_length_le (Nat.le_refl _), List.take_of_length_le (by omega)]
theorem slice_from {α : Type} (xs : List α) (lo : Nat) : sliceOf xs (some (lo : Int)) none = xs.drop lo := by
  unfold sliceOf
  dsimp only
  rw [clamp_nat]
  by_cases h : lo ≤ xs.length
  · rw [Nat.min_eq_left h, List.take_of_length_le (by simp)]
  · rw [Nat.min_eq_right (by omega), List.drop_length, List.drop_of_length_le (by omega)]
    simp
/-- the octets of runs; of a row; of rows -/
def runOct (ps : List (Int × Int)) : List Int := ps.flatMap fun p => [p.1, p.2]
def rowOct (r : List Int) : List Int := ((runsOf r).length : Int) :: runOct (runsOf r)
def rowsOct (rs : List (List Int)) : List Int := rs.flatMap rowOct
def bandRows (p : List (List Int)) (room band : Nat) : List (List Int) := (p.drop (band * room)).take room
def headOct (p : List (List Int)) (room band : Nat) : List Int := [66, (band : Int), ((band * room : Nat) : Int), ((bandRows p room band).length : Int)]
def bodyOct (p : List (List Int)) (room band : Nat) : List Int := headOct p room band ++ rowsOct (bandRows p room band)
def msgOct (p : List (List Int)) (room band : Nat) : List Int := bodyOct p room band ++ [(bodyOct p room band).sum % 251]
def octV (o : List Int) : PV := .tup (o.map .int)
theorem frz_oct {M M' : MM} {k : Nat} (o : List Int) : frz M M' (k + 1) (octV o) = octV o := by
  unfold octV
  rw [frz_tup, List.map_map]
  exact congrArg PV.tup (List.map_congr_left fun p _ => frz_int)
theorem runOct_len (ps : List (Int × Int)) : (runOct ps).length = 2 * ps.length := by
  induction ps with
  | nil => rfl
  | cons p ps ih =>
    have e : runOct (p :: ps) = p.1 :: p.2 :: runOct ps := rfl
    rw [e]; simp; omega
theorem rowOct_len {r : List Int} (h : r.length ≤ 24) : (rowOct r).length ≤ 49 := by
  have := runs_len r
  unfold rowOct
  rw [List.length_cons, runOct_len]; omega
theorem rowsOct_len {rs : List (List Int)} (h : ∀ r ∈ rs, r.length ≤ 24) : (rowsOct rs).length ≤ 49 * rs.length := by
  induction rs with
  | nil => simp [rowsOct]
  | cons r rs ih =>
    have e : rowsOct (r :: rs) = rowOct r ++ rowsOct rs := rfl
    have h1 := rowOct_len (h r List.mem_cons_self)
    have h2 := ih fun q hq => h q (List.mem_cons_of_mem _ hq)
    rw [e, List.length_append, List.length_cons]; omega
theorem loop_msg_runs {D : Ends} {XX : XE} {e0 e1 e2 e3 e5 e6 : Option SV} : ∀ (ps : List (Int × Int)) (acc : List Int) (e7 e8 : Option SV), acc.length + 2 * ps.length ≤ 3000 →
    (∀ e7 e8, D.nx [e0, e1, e2, e3, some (.pv (octV (acc ++ runOct ps))), e5, e6, e7, e8] M) →
    forL (fun _ => True) (fun v env M Q => wT LD.G (cal LD.G n) d__law_message_t2 v env M Q (XX env)) (fun env M D => wSs LD.G (cal LD.G n) d__law_message_b3 env M D XX) D (ps.map ofP) [e0, e1, e2, e3, some (.pv (octV acc)), e5, e6, e7, e8] M := by
  intro ps
  induction ps with
  | nil => intro acc e7 e8 _ h; exact ⟨trivial, by simpa [runOct] using h e7 e8⟩
  | cons p ps ih =>
    intro acc e7 e8 hl h
    have hline : line = 16777216 := rfl
    refine ⟨trivial, ?_⟩
    dsimp only
    rw [d__law_message_t2_u, show ofP p = PV.tup [.int p.1, .int p.2] from rfl]
    simp [tgLen]
    rw [d__law_message_b3_u]
    simp [hline, octV]
    simp at hl
    refine ⟨by omega, ?_⟩
    have q := ih (acc ++ [p.1, p.2]) (some (.pv (.int p.1))) (some (.pv (.int p.2))) (by simp; omega) (fun e7 e8 => by
      have := h e7 e8
      rw [show runOct (p :: ps) = [p.1, p.2] ++ runOct ps from rfl] at this
      simpa [List.append_assoc] using this)
    simpa [octV] using q
theorem loop_msg_rows {D : Ends} {XX : XE} {e0 e1 e2 e3 : Option SV} : ∀ (rs : List (List Int)) (acc : List Int) (e5 e6 e7 e8 : Option SV), (∀ r ∈ rs, r.length ≤ 24) → acc.length + 49 * rs.length ≤ 2900 →
    (∀ e5 e6 e7 e8, D.nx [e0, e1, e2, e3, some (.pv (octV (acc ++ rowsOct rs))), e5, e6, e7, e8] M) →
    forL (fun _ => True) (fun v env M Q => wT LD.G (cal LD.G (n + 1)) d__law_message_t1 v env M Q (XX env)) (fun env M D => wSs LD.G (cal LD.G (n + 1)) d__law_message_b4 env M D XX) D (rs.map rowV) [e0, e1, e2, e3, some (.pv (octV acc)), e5, e6, e7, e8] M := by
  intro rs
  induction rs with
  | nil => intro acc e5 e6 e7 e8 _ _ h; exact ⟨trivial, by simpa [rowsOct] using h e5 e6 e7 e8⟩
  | cons r rs ih =>
    intro acc e5 e6 e7 e8 hr hl h
    have hline : line = 16777216 := rfl
    have h24 := hr r List.mem_cons_self
    have hrl := runs_len r
    refine ⟨trivial, ?_⟩
    dsimp only
    rw [d__law_message_t1_u]
    simp
    rw [d__law_message_b4_u]
    simp
    refine s_law_runs (row := r) (by omega) ?_
    simp [hline, octV]
    simp at hl
    refine ⟨by omega, ?_⟩
    have e : (List.map PV.int acc ++ [PV.int ((runsOf r).length : Int)]) = (acc ++ [((runsOf r).length : Int)]).map PV.int := by simp
    rw [e]
    refine loop_msg_runs (runsOf r) (acc ++ [((runsOf r).length : Int)]) e7 e8 (by simp; omega) fun e7 e8 => ?_
    have hro := rowOct_len h24
    have q := ih (acc ++ rowOct r) (some (.pv (rowV r))) (some (.pv (.tup ((runsOf r).map ofP)))) e7 e8 (fun q hq => hr q (List.mem_cons_of_mem _ hq)) (by simp; omega) (fun e5 e6 e7 e8 => by
      have := h e5 e6 e7 e8
      rw [show rowsOct (r :: rs) = rowOct r ++ rowsOct rs from rfl] at this
      simpa [List.append_assoc] using this)
    have e2 : acc ++ [((runsOf r).length : Int)] ++ runOct (runsOf r) = acc ++ rowOct r := by simp [rowOct]
    rw [e2]
    exact q
theorem s_law_message {p : List (List Int)} {wide high room band : Nat} (hp : PgOk p wide high) (hw : wide ≤ 24) (hh : high ≤ 24) (hr : room ≤ 24) (hb : band ≤ 24) (h : Q (octV (msgOct p room band)) M) :
    cal LD.G (n + 2) (.fn "_law_message") ⟨[.pv (pgV p), .pv (.int room), .pv (.int band)], []⟩ M Q X := by
  have hline : line = 16777216 := rfl
  refine call0 (d := d__law_message) (svs := [.pv (pgV p), .pv (.int room), .pv (.int band)]) rfl rfl rfl rfl ?_
  unfold d__law_message
  have m1 : ∀ a b : Nat, b ≤ 30 → mulOk (a : Int) (b : Int) := fun a b h => .inr (by constructor <;> omega)
  have hsl : sliceOf (p.map rowV) (some ((band : Int) * room)) (some (((band : Int) + 1) * room)) = (bandRows p room band).map rowV := by
    have e1 : ((band : Int) * room) = ((band * room : Nat) : Int) := by simp
    have e2 : (((band : Int) + 1) * room) = (((band + 1) * room : Nat) : Int) := by simp
    rw [e1, e2, slice_seg, ← List.map_drop, ← List.map_take]
    have e3 : (band + 1) * room - band * room = room := by rw [Nat.add_mul]; omega
    rw [e3]; rfl
  have hbl : (bandRows p room band).length ≤ 24 := by
    unfold bandRows
    simp; omega
  simp [pgV, isNon]
  refine ⟨m1 _ _ (by omega), ?_⟩
  have m2 : mulOk ((band : Int) + 1) (room : Int) := .inr (by constructor <;> omega)
  refine ⟨m2, ?_⟩
  rw [hsl]
  simp [hline]
  refine ⟨m1 _ _ (by omega), ?_⟩
  have e4 : [PV.int 66, PV.int (band : Int), PV.int ((band : Int) * room), PV.int ((bandRows p room band).length : Int)] = (headOct p room band).map PV.int := by simp [headOct]
  rw [e4]
  refine loop_msg_rows (n := n) (bandRows p room band) (headOct p room band) none none none none (fun r hr => ?_) (by simp [headOct]; omega) fun e5 e6 e7 e8 => ?_
  · have : r ∈ p := List.mem_of_mem_drop (List.mem_of_mem_take hr)
    rw [hp.wide r this]; exact hw
  · have hrl := rowsOct_len (rs := bandRows p room band) fun r hr => by
      have : r ∈ p := List.mem_of_mem_drop (List.mem_of_mem_take hr)
      rw [hp.wide r this]; exact hw
    have hints : ints? ((bodyOct p room band).map PV.int) = some (bodyOct p room band) := ints_map _
    have e5 : headOct p room band ++ rowsOct (bandRows p room band) = bodyOct p room band := rfl
    rw [e5]
    have hbl2 : (bodyOct p room band).length ≤ 2000 := by unfold bodyOct headOct; simp; omega
    simp [octV, hints, hline]
    refine ⟨by omega, ?_⟩
    have e6 : (bodyOct p room band).map PV.int ++ [PV.int ((bodyOct p room band).sum % 251)] = (msgOct p room band).map PV.int := by simp [msgOct]
    rw [e6]
    have := frz_oct (M := M) (M' := M) (k := 3) (msgOct p room band)
    unfold octV at this
    rw [this]
    exact h
theorem s_law_bands {p : List (List Int)} {room : Nat} (hr : 1 ≤ room) (hr2 : room ≤ 1000) (h : Q (.int (((p.length + room - 1) / room : Nat) : Int)) M) : cal LD.G (n + 1) (.fn "_law_bands") ⟨[.pv (pgV p), .pv (.int room)], []⟩ M Q X := by
  refine call0 (d := d__law_bands) (svs := [.pv (pgV p), .pv (.int room)]) rfl rfl rfl rfl ?_
  unfold d__law_bands
  simp [pgV]
  refine ⟨⟨by omega, by omega⟩, ?_⟩
  have e : ((p.length : Int) + room - 1).fdiv room = (((p.length + room - 1) / room : Nat) : Int) := by
    rw [Int.fdiv_eq_ediv_of_nonneg _ (by omega)]
    have : ((p.length : Int) + room - 1) = ((p.length + room - 1 : Nat) : Int) := by omega
    rw [this]; rfl
  rw [e]
  exact h
end
end LW
end

section
set_option Elab.async false
set_option linter.all false
set_option maxRecDepth 100000
set_option maxHeartbeats 400000
namespace LW
open IB
section
variable {n : Nat} {M : MM} {X : XK} {Q : PV → MM → Prop}
def Oct (o : List Int) : Prop := ∀ v ∈ o, 0 ≤ v ∧ v ≤ 255
theorem Oct.at (h : Oct o) {k : Nat} {v : Int} (e : o[k]? = some v) : 0 ≤ v ∧ v ≤ 255 := h v (List.mem_of_getElem? e)
/-- an octet read -/
theorem sub_oct {o : List Int} {k : Nat} {v : Int} (e : o[k]? = some v) : wSub (octV o) (.int (k : Int)) M Q X = Q (.int v) M := by
  refine sub_at (xs := o.map .int) rfl ?_
  have hlt := (List.getElem?_eq_some_iff.mp e).1
  rw [idx_nat (by simpa using hlt), List.getElem?_map, e]; rfl
/-- a run that may not stand there -/
def runBad (row : List Int) (m : Int) (left wd : Nat) : Bool :=
  let room : Int := (if 0 < wd then (wd : Int) else 24) - row.length - left
  !(decide ((if left = 0 ∧ 0 < wd then room else 1) ≤ m) && decide (m ≤ room))
theorem s_wrong_in_run {row : PV} {r : List Int} {m : Int} {left wd : Nat} (hr : itemsR M row = some (r.map .int)) (h : Q (.bl (runBad r m left wd)) M) : cal LD.G (n + 1) (.fn "wrong_in_run") ⟨[.pv row, .pv (.int m), .pv (.int left), .pv (.int wd)], []⟩ M Q X := by
  refine call0 (d := d_wrong_in_run) (svs := [.pv row, .pv (.int m), .pv (.int left), .pv (.int wd)]) rfl rfl rfl rfl ?_
  unfold d_wrong_in_run
  unfold runBad at h
  dsimp only at h
  simp [hr, show LD.G.consts "MOST_ROW" = some (.int 24) from rfl]
  by_cases c1 : 0 < wd
  · simp only [c1, if_true, and_true] at h
    simp [c1, hr]
    by_cases c2 : left = 0
    · subst c2
      simp [c1]
      by_cases c3 : (wd : Int) - r.length ≤ m
      · simpa [c3] using h
      · simpa [c3] using h
    · simp only [c2, if_false] at h
      have c2' : ¬ ((left : Int) = 0) := by omega
      simp [c2]
      by_cases c3 : 1 ≤ m
      · simpa [c3] using h
      · simpa [c3] using h
  · have c0 : wd = 0 := by omega
    subst c0
    simp at h
    simp [hr]
    by_cases c2 : left = 0
    · subst c2
      simp
      by_cases c3 : 1 ≤ m
      · simpa [c3] using h
      · simpa [c3] using h
    · simp [c2]
      by_cases c3 : 1 ≤ m
      · simpa [c3] using h
      · simpa [c3] using h
inductive RowR where
  | bad (i : Nat) | cut | full (row : List Int) (nx : Nat)
/-- runs read -/
def runsT (o : List Int) (wd : Nat) : Nat → Nat → List Int → RowR
  | 0, at_, row => .full row at_
  | l + 1, at_, row => match o[at_]? with
    | none => .cut
    | some m => if runBad row m l wd = true then .bad at_ else match o[at_ + 1]? with
      | none => .cut
      | some ink => if 7 < ink ∨ row.getLast? = some ink then .bad (at_ + 1) else runsT o wd l (at_ + 2) (row ++ List.replicate m.toNat ink)
def wMax (wd : Nat) : Int := if 0 < wd then (wd : Int) else 24
/-- a row read -/
def rowT (o : List Int) (at_ wd : Nat) : RowR := match o[at_]? with
  | none => .cut
  | some m => if 1 ≤ m ∧ m ≤ wMax wd then runsT o wd m.toNat (at_ + 1) [] else .bad at_
/-- what row_told returns -/
def rowRV (at_ : Nat) : RowR → PV
  | .bad i => .tup [.lst [], .int at_, .lst [.int i]]
  | .cut => .tup [.lst [], .int at_, .lst []]
  | .full row nx => .tup [.lst (row.map .int), .int nx, .lst []]
theorem slice_last {α : Type} (xs : List α) : sliceOf xs (some (-1)) none = xs.getLast?.toList := by
  unfold sliceOf
  dsimp only
  have e : clampIx xs.length (-1) = xs.length - 1 := by
    unfold clampIx
    rw [if_pos (by decide)]
    omega
  rw [e]
  cases h : xs.getLast? with
  | none =>
    have : xs = [] := by simpa using h
    subst this; rfl
  | some y =>
    obtain ⟨q, rfl⟩ := List.getLast?_eq_some_iff.mp h
    simp
theorem eqv_int {a b : Int} : PV.eqv (.int a) (.int b) = decide (a = b) := by
  show (a == b) = _
  by_cases h : a = b <;> simp [h]
theorem dat_ints (l : List Int) {k : Nat} : PV.dat (k + 1) (.lst (l.map .int)) = true := by
  show (l.map PV.int).all (PV.dat k) = true
  rw [List.all_eq_true]
  intro x hx
  obtain ⟨i, _, rfl⟩ := List.mem_map.mp hx
  cases k <;> rfl
theorem eqv_one (x : Option Int) (i : Int) : PV.eqv (.lst (x.toList.map .int)) (.lst [.int i]) = decide (x = some i) := by
  cases x with
  | none => rfl
  | some j =>
    show ((j == i) && true) = _
    by_cases h : j = i <;> simp [h]
theorem runBad_le {row : List Int} {m : Int} {left wd : Nat} (h : runBad row m left wd = false) (hw : wd ≤ 24) : (row.length : Int) + m + left ≤ wMax wd ∧ m ≤ 24 := by
  unfold runBad at h
  unfold wMax
  simp at h
  obtain ⟨_, h⟩ := h
  split at h <;> split <;> omega
theorem runBad_pos {row : List Int} {m : Int} {left wd : Nat} (h : runBad row m left wd = false) (hl : (row.length : Int) + left + 1 ≤ wMax wd) : 1 ≤ m := by
  unfold runBad at h
  unfold wMax at hl
  simp at h
  obtain ⟨h, _⟩ := h
  split at h <;> split at hl <;> (try split at h) <;> omega
theorem loop_row {o : List Int} {a at_ m wd : Nat} (ho : Oct o) (hw : wd ≤ 24) {D : Ends} {XX : XE} : ∀ (l k : Nat) (row : List Int) (e5 e6 e7 : Option SV), k + l = m → row.length ≤ 24 → m ≤ 1000 → at_ ≤ 100000 →
    (match runsT o wd l (at_ + 1 + 2 * k) row with
      | .bad i => ∀ row', D.rt (.tup [.lst [], .int at_, .lst [.int i]]) (upd M a (.lst row'))
      | .cut => ∀ row', D.rt (.tup [.lst [], .int at_, .lst []]) (upd M a (.lst row'))
      | .full row' _ => ∀ e5 e6 e7, D.nx [some (.pv (octV o)), some (.pv (.int at_)), some (.pv (.int wd)), some (.pv (.int m)), some (.pv (.ref a)), e5, e6, e7] (upd M a (.lst (row'.map .int)))) →
    forL (fun _ => True) (fun v env M Q => wT LD.G (cal LD.G (n + 1)) d_row_told_t1 v env M Q (XX env)) (fun env M D => wSs LD.G (cal LD.G (n + 1)) d_row_told_b4 env M D XX) D ((List.range' k l).map fun (i : Nat) => PV.int (i : Int))
      [some (.pv (octV o)), some (.pv (.int at_)), some (.pv (.int wd)), some (.pv (.int m)), some (.pv (.ref a)), e5, e6, e7] (upd M a (.lst (row.map .int))) := by
  intro l
  induction l with
  | zero =>
    intro k row e5 e6 e7 hk hr hm ha h
    exact ⟨trivial, h _ _ _⟩
  | succ l ih =>
    intro k row e5 e6 e7 hk hr hm ha h
    have hline : line = 16777216 := rfl
    rw [List.range'_succ, List.map_cons]
    refine ⟨trivial, ?_⟩
    dsimp only
    rw [d_row_told_t1_u]
    simp
    rw [d_row_told_b4_u]
    have es : ((at_ : Int) + 1 + 2 * (k : Int)) = ((at_ + 1 + 2 * k : Nat) : Int) := by omega
    simp only [show LD.G.consts "MOST_INK" = some (.int 7) from rfl, e_bin, e_var, e_int, sl0, slS, b_add, b_mul, s_cons', s_asg', t_var', List.set]
    refine ⟨.inl (by constructor <;> omega), ?_⟩
    rw [es]
    generalize hs : at_ + 1 + 2 * k = sp at h
    simp [octV]
    have left_eq : ((m : Int) - (k : Int) - 1) = (l : Int) := by omega
    unfold runsT at h
    cases h1 : o[sp]? with
    | none =>
      have hlt : o.length ≤ sp := by simpa using h1
      rw [h1] at h
      have c : ¬ sp < o.length := by omega
      have c2 : (o.length : Int) ≤ (sp : Int) + 1 := by omega
      simp [c, c2, hline]
      exact h _
    | some v =>
      have hlt := (List.getElem?_eq_some_iff.mp h1).1
      rw [h1] at h
      dsimp only at h
      simp only [hlt, decide_true]
      rw [show (PV.tup (o.map .int)) = octV o from rfl, sub_oct h1, left_eq]
      refine s_wrong_in_run (r := row) (left := l) (wd := wd) ir_upd ?_
      simp
      cases hb : runBad row v l wd with
      | true =>
        rw [if_pos hb] at h
        simp [hline]
        exact h _
      | false =>
        rw [if_neg (by simp [hb])] at h
        simp
        obtain ⟨b1, b2⟩ := runBad_le hb hw
        have hv := ho.at h1
        have hW : wMax wd ≤ 24 := by unfold wMax; split <;> omega
        cases h2 : o[sp + 1]? with
        | none =>
          have hlt2 : o.length ≤ sp + 1 := by simpa using h2
          rw [h2] at h
          have c2 : (o.length : Int) ≤ (sp : Int) + 1 := by omega
          simp [octV, c2, hline]
          exact h _
        | some ink =>
          have hlt2 := (List.getElem?_eq_some_iff.mp h2).1
          rw [h2] at h
          dsimp only at h
          have c2 : ¬ (o.length : Int) ≤ (sp : Int) + 1 := by omega
          have ei : ((sp : Int) + 1) = ((sp + 1 : Nat) : Int) := by omega
          have gi : ∀ {Q : PV → MM → Prop} {M : MM} {X : XK}, wSub (octV o) (.int ((sp : Int) + 1)) M Q X = Q (.int ink) M := fun {Q M X} => by rw [ei]; exact sub_oct h2
          have kc : LD.G.consts "MOST_INK" = some (.int 7) := rfl
          have ir : itemsR (upd M a (.lst (row.map .int))) (octV o) = some (o.map .int) := rfl
          simp [ir, c2, gi, kc, isNon]
          by_cases c7 : 7 < ink
          · rw [if_pos (.inl c7)] at h
            simp [c7, hline]
            exact h _
          · simp [c7]
            have isl : wSli (PV.ref a) (some (-1)) none (upd M a (MO.lst (row.map PV.int))) = fun Q _ => Q (.lst ((row.getLast?.toList).map .int)) (upd M a (MO.lst (row.map PV.int))) := by
              funext Q X
              show (match itemsR (upd M a (MO.lst (row.map PV.int))) (.ref a) with | some xs => Q (.lst (sliceOf xs (some (-1)) none)) _ | none => False) = _
              rw [ir_upd]
              dsimp only
              rw [slice_last, List.getLast?_map]
              cases row.getLast? <;> rfl
            rw [isl]
            refine ⟨by omega, ?_⟩
            rw [wEq_def, show rd (upd M a (MO.lst (row.map PV.int))) (.lst (row.getLast?.toList.map .int)) = .lst (row.getLast?.toList.map .int) from rfl, show rd (upd M a (MO.lst (row.map PV.int))) (.lst [.int ink]) = .lst ([ink].map .int) from rfl]
            refine ⟨dat_ints _, dat_ints _, ?_⟩
            rw [show PV.lst ([ink].map .int) = PV.lst [.int ink] from rfl, eqv_one]
            by_cases c8 : row.getLast? = some ink
            · rw [if_pos (.inr c8)] at h
              simp only [c8, decide_true, if_true]
              exact ⟨by omega, by omega, h _⟩
            · rw [if_neg (by simp [c7, c8])] at h
              simp only [c8, decide_false, Bool.false_eq_true, if_false, lo_upd]
              rw [sub_oct h1]
              dsimp only
              refine ⟨by unfold big62; omega, ?_⟩
              have ecl : clean (wipeE [some (SV.pv (octV o)), some (SV.pv (PV.int at_)), some (SV.pv (PV.int wd)), some (SV.pv (PV.int m)), some (SV.pv (PV.ref a)), some (SV.pv (PV.int k)), some (SV.pv (PV.int sp)), e7] [7]) = [some (SV.pv (octV o)), some (SV.pv (PV.int at_)), some (SV.pv (PV.int wd)), some (SV.pv (PV.int m)), some (SV.pv (PV.ref a)), some (SV.pv (PV.int k)), some (SV.pv (PV.int sp)), none] := rfl
              rw [ecl]
              refine comp_pure (f := fun _ => .int ink) _ [] (fun x _ K hK => ?_) (by rw [upTo_len]; simp; omega) ?_
              · rw [d_row_told_t2_u]
                simp
                rw [d_row_told_e3_u]
                simp
                rw [gi]
                exact hK
              · have eu : [] ++ (upTo 0 v.toNat).map (fun _ => PV.int ink) = (List.replicate v.toNat ink).map PV.int := by
                  simp [List.map_const', upTo_len]
                rw [eu, mb_ext (zs := (List.replicate v.toNat ink).map PV.int) rfl]
                refine ⟨by simp; omega, ?_⟩
                rw [← List.map_append]
                refine ih (k + 1) (row ++ List.replicate v.toNat ink) _ _ _ (by omega) (by simp; omega) hm ha ?_
                have e2 : at_ + 1 + 2 * (k + 1) = sp + 2 := by omega
                rw [e2]
                exact h
/-- what stands in the row read -/
def RowR.Good : RowR → Prop
  | .full row _ => row ≠ [] ∧ row.length ≤ 24
  | _ => True
theorem s_row_told {o : List Int} {at_ wd : Nat} (ho : Oct o) (hw : wd ≤ 24) (ha : at_ ≤ 100000) (h : ∀ M', M' = M → Q (rowRV at_ (rowT o at_ wd)) M') :
    cal LD.G (n + 2) (.fn "row_told") ⟨[.pv (octV o), .pv (.int at_), .pv (.int wd)], []⟩ M Q X := by
  have hline : line = 16777216 := rfl
  have h := h M rfl
  refine call0 (d := d_row_told) (svs := [.pv (octV o), .pv (.int at_), .pv (.int wd)]) rfl rfl rfl rfl ?_
  unfold d_row_told
  unfold rowT at h
  have kc : LD.G.consts "MOST_ROW" = some (.int 24) := rfl
  cases h1 : o[at_]? with
  | none =>
    have hlt : o.length ≤ at_ := by simpa using h1
    rw [h1] at h
    simp [octV, hlt, hline]
    rw [frz_tup]
    simpa [rowRV] using h
  | some m =>
    have hlt := (List.getElem?_eq_some_iff.mp h1).1
    have hm := ho.at h1
    rw [h1] at h
    dsimp only at h
    have c : ¬ o.length ≤ at_ := by omega
    simp [octV, c, kc]
    rw [show (PV.tup (o.map .int)) = octV o from rfl, sub_oct h1]
    intro a hn
    simp [tgLen, hline, kc]
    have hW : wMax wd ≤ 24 := by unfold wMax; split <;> omega
    have fin : ∀ (row : List Int), Q (rowRV at_ (.full row (at_ + 1 + 2 * m.toNat))) M → Q (frz M (upd M a (.lst (row.map .int))) 4 (.tup [.ref a, .int ((at_ : Int) + 1 + 2 * m), .lst []])) (restr M (upd M a (.lst (row.map .int)))) := fun row hq => by
      rw [restr_new hn, restr_self, frz_tup]
      simp only [List.map_cons, List.map_nil, frz_int, frz_lst]
      rw [frz_new hn, frz_map_int]
      have e : ((at_ : Int) + 1 + 2 * m) = ((at_ + 1 + 2 * m.toNat : Nat) : Int) := by omega
      rw [e]
      exact hq
    have bad : ∀ (i : Nat) (row' : List PV), Q (rowRV at_ (.bad i)) M → Q (frz M (upd M a (.lst row')) 4 (.tup [.lst [], .int at_, .lst [.int i]])) (restr M (upd M a (.lst row'))) := fun i row' hq => by
      rw [restr_new hn, restr_self, frz_tup]
      simpa [rowRV] using hq
    have cut : ∀ (row' : List PV), Q (rowRV at_ .cut) M → Q (frz M (upd M a (.lst row')) 4 (.tup [.lst [], .int at_, .lst []])) (restr M (upd M a (.lst row'))) := fun row' hq => by
      rw [restr_new hn, restr_self, frz_tup]
      simpa [rowRV] using hq
    have nx : ∀ (l at2 : Nat) (row row' : List Int) (e : Nat), runsT o wd l at2 row = .full row' e → e = at2 + 2 * l := by
      intro l
      induction l with
      | zero => intro at2 row row' e he; unfold runsT at he; cases he; omega
      | succ l ih =>
        intro at2 row row' e he
        unfold runsT at he
        split at he
        · cases he
        · split at he
          · cases he
          · split at he
            · cases he
            · split at he
              · cases he
              · have := ih _ _ _ _ he
                omega
    have em : m = ((m.toNat : Nat) : Int) := by omega
    have eu : upTo 0 m.toNat = (List.range' 0 m.toNat).map fun (i : Nat) => PV.int (i : Int) := by
      unfold upTo
      rw [List.range_eq_range']
      apply List.map_congr_left
      intro i _
      simp
    by_cases c1 : 1 ≤ m
    · by_cases c3 : m ≤ wMax wd
      · rw [if_pos ⟨c1, c3⟩] at h
        have c4 := c3
        unfold wMax at c4
        by_cases c2 : 0 < wd
        all_goals
          simp only [c2, if_true, if_false] at c4
          simp only [c1, c2, c4, if_true, if_false, decide_true, decide_false, Bool.false_eq_true]
          refine ⟨by unfold big62; omega, ?_⟩
          rw [eu]
          have q := fun D => loop_row (D := D) (n := n) (a := a) (M := M) (m := m.toNat) ho hw m.toNat 0 [] none none none (by omega) (by simp) (by omega) ha (XX := fun _ c fs M' => X c (fs.map fun p => (p.1, frz M M' 4 p.2)) (restr M M'))
          simp only [← em] at q
          refine q _ ?_
          rw [show at_ + 1 + 2 * 0 = at_ + 1 from rfl]
          cases hr : runsT o wd m.toNat (at_ + 1) [] with
          | bad i => rw [hr] at h; exact fun row' => bad i row' h
          | cut => rw [hr] at h; exact fun row' => cut row' h
          | full row e =>
            rw [hr] at h
            have he := nx _ _ _ _ _ hr
            subst he
            intro e5 e6 e7
            simp
            refine ⟨.inl (by decide), ?_⟩
            exact fin row h
      · rw [if_neg (fun z => c3 z.2)] at h
        have c4 := c3
        unfold wMax at c4
        by_cases c2 : 0 < wd
        all_goals
          simp only [c2, if_true, if_false] at c4
          simp only [c1, c2, c4, if_true, if_false, decide_true, decide_false, Bool.false_eq_true]
          exact bad at_ _ h
    · rw [if_neg (fun z => c1 z.1)] at h
      simp only [c1, if_false, decide_false, Bool.false_eq_true]
      exact bad at_ _ h
theorem runsT_good {o : List Int} {wd : Nat} (hw : wd ≤ 24) : ∀ (l at_ : Nat) (row : List Int), (row.length : Int) + l ≤ wMax wd → row.length + l ≠ 0 → (runsT o wd l at_ row).Good := by
  intro l
  induction l with
  | zero =>
    intro at_ row h1 h2
    unfold runsT
    refine ⟨fun e => by subst e; simp at h2, ?_⟩
    unfold wMax at h1
    split at h1 <;> omega
  | succ l ih =>
    intro at_ row h1 h2
    unfold runsT
    split
    · trivial
    · rename_i m hm
      split
      · trivial
      · rename_i hb
        have hb : runBad row m l wd = false := by simpa using hb
        obtain ⟨b1, b2⟩ := runBad_le hb hw
        have b3 := runBad_pos hb (by omega)
        split
        · trivial
        · split
          · trivial
          · exact ih _ _ (by simp; omega) (by simp; omega)
theorem rowT_good {o : List Int} {at_ wd : Nat} (hw : wd ≤ 24) : (rowT o at_ wd).Good := by
  unfold rowT
  split
  · trivial
  · split
    · rename_i h
      exact runsT_good hw _ _ _ (by simp; omega) (by simp; omega)
    · trivial
end
end LW
end

section
set_option Elab.async false
set_option linter.all false
set_option maxRecDepth 100000
set_option maxHeartbeats 400000
namespace LW
open IB
section
variable {n : Nat} {M : MM} {X : XK} {Q : PV → MM → Prop}
theorem rowT_nx {o : List Int} {at_ wd nx : Nat} {row : List Int} (hw : wd ≤ 24) (h : rowT o at_ wd = .full row nx) : nx ≤ at_ + 49 := by
  have key : ∀ (l at2 : Nat) (row row' : List Int) (e : Nat), runsT o wd l at2 row = .full row' e → e = at2 + 2 * l := by
    intro l
    induction l with
    | zero => intro at2 row row' e he; unfold runsT at he; cases he; omega
    | succ l ih =>
      intro at2 row row' e he
      unfold runsT at he
      split at he
      · cases he
      · split at he
        · cases he
        · split at he
          · cases he
          · split at he
            · cases he
            · have := ih _ _ _ _ he
              omega
  unfold rowT at h
  split at h
  · cases h
  · split at h
    · rename_i c
      have := key _ _ _ _ _ h
      have hW : wMax wd ≤ 24 := by unfold wMax; split <;> omega
      omega
    · cases h
inductive RowsR where
  | bad (i : Nat) | cut | done (rows : List (List Int)) (at_ : Nat)
def rowsL (o : List Int) : Nat → Nat → Nat → List (List Int) → RowsR
  | 0, at_, _, acc => .done acc at_
  | k + 1, at_, wd, acc => match rowT o at_ wd with
    | .bad i => .bad i
    | .cut => .cut
    | .full row nx => rowsL o k nx row.length (acc ++ [row])
inductive ToldR where
  | bad (i : Nat) | cut | full (rows : List (List Int)) (nx : Nat)
def sumT (o : List Int) (rows : List (List Int)) (at_ : Nat) : ToldR := match o[at_]? with
  | none => .cut
  | some s => if s = (o.take at_).sum % 251 then .full rows (at_ + 1) else .bad at_
/-- a message read: what is wrong with its head; a width, 0 for any -/
def toldT (hb : Option Nat) (o : List Int) (wd : Nat) : ToldR := match hb with
  | some i => .bad i
  | none => match o[3]? with
    | none => .cut
    | some d => match rowsL o d.toNat 4 wd [] with
      | .bad i => .bad i
      | .cut => .cut
      | .done rows at_ => sumT o rows at_
def ToldIs (r : ToldR) (v : PV) : Prop := match r with
  | .bad i => ∃ rows : List (List Int), v = .tup [pgV rows, .lst [], .lst [.int i]]
  | .cut => ∃ rows : List (List Int), v = .tup [pgV rows, .lst [], .lst []]
  | .full rows nx => v = .tup [pgV rows, .lst [.int nx], .lst []]
theorem eqv_lnil (l : List Int) : PV.eqv (.lst (l.map .int)) (.lst []) = decide (l = []) := by
  cases l <;> rfl
theorem loop_told {o : List Int} {a : Nat} (ho : Oct o) {D : Ends} {XX : XE} {e1 : Option SV} : ∀ (its : List PV) (at_ wd : Nat) (acc : List (List Int)) (e3 e6 e7 : Option SV), wd ≤ 24 → at_ + 49 * its.length ≤ 90000 → acc.length + its.length ≤ 1000 →
    (match rowsL o its.length at_ wd acc with
      | .bad i => ∀ rows : List (List Int), D.rt (.tup [pgV rows, .lst [], .lst [.int i]]) (upd M a (.lst (rows.map rowV)))
      | .cut => ∀ rows : List (List Int), D.rt (.tup [pgV rows, .lst [], .lst []]) (upd M a (.lst (rows.map rowV)))
      | .done rows at_ => ∀ e2 e3 e6 e7, at_ ≤ 90000 → D.nx [some (.pv (octV o)), e1, e2, e3, some (.pv (.ref a)), some (.pv (.int at_)), e6, e7] (upd M a (.lst (rows.map rowV)))) →
    forL (fun _ => True) (fun v env M Q => wT LD.G (cal LD.G (n + 2)) d_told_by_t1 v env M Q (XX env)) (fun env M D => wSs LD.G (cal LD.G (n + 2)) d_told_by_b2 env M D XX) D its
      [some (.pv (octV o)), e1, some (.pv (.int wd)), e3, some (.pv (.ref a)), some (.pv (.int at_)), e6, e7] (upd M a (.lst (acc.map rowV))) := by
  intro its
  induction its with
  | nil =>
    intro at_ wd acc e3 e6 e7 hw ha hl h
    exact ⟨trivial, h _ _ _ _ (by simpa using ha)⟩
  | cons it its ih =>
    intro at_ wd acc e3 e6 e7 hw ha hl h
    have hline : line = 16777216 := rfl
    simp only [List.length_cons] at ha hl h
    unfold rowsL at h
    have hgood := rowT_good (o := o) (at_ := at_) hw
    refine ⟨trivial, ?_⟩
    dsimp only
    rw [d_told_by_t1_u]
    simp
    rw [d_told_by_b2_u]
    simp
    refine s_row_told ho hw (by omega) fun M' hM => ?_
    subst hM
    cases hr : rowT o at_ wd with
    | bad i =>
      rw [hr] at h
      simp [rowRV, tgLen, hline]
      rw [wEq_def, show rd (upd M a (MO.lst (acc.map rowV))) (.lst []) = .lst (([] : List Int).map .int) from rfl]
      refine ⟨dat_ints _, dat_ints _, ?_⟩
      simp [eqv_lnil]
      exact h acc
    | cut =>
      rw [hr] at h
      simp [rowRV, tgLen, hline]
      rw [wEq_def, show rd (upd M a (MO.lst (acc.map rowV))) (.lst []) = .lst (([] : List Int).map .int) from rfl]
      refine ⟨dat_ints _, dat_ints _, ?_⟩
      simp [eqv_lnil]
      exact h acc
    | full row nx =>
      rw [hr] at h hgood
      obtain ⟨g1, g2⟩ := hgood
      have hnx := rowT_nx hw hr
      simp [rowRV, tgLen, hline]
      rw [wEq_def, show rd (upd M a (MO.lst (acc.map rowV))) (.lst (row.map .int)) = .lst (row.map .int) from rfl, show rd (upd M a (MO.lst (acc.map rowV))) (.lst []) = .lst (([] : List Int).map .int) from rfl]
      refine ⟨dat_ints _, dat_ints _, ?_⟩
      rw [show ([] : List Int).map PV.int = [] from rfl, eqv_lnil]
      simp [g1, hline]
      refine ⟨by omega, ?_⟩
      have q := ih nx row.length (acc ++ [row]) (some (.pv (.lst []))) (some (.pv it)) (some (.pv (.lst (row.map .int)))) g2 (by omega) (by simp; omega) h
      simpa [rowV] using q
theorem s_less_whole {v : Int} (h : Q (.int (v % 251)) M) : cal LD.G (n + 1) (.fn "less_whole") ⟨[.pv (.int v)], []⟩ M Q X := by
  refine call0 (d := d_less_whole) (svs := [.pv (.int v)]) rfl rfl rfl rfl ?_
  unfold d_less_whole
  simp [show LD.G.consts "MOST_SUM" = some (.int 251) from rfl]
  exact h
def optV : Option Nat → PV
  | none => .lst []
  | some i => .lst [.int i]
theorem s_told_by {o : List Int} {heads : PV} {hb : Option Nat} {wd : Nat} (ho : Oct o) (hw : wd ≤ 24) (hhead : ∀ (M : MM) (Q : PV → MM → Prop) (X : XK), Q (optV hb) M → cal LD.G (n + 2) (.fn "wrong_in_head") ⟨[.pv (octV o), .pv heads], []⟩ M Q X)
    (h : ∀ v, ToldIs (toldT hb o wd) v → Q v M) : cal LD.G (n + 3) (.fn "told_by") ⟨[.pv (octV o), .pv heads, .pv (.int wd)], []⟩ M Q X := by
  have hline : line = 16777216 := rfl
  refine call0 (d := d_told_by) (svs := [.pv (octV o), .pv heads, .pv (.int wd)]) rfl rfl rfl rfl ?_
  unfold d_told_by
  simp
  refine hhead _ _ _ ?_
  intro a hn
  have kc : LD.G.consts "HEAD" = some (.int 4) := rfl
  have fin : ∀ (rows : List (List Int)) (l1 l2 : List Int), Q (.tup [pgV rows, .lst (l1.map .int), .lst (l2.map .int)]) M → ∀ (ys : List PV), Q (frz M (upd M a (.lst ys)) 4 (.tup [pgV rows, .lst (l1.map .int), .lst (l2.map .int)])) (restr M (upd M a (.lst ys))) := fun rows l1 l2 hq ys => by
    rw [restr_new hn, restr_self, frz_tup]
    have e : frz M (upd M a (.lst ys)) 3 (pgV rows) = pgV rows := by
      unfold pgV
      rw [show (3 : Nat) = 2 + 1 from rfl, frz_tup, List.map_map]
      refine congrArg PV.tup (List.map_congr_left fun r _ => ?_)
      show frz M (upd M a (.lst ys)) (1 + 1) (.tup (r.map .int)) = _
      rw [frz_tup, List.map_map]
      exact congrArg PV.tup (List.map_congr_left fun p _ => frz_int)
    simp only [List.map_cons, List.map_nil, e, frz_lst]
    exact hq
  simp [kc, tgLen, hline]
  have hdat : PV.dat 50 (optV hb) = true := by cases hb <;> rfl
  have hne : ∀ {QB : Bool → MM → Prop} {X : XK} {M : MM}, QB hb.isSome M → wCmp .ne (optV hb) (.lst []) M QB X := fun {QB X M} hq => by
    rw [wNe_def, show rd M (optV hb) = optV hb by cases hb <;> rfl, show rd M (.lst []) = .lst (([] : List Int).map .int) from rfl]
    refine ⟨hdat, dat_ints _, ?_⟩
    cases hb <;> exact hq
  refine hne ?_
  cases hb with
  | some i =>
    simp
    exact fin [] [] [(i : Int)] (h _ ⟨[], rfl⟩) []
  | none =>
    unfold toldT at h
    dsimp only at h
    simp [show itemsR (upd M a (MO.lst [])) (octV o) = some (o.map .int) from rfl]
    cases h3 : o[3]? with
    | none =>
      have hlt : o.length ≤ 3 := by simpa using h3
      rw [h3] at h
      rw [if_pos (by omega)]
      exact fin [] [] [] (h _ ⟨[], rfl⟩) []
    | some d =>
      have hlt := (List.getElem?_eq_some_iff.mp h3).1
      have hd := ho.at h3
      rw [h3] at h
      dsimp only at h
      rw [if_neg (by omega), show (PV.int 3) = PV.int ((3 : Nat) : Int) from rfl, sub_oct h3]
      dsimp only
      refine ⟨by unfold big62; omega, ?_⟩
      refine loop_told (n := n) (its := upTo 0 d.toNat) (at_ := 4) (wd := wd) (acc := []) ho _ _ _ hw (by rw [upTo_len]; omega) (by rw [upTo_len]; simp; omega) ?_
      rw [upTo_len]
      cases hr : rowsL o d.toNat 4 wd [] with
      | bad i => rw [hr] at h; exact fun rows => fin rows [] [(i : Int)] (h _ ⟨rows, rfl⟩) _
      | cut => rw [hr] at h; exact fun rows => fin rows [] [] (h _ ⟨rows, rfl⟩) _
      | done rows at_ =>
        rw [hr] at h
        dsimp only at h
        intro e2 e3 e6 e7 hat
        unfold sumT at h
        simp [show ∀ M, itemsR M (octV o) = some (o.map .int) from fun _ => rfl]
        cases h4 : o[at_]? with
        | none =>
          have hlt : o.length ≤ at_ := by simpa using h4
          have c : ¬ at_ < o.length := by omega
          rw [h4] at h
          simp [c, hline, show ∀ M, itemsR M (octV o) = some (o.map .int) from fun _ => rfl]
          exact fin rows [] [] (h _ ⟨rows, rfl⟩) _
        | some s =>
          have hlt2 := (List.getElem?_eq_some_iff.mp h4).1
          rw [h4] at h
          dsimp only at h
          simp [hlt2, isNon]
          rw [sub_oct h4]
          have isl : ∀ {Q : PV → MM → Prop} {M : MM} {X : XK}, wSli (octV o) none (some (at_ : Int)) M Q X = Q (octV (o.take at_)) M := fun {Q M X} => by
            show Q (.tup (sliceOf (o.map .int) none (some (at_ : Int)))) M = _
            rw [slice_to, ← List.map_take]; rfl
          rw [isl]
          simp [octV]
          rw [← List.map_take, ints_map]
          dsimp only
          refine s_less_whole ?_
          simp
          by_cases c : s = (o.take at_).sum % 251
          · rw [if_pos c] at h
            simp [c, hlt2, hline]
            have := fin rows [((at_ + 1 : Nat) : Int)] [] (h _ rfl) (rows.map rowV)
            have e : ((at_ : Int) + 1) = ((at_ + 1 : Nat) : Int) := by omega
            rw [e]
            exact this
          · rw [if_neg c] at h
            simp [c, hline]
            exact fin rows [] [(at_ : Int)] (h _ ⟨rows, rfl⟩) _
end
end LW
end

section
set_option Elab.async false
set_option linter.all false
set_option maxRecDepth 100000
set_option maxHeartbeats 400000
namespace LW
open IB
section
variable {n : Nat} {M : MM} {X : XK} {Q : PV → MM → Prop}
theorem dat_oct (o : List Int) {k : Nat} : PV.dat (k + 1) (octV o) = true := by
  show (o.map PV.int).all (PV.dat k) = true
  rw [List.all_eq_true]
  intro x hx
  obtain ⟨i, _, rfl⟩ := List.mem_map.mp hx
  cases k <;> rfl
theorem eqvs_ints : ∀ a b : List Int, PV.eqvs (a.map .int) (b.map .int) = decide (a = b)
  | [], [] => rfl
  | [], _ :: _ => rfl
  | _ :: _, [] => rfl
  | x :: xs, y :: ys => by
    show (PV.eqv (.int x) (.int y) && PV.eqvs (xs.map .int) (ys.map .int)) = _
    rw [eqv_int, eqvs_ints xs ys]
    by_cases h1 : x = y <;> by_cases h2 : xs = ys <;> simp [h1, h2]
theorem eqv_oct (a b : List Int) : PV.eqv (octV a) (octV b) = decide (a = b) := eqvs_ints a b
def headsV (hs : List (List Int)) : PV := .lst (hs.map octV)
def hIn (hs : List (List Int)) (o : List Int) (at_ : Nat) : Bool := hs.any fun h => decide (h.take at_ = o.tail.take at_)
/-- the first place of a head that none has -/
def fbad (hs : List (List Int)) (o : List Int) : Nat → Nat → Option Nat
  | 0, _ => none
  | k + 1, at_ => if hIn hs o at_ = true then fbad hs o k (at_ + 1) else some at_
def headBad (hs : List (List Int)) (o : List Int) : Option Nat := match o[0]? with
  | none => none
  | some a => if a = 66 then fbad hs o (min o.length 4 - 1) 1 else some 0
theorem sli_oct {o : List Int} {k : Nat} : wSli (octV o) none (some (k : Int)) M Q X = Q (octV (o.take k)) M := by
  show Q (.tup (sliceOf (o.map .int) none (some (k : Int)))) M = _
  rw [slice_to, ← List.map_take]; rfl
theorem sli_octF {o : List Int} {k : Nat} : wSli (octV o) (some (k : Int)) none M Q X = Q (octV (o.drop k)) M := by
  show Q (.tup (sliceOf (o.map .int) (some (k : Int)) none)) M = _
  rw [slice_from, ← List.map_drop]; rfl
theorem loop_head {hs : List (List Int)} {o : List Int} (hl : hs.length ≤ 20000) {D : Ends} {XX : XE} : ∀ (k at_ : Nat) (e2 e3 : Option SV), 1 ≤ at_ →
    (match fbad hs o k at_ with
      | some i => D.rt (.lst [.int i]) M
      | none => ∀ e2 e3, D.nx [some (.pv (octV o)), some (.pv (headsV hs)), e2, e3] M) →
    forL (fun _ => True) (fun v env M Q => wT LD.G (cal LD.G n) d_wrong_in_head_t1 v env M Q (XX env)) (fun env M D => wSs LD.G (cal LD.G n) d_wrong_in_head_b4 env M D XX) D ((List.range' at_ k).map fun (i : Nat) => PV.int (i : Int))
      [some (.pv (octV o)), some (.pv (headsV hs)), e2, e3] M := by
  intro k
  induction k with
  | zero => intro at_ e2 e3 _ h; exact ⟨trivial, h _ _⟩
  | succ k ih =>
    intro at_ e2 e3 h1 h
    have hline : line = 16777216 := rfl
    rw [List.range'_succ, List.map_cons]
    refine ⟨trivial, ?_⟩
    dsimp only
    rw [d_wrong_in_head_t1_u]
    simp
    rw [d_wrong_in_head_b4_u]
    have es : ((at_ : Int) + 1) = ((at_ + 1 : Nat) : Int) := by omega
    simp [isNon]
    have isl : wSli (octV o) (some 1) (some ((at_ : Int) + 1)) M = fun Q _ => Q (octV (o.tail.take at_)) M := by
      funext Q X
      show Q (.tup (sliceOf (o.map .int) (some ((1 : Nat) : Int)) (some ((at_ : Int) + 1)))) M = _
      rw [es, slice_seg, ← List.map_drop, ← List.map_take, List.drop_one]
      rfl
    rw [isl]
    dsimp only
    unfold headsV
    simp
    have ecl : clean (wipeE [some (SV.pv (octV o)), some (SV.pv (headsV hs)), some (SV.pv (PV.int at_)), e3] [3]) = [some (SV.pv (octV o)), some (SV.pv (headsV hs)), some (SV.pv (PV.int at_)), none] := rfl
    unfold headsV at ecl
    rw [ecl]
    refine comp_pure (f := fun v => match v with | .tup xs => .tup (xs.take at_) | v => v) (hs.map octV) [] (fun x hx K hK => ?_) (by simp; omega) ?_
    · obtain ⟨z, _, rfl⟩ := List.mem_map.mp hx
      rw [d_wrong_in_head_t2_u]
      simp
      rw [d_wrong_in_head_e3_u]
      simp [isNon]
      rw [sli_oct]
      have e : octV (z.take at_) = .tup ((z.map PV.int).take at_) := by unfold octV; rw [List.map_take]
      rw [e]
      exact hK
    · have em : [] ++ (hs.map octV).map (fun v => match v with | .tup xs => .tup (xs.take at_) | v => v) = hs.map fun z => octV (z.take at_) := by
        rw [List.nil_append, List.map_map]
        refine List.map_congr_left fun z _ => ?_
        show PV.tup ((z.map PV.int).take at_) = _
        unfold octV; rw [List.map_take]
      rw [em]
      rw [wNi_lst]
      refine ⟨dat_oct _, ?_, ?_⟩
      · rw [List.all_eq_true]
        intro x hx
        obtain ⟨z, _, rfl⟩ := List.mem_map.mp hx
        exact dat_oct _
      · have ea : ((hs.map fun z => octV (z.take at_)).any fun z => PV.eqv z (octV (o.tail.take at_))) = hIn hs o at_ := by
          rw [List.any_map]
          unfold hIn
          congr 1
          funext z
          exact eqv_oct _ _
        rw [ea]
        unfold fbad at h
        cases hI : hIn hs o at_ with
        | true =>
          rw [if_pos hI] at h
          simp
          exact ih (at_ + 1) _ _ (by omega) h
        | false =>
          rw [if_neg (by simp [hI])] at h
          simp [hline]
          exact h
theorem s_wrong_in_head {hs : List (List Int)} {o : List Int} (hl : hs.length ≤ 20000) (hlo : o.length ≤ 100000) (h : Q (optV (headBad hs o)) M) : cal LD.G (n + 1) (.fn "wrong_in_head") ⟨[.pv (octV o), .pv (headsV hs)], []⟩ M Q X := by
  have hline : line = 16777216 := rfl
  refine call0 (d := d_wrong_in_head) (svs := [.pv (octV o), .pv (headsV hs)]) rfl rfl rfl rfl ?_
  unfold d_wrong_in_head
  have k1 : LD.G.consts "SIGN" = some (.int 66) := rfl
  have k2 : LD.G.consts "HEAD" = some (.int 4) := rfl
  have ir : ∀ M, itemsR M (octV o) = some (o.map .int) := fun _ => rfl
  simp [k1, k2, ir]
  unfold headBad at h
  have em : (if 4 < (o.length : Int) then 4 else (o.length : Int)).toNat - 1 = min o.length 4 - 1 := by split <;> omega
  have eu : upTo 1 (min o.length 4 - 1) = (List.range' 1 (min o.length 4 - 1)).map fun (i : Nat) => PV.int (i : Int) := by
    unfold upTo
    rw [List.range'_eq_map_range, List.map_map]
    apply List.map_congr_left
    intro i _
    show PV.int ((1 : Int) + (i : Int)) = PV.int ((1 + i : Nat) : Int)
    congr 1
  have fz : ∀ v : Option Nat, frz M M 4 (optV v) = optV v := fun v => by cases v <;> simp [optV]
  cases h0 : o[0]? with
  | none =>
    have hlt : o.length ≤ 0 := by simpa using h0
    have e0 : o = [] := by cases o with | nil => rfl | cons _ _ => simp at hlt
    subst e0
    simp
    refine ⟨by unfold big62; omega, by unfold big62; omega, ?_⟩
    refine ⟨trivial, ?_⟩
    simp [hline]
    exact h
  | some a =>
    have hlt := (List.getElem?_eq_some_iff.mp h0).1
    rw [h0] at h
    dsimp only at h
    simp [hlt]
    rw [show (PV.int 0) = PV.int ((0 : Nat) : Int) from rfl, sub_oct h0]
    simp
    by_cases c : a = 66
    · rw [if_pos c] at h
      simp [c]
      refine ⟨by unfold big62; omega, by unfold big62; split <;> omega, ?_⟩
      rw [em, eu]
      refine loop_head hl _ 1 none none (by omega) ?_
      cases hf : fbad hs o (min o.length 4 - 1) 1 with
      | none =>
        rw [hf] at h
        intro e2 e3
        simp [hline]
        exact h
      | some i =>
        rw [hf] at h
        simp
        exact h
    · rw [if_neg c] at h
      simp [c, hline]
      exact h
end
end LW
end

section
set_option Elab.async false
set_option linter.all false
set_option maxRecDepth 100000
set_option maxHeartbeats 400000
namespace LW
open IB
section
variable {n : Nat} {M : MM} {X : XK} {Q : PV → MM → Prop}
theorem s_many_bands {height room : Nat} (hr : 1 ≤ room) (hr2 : room ≤ 1000) (h : Q (.int (((height + room - 1) / room : Nat) : Int)) M) : cal LD.G (n + 1) (.fn "many_bands") ⟨[.pv (.int height), .pv (.int room)], []⟩ M Q X := by
  refine call0 (d := d_many_bands) (svs := [.pv (.int height), .pv (.int room)]) rfl rfl rfl rfl ?_
  unfold d_many_bands
  simp
  refine ⟨⟨by omega, by omega⟩, ?_⟩
  have e : ((height : Int) + room - 1).fdiv room = (((height + room - 1) / room : Nat) : Int) := by
    rw [Int.fdiv_eq_ediv_of_nonneg _ (by omega)]
    have : ((height : Int) + room - 1) = ((height + room - 1 : Nat) : Int) := by omega
    rw [this]; rfl
  rw [e]
  exact h
def nbands (height room : Nat) : Nat := (height + room - 1) / room
def headL (height room b : Nat) : List Int := [(b : Int), ((b * room : Nat) : Int), if (height : Int) - ((b * room : Nat) : Int) < room then (height : Int) - ((b * room : Nat) : Int) else (room : Int)]
def headsL (height room : Nat) : List (List Int) := (List.range (nbands height room)).map (headL height room)
theorem nbands_le {height room : Nat} (hr : 1 ≤ room) : nbands height room ≤ height := by
  unfold nbands
  rw [Nat.div_le_iff_le_mul_add_pred (by omega)]
  have : height ≤ room * height := Nat.le_mul_of_pos_left _ (by omega)
  omega
theorem s_heads_of {height room : Nat} (hr : 1 ≤ room) (hr2 : room ≤ 1000) (hh : height ≤ 1000) (h : Q (headsV (headsL height room)) M) : cal LD.G (n + 2) (.fn "heads_of") ⟨[.pv (.int height), .pv (.int room)], []⟩ M Q X := by
  have hnb := nbands_le (height := height) hr
  refine call0 (d := d_heads_of) (svs := [.pv (.int height), .pv (.int room)]) rfl rfl rfl rfl ?_
  unfold d_heads_of
  simp
  refine s_many_bands hr hr2 ?_
  simp
  refine ⟨by show big62 ((nbands height room : Nat) : Int); unfold big62; omega, ?_⟩
  rw [show (((height + room - 1 : Nat) : Int) / (room : Int)).toNat = nbands height room from rfl]
  refine comp_pure (f := fun v => match v with | .int b => octV (headL height room b.toNat) | v => v) _ [] (fun x hx K hK => ?_) (by rw [upTo_len]; simp; omega) ?_
  · obtain ⟨b, hb, rfl⟩ := List.mem_map.mp hx
    have hb := List.mem_range.mp hb
    rw [d_heads_of_t1_u]
    simp [wipeE, clean]
    rw [d_heads_of_e2_u]
    have hline : line = 16777216 := rfl
    have hm : mulOk (b : Int) (room : Int) := .inr (by constructor <;> omega)
    simp [hline, hm]
    simp [headL, octV] at hK
    exact hK
  · have e : ([] ++ (upTo 0 (nbands height room)).map fun v => match v with | .int b => octV (headL height room b.toNat) | v => v) = (headsL height room).map octV := by
      unfold headsL upTo
      rw [List.nil_append, List.map_map, List.map_map]
      refine List.map_congr_left fun i _ => ?_
      simp
    rw [e]
    show Q (frz M M 4 (.lst _)) (restr M M)
    simp
    exact h
/-- what a band's rows print -/
def prints (f : Int) (rows : List (List Int)) : List PV := (rows.zipIdx 0).map fun (r, i) => .tup [.int (f + (i : Int)), rowV r]
/-- a press reads -/
def pressT (hs : List (List Int)) (wd : Nat) : Nat → List Int → List PV → List PV × List Int × Option Nat
  | 0, o, acc => (acc, o, none)
  | k + 1, o, acc => match toldT (headBad hs o) o wd with
    | .bad i => (acc, o, some i)
    | .cut => (acc, o, none)
    | .full rows nx => pressT hs wd k (o.drop nx) (acc ++ prints (o[2]?.getD 0) rows)
theorem rowsL_len {o : List Int} : ∀ (k at_ wd : Nat) (acc rows : List (List Int)) (e : Nat), rowsL o k at_ wd acc = .done rows e → rows.length = acc.length + k ∧ at_ ≤ e := by
  intro k
  induction k with
  | zero => intro at_ wd acc rows e h; unfold rowsL at h; cases h; exact ⟨rfl, Nat.le_refl _⟩
  | succ k ih =>
    intro at_ wd acc rows e h
    unfold rowsL at h
    split at h
    · cases h
    · cases h
    · rename_i row nx hr
      obtain ⟨h1, h2⟩ := ih _ _ _ _ _ h
      have h3 : at_ ≤ nx := by
        have key : ∀ (l at2 : Nat) (row row' : List Int) (e : Nat), runsT o wd l at2 row = .full row' e → at2 ≤ e := by
          intro l
          induction l with
          | zero => intro at2 row row' e he; unfold runsT at he; cases he; omega
          | succ l ih =>
            intro at2 row row' e he
            unfold runsT at he
            split at he
            · cases he
            · split at he
              · cases he
              · split at he
                · cases he
                · split at he
                  · cases he
                  · have := ih _ _ _ _ he
                    omega
        unfold rowT at hr
        split at hr
        · cases hr
        · split at hr
          · have := key _ _ _ _ _ hr
            omega
          · cases hr
      exact ⟨by rw [h1]; simp; omega, by omega⟩
theorem toldT_full {hb : Option Nat} {o : List Int} {wd nx : Nat} {rows : List (List Int)} (ho : Oct o) (h : toldT hb o wd = .full rows nx) : rows.length ≤ 255 ∧ 5 ≤ nx ∧ nx ≤ o.length ∧ ∃ f, o[2]? = some f := by
  unfold toldT at h
  split at h
  · cases h
  · split at h
    · cases h
    · rename_i d hd
      split at h
      · cases h
      · cases h
      · rename_i rs at_ hr
        unfold sumT at h
        split at h
        · cases h
        · rename_i s hs
          split at h
          · cases h
            obtain ⟨h1, h2⟩ := rowsL_len _ _ _ _ _ _ hr
            have hd2 := ho.at hd
            have hl := (List.getElem?_eq_some_iff.mp hs).1
            refine ⟨by rw [h1]; simp; omega, by omega, by omega, _, List.getElem?_eq_getElem (by omega)⟩
          · cases h
theorem zipIdx_mem {rows : List (List Int)} {i : Nat} {v : PV} (h : v ∈ pairUp (rows.map rowV)) : ∃ (i : Nat) (r : List Int), (r, i) ∈ rows.zipIdx 0 ∧ v = .tup [.int i, rowV r] := by
  unfold pairUp at h
  rw [List.zipIdx_map, List.map_map] at h
  obtain ⟨⟨r, i⟩, h1, rfl⟩ := List.mem_map.mp h
  exact ⟨i, r, h1, rfl⟩
theorem Oct.drop {o : List Int} (h : Oct o) (k : Nat) : Oct (o.drop k) := fun v hv => h v (List.mem_of_mem_drop hv)
theorem loop_press {a : Nat} {hs : List (List Int)} {wd : Nat} (hw : wd ≤ 24) (hl : hs.length ≤ 20000) {D : Ends} {XX : XE} {e2 e3 : Option SV} : ∀ (k : Nat) (o : List Int) (acc : List PV) (v6 v7 v8 : PV) (e9 e10 : Option SV), Oct o → o.length ≤ 100000 → o.length < k → acc.length + 255 * o.length ≤ 10000000 → ToldIs (toldT (headBad hs o) o wd) (.tup [v6, v7, v8]) →
    (∀ v6 v7 e9 e10, D.nx [some (.pv (octV (pressT hs wd k o acc).2.1)), some (.pv (.int wd)), e2, e3, some (.pv (headsV hs)), some (.pv (.ref a)), v6, v7, some (.pv (optV (pressT hs wd k o acc).2.2)), e9, e10] (upd M a (.lst (pressT hs wd k o acc).1))) →
    whileN (fun env M Q => wC LD.G (cal LD.G (n + 3)) d_printed_by_c1 env M Q (XX env)) (fun env M D => wSs LD.G (cal LD.G (n + 3)) d_printed_by_b4 env M D XX) D k
      [some (.pv (octV o)), some (.pv (.int wd)), e2, e3, some (.pv (headsV hs)), some (.pv (.ref a)), some (.pv v6), some (.pv v7), some (.pv v8), e9, e10] (upd M a (.lst acc)) := by
  intro k
  induction k with
  | zero => intro o acc v6 v7 v8 e9 e10 ho hol hk; omega
  | succ k ih =>
    intro o acc v6 v7 v8 e9 e10 ho hol hk hb ht h
    have hline : line = 16777216 := rfl
    show wC LD.G (cal LD.G (n + 3)) d_printed_by_c1 _ _ (fun c M1 => if c = true then _ else _) _
    rw [c_def, d_printed_by_c1_u]
    simp
    unfold pressT at h
    cases hr : toldT (headBad hs o) o wd with
    | bad i =>
      rw [hr] at ht h
      obtain ⟨rows, e⟩ := ht
      cases e
      rw [wNe_def, show rd (upd M a (MO.lst acc)) (.lst []) = .lst (([] : List Int).map .int) from rfl]
      refine ⟨dat_ints _, dat_ints _, ?_⟩
      exact h _ _ _ _
    | cut =>
      rw [hr] at ht h
      obtain ⟨rows, e⟩ := ht
      cases e
      rw [wNe_def, show rd (upd M a (MO.lst acc)) (.lst []) = .lst (([] : List Int).map .int) from rfl]
      refine ⟨dat_ints _, dat_ints _, ?_⟩
      exact h _ _ _ _
    | full rows nx =>
      rw [hr] at ht h
      have e : (PV.tup [v6, v7, v8]) = .tup [pgV rows, .lst [.int nx], .lst []] := ht
      cases e
      obtain ⟨g1, g2, g3, f, g4⟩ := toldT_full ho hr
      rw [wNe_def, show rd (upd M a (MO.lst acc)) (.lst []) = .lst (([] : List Int).map .int) from rfl, show rd (upd M a (MO.lst acc)) (.lst [.int (nx : Int)]) = .lst ([(nx : Int)].map .int) from rfl]
      refine ⟨dat_ints _, dat_ints _, ?_⟩
      show wSs LD.G (cal LD.G (n + 3)) d_printed_by_b4 _ _ _ _
      rw [d_printed_by_b4_u]
      have i2 : ∀ {Q : PV → MM → Prop} {M : MM} {X : XK}, wSub (octV o) (.int 2) M Q X = Q (.int f) M := fun {Q M X} => by
        rw [show (PV.int 2) = PV.int ((2 : Nat) : Int) from rfl]; exact sub_oct g4
      simp [pgV]
      have ecl : clean (wipeE [some (SV.pv (octV o)), some (SV.pv (PV.int wd)), e2, e3, some (SV.pv (headsV hs)), some (SV.pv (PV.ref a)), some (SV.pv (PV.tup (rows.map rowV))), some (SV.pv (PV.lst [PV.int nx])), some (SV.pv (PV.lst [])), e9, e10] [9, 10]) = clean [some (SV.pv (octV o)), some (SV.pv (PV.int wd)), e2, e3, some (SV.pv (headsV hs)), some (SV.pv (PV.ref a)), some (SV.pv (PV.tup (rows.map rowV))), some (SV.pv (PV.lst [PV.int nx])), some (SV.pv (PV.lst [])), none, none] := rfl
      rw [ecl]
      have ecl2 : ∃ y2 y3, clean [some (SV.pv (octV o)), some (SV.pv (PV.int wd)), e2, e3, some (SV.pv (headsV hs)), some (SV.pv (PV.ref a)), some (SV.pv (PV.tup (rows.map rowV))), some (SV.pv (PV.lst [PV.int nx])), some (SV.pv (PV.lst [])), none, none] = [some (SV.pv (octV o)), some (SV.pv (PV.int wd)), y2, y3, some (SV.pv (headsV hs)), some (SV.pv (PV.ref a)), some (SV.pv (PV.tup (rows.map rowV))), some (SV.pv (PV.lst [PV.int nx])), some (SV.pv (PV.lst [])), none, none] := ⟨_, _, rfl⟩
      obtain ⟨y2, y3, ecl2⟩ := ecl2
      rw [ecl2]
      refine comp_pure (f := fun v => match v with | .tup [.int i, r] => .tup [.int (f + i), r] | v => v) _ [] (fun x hx K hK => ?_) (by simp [pairUp]; omega) ?_
      · obtain ⟨i, r, _, rfl⟩ := zipIdx_mem (i := 0) hx
        rw [d_printed_by_t2_u]
        simp [tgLen]
        rw [d_printed_by_e3_u]
        simp [i2, hline]
        exact hK
      · have ep : ([] ++ (pairUp (rows.map rowV)).map fun v => match v with | .tup [.int i, r] => .tup [.int (f + i), r] | v => v) = prints f rows := by
          unfold pairUp prints
          rw [List.nil_append, List.zipIdx_map, List.map_map, List.map_map]
          refine List.map_congr_left fun p _ => ?_
          rfl
        rw [ep, mb_ext (zs := prints f rows) rfl]
        refine ⟨by unfold prints; simp; omega, ?_⟩
        simp [isNon]
        rw [sli_octF]
        have hd : (o.drop nx).length = o.length - nx := by simp
        have hlo : (o.drop nx).length ≤ 100000 := by omega
        refine s_told_by (n := n) (hb := headBad hs (o.drop nx)) (ho.drop nx) hw (fun M Q X hq => s_wrong_in_head (n := n + 1) hl hlo hq) fun v hv => ?_
        have hv3 : ∃ x6 x7 x8, v = .tup [x6, x7, x8] := by
          unfold ToldIs at hv
          split at hv
          · obtain ⟨_, rfl⟩ := hv; exact ⟨_, _, _, rfl⟩
          · obtain ⟨_, rfl⟩ := hv; exact ⟨_, _, _, rfl⟩
          · subst hv; exact ⟨_, _, _, rfl⟩
        obtain ⟨x6, x7, x8, rfl⟩ := hv3
        simp [tgLen]
        rw [g4] at h
        exact ih (o.drop nx) (acc ++ prints f rows) x6 x7 x8 _ _ (ho.drop nx) hlo (by omega) (by unfold prints; simp; omega) hv h
end
end LW
end

section
set_option Elab.async false
set_option linter.all false
set_option maxRecDepth 100000
set_option maxHeartbeats 400000
namespace LW
open IB
section
variable {n : Nat} {M : MM} {X : XK} {Q : PV → MM → Prop}
def PrOk (acc : List PV) : Prop := ∀ v ∈ acc, ∃ (i : Int) (r : List Int), v = .tup [.int i, rowV r]
theorem prints_ok (f : Int) (rows : List (List Int)) : PrOk (prints f rows) := fun v hv => by
  unfold prints at hv
  obtain ⟨⟨r, i⟩, _, rfl⟩ := List.mem_map.mp hv
  exact ⟨_, _, rfl⟩
theorem pressT_ok {hs : List (List Int)} {wd : Nat} : ∀ (k : Nat) (o : List Int) (acc : List PV), PrOk acc → PrOk (pressT hs wd k o acc).1 := by
  intro k
  induction k with
  | zero => intro o acc h; exact h
  | succ k ih =>
    intro o acc h
    unfold pressT
    split
    · exact h
    · exact h
    · exact ih _ _ fun v hv => by
        rcases List.mem_append.mp hv with hv | hv
        · exact h v hv
        · exact prints_ok _ _ v hv
theorem pressT_len {hs : List (List Int)} {wd : Nat} : ∀ (k : Nat) (o : List Int) (acc : List PV), Oct o → (pressT hs wd k o acc).1.length ≤ acc.length + 255 * o.length ∧ (pressT hs wd k o acc).2.1.length ≤ o.length ∧ Oct (pressT hs wd k o acc).2.1 := by
  intro k
  induction k with
  | zero => intro o acc h; exact ⟨by unfold pressT; simp, Nat.le_refl _, h⟩
  | succ k ih =>
    intro o acc h
    unfold pressT
    split
    · exact ⟨by simp, Nat.le_refl _, h⟩
    · exact ⟨by simp, Nat.le_refl _, h⟩
    · rename_i rows nx hr
      obtain ⟨g1, g2, g3, _⟩ := toldT_full h hr
      obtain ⟨h1, h2, h3⟩ := ih (o.drop nx) (acc ++ prints (o[2]?.getD 0) rows) (h.drop nx)
      have hd : (o.drop nx).length = o.length - nx := by simp
      refine ⟨?_, by omega, h3⟩
      have hp : (prints (o[2]?.getD 0) rows).length = rows.length := by unfold prints; simp
      rw [List.length_append, hp, hd] at h1
      omega
theorem frz_row {M M' : MM} {k : Nat} (r : List Int) : frz M M' (k + 1) (rowV r) = rowV r := by
  unfold rowV
  rw [frz_tup, List.map_map]
  exact congrArg PV.tup (List.map_congr_left fun p _ => frz_int)
theorem frz_prs {M M' : MM} {k : Nat} {acc : List PV} (h : PrOk acc) : acc.map (frz M M' (k + 2)) = acc := by
  conv => rhs; rw [← List.map_id acc]
  refine List.map_congr_left fun v hv => ?_
  obtain ⟨i, r, rfl⟩ := h v hv
  rw [frz_tup]
  simp only [List.map_cons, List.map_nil, frz_int, frz_row]
  rfl
theorem s_printed_by {o : List Int} {wd height room : Nat} (ho : Oct o) (hol : o.length ≤ 30000) (hw : wd ≤ 24) (hr : 1 ≤ room) (hr2 : room ≤ 24) (hh : height ≤ 24)
    (h : Q (.tup [.lst (pressT (headsL height room) wd (o.length + 1) o []).1, octV (pressT (headsL height room) wd (o.length + 1) o []).2.1, optV (pressT (headsL height room) wd (o.length + 1) o []).2.2]) M) :
    cal LD.G (n + 4) (.fn "printed_by") ⟨[.pv (octV o), .pv (.int wd), .pv (.int height), .pv (.int room)], []⟩ M Q X := by
  have hline : line = 16777216 := rfl
  have hnb := nbands_le (height := height) hr
  have hhl : (headsL height room).length ≤ 20000 := by unfold headsL; simp; omega
  refine call0 (d := d_printed_by) (svs := [.pv (octV o), .pv (.int wd), .pv (.int height), .pv (.int room)]) rfl rfl rfl rfl ?_
  unfold d_printed_by
  simp
  refine s_heads_of (n := n + 1) hr (by omega) (by omega) ?_
  intro a hn
  simp [tgLen, hline]
  refine s_told_by (n := n) (hb := headBad (headsL height room) o) ho hw (fun M Q X hq => s_wrong_in_head (n := n + 1) hhl (by omega) hq) fun v hv => ?_
  have hv3 : ∃ x6 x7 x8, v = .tup [x6, x7, x8] := by
    unfold ToldIs at hv
    split at hv
    · obtain ⟨_, rfl⟩ := hv; exact ⟨_, _, _, rfl⟩
    · obtain ⟨_, rfl⟩ := hv; exact ⟨_, _, _, rfl⟩
    · subst hv; exact ⟨_, _, _, rfl⟩
  obtain ⟨x6, x7, x8, rfl⟩ := hv3
  simp [tgLen]
  refine ⟨o.length + 1, ?_⟩
  refine loop_press (n := n) hw hhl (o.length + 1) o [] x6 x7 x8 none none ho (by omega) (by omega) (by simp; omega) hv fun v6 v7 e9 e10 => ?_
  simp [hline]
  have hok := pressT_ok (hs := headsL height room) (wd := wd) (o.length + 1) o [] (fun v hv => by cases hv)
  rw [restr_new hn, restr_self, frz_tup]
  simp only [List.map_cons, List.map_nil]
  rw [frz_new hn, frz_prs hok, frz_oct]
  have e : ∀ w : Option Nat, frz M (upd M a (.lst (pressT (headsL height room) wd (o.length + 1) o []).1)) 3 (optV w) = optV w := fun w => by cases w <;> simp [optV]
  rw [e]
  exact h
theorem s_check_number {v : PV} {lo hi : Int} (hv : PV.nr v = true) (h : if btw v lo hi = true then Q .non M else X "InvalidNumber" [("given", v)] M) : cal LD.G (n + 3) (.fn "check_number") ⟨[.pv v, .pv (.int lo), .pv (.int hi)], []⟩ M Q X := by
  have hr : ∀ a, v ≠ .ref a := by rintro a rfl; cases hv
  refine call0 (d := d_check_number) (svs := [.pv v, .pv (.int lo), .pv (.int hi)]) rfl rfl rfl rfl ?_
  unfold d_check_number
  simp
  refine s_is_between hr ?_
  cases hb : btw v lo hi with
  | true =>
    rw [if_pos hb] at h
    simp
    exact h
  | false =>
    rw [if_neg (by simp [hb])] at h
    simp [show LD.G.excs "InvalidNumber" = some (["InvalidNumber", "InkError", "ValueError", "Exception", "BaseException"], ["given"]) from rfl]
    rw [frz_nr _ _ hv]
    exact h
theorem s_check_room {v : PV} (hv : PV.nr v = true) (h : if btw v 1 24 = true then Q .non M else X "InvalidNumber" [("given", v)] M) : cal LD.G (n + 4) (.fn "check_room") ⟨[.pv v], []⟩ M Q X := by
  refine call0 (d := d_check_room) (svs := [.pv v]) rfl rfl rfl rfl ?_
  unfold d_check_room
  simp [show LD.G.consts "MOST_SIDE" = some (.int 24) from rfl]
  refine s_check_number hv ?_
  cases hb : btw v 1 24 with
  | true =>
    rw [if_pos hb] at h
    simp
    exact h
  | false =>
    rw [if_neg (by simp [hb])] at h
    simp
    rw [frz_nr _ _ hv]
    exact h
theorem s_wrong_in_octets {v : PV} (hv : ∀ a, v ≠ .ref a) (hx : ∀ xs, v = .tup xs → ∀ x ∈ xs, ∀ a, x ≠ .ref a) (h : Q (wrongRes (fun _ e => btw e 0 255) 0 2900 v) M) : cal LD.G (n + 6) (.fn "wrong_in_octets") ⟨[.pv v], []⟩ M Q X := by
  refine call0 (d := d_wrong_in_octets) (svs := [.pv v]) rfl rfl rfl rfl ?_
  unfold d_wrong_in_octets
  simp [show LD.G.consts "MOST_OCTETS" = some (.int 2900) from rfl]
  refine s_wrong_in (p := fun _ e => btw e 0 255) (least := 0) (most := 2900) hv (.inr ⟨_, _, _, rfl⟩) (fun xs hxs ahead each k M' Q' X' hk ha _ hq => ?_) ?_
  · refine cal_clo rfl rfl ?_
    simp [captured, show LD.G.consts "MOST_OCTET" = some (.int 255) from rfl]
    exact s_is_up_to (hx xs hxs each (List.mem_of_getElem? hk)) hq
  · simp
    rw [frz_wrong]
    exact h
theorem wrong_shape {p : List PV → PV → Bool} {least most : Nat} (v : PV) : wrongRes p least most v = .lst [] ∨ wrongRes p least most v = .lst [.non] ∨ ∃ i : Nat, wrongRes p least most v = .lst [.int i] := by
  unfold wrongRes
  split
  · split
    · exact .inr (.inl rfl)
    · split
      · exact .inr (.inr ⟨_, rfl⟩)
      · exact .inl rfl
  · exact .inr (.inl rfl)
theorem s_check_octets {v : PV} (hv : ∀ a, v ≠ .ref a) (hx : ∀ xs, v = .tup xs → ∀ x ∈ xs, ∀ a, x ≠ .ref a) (h : match wrongRes (fun _ e => btw e 0 255) 0 2900 v with | .lst (x :: _) => X "InvalidOctets" [("index", x)] M | _ => Q .non M) : cal LD.G (n + 7) (.fn "check_octets") ⟨[.pv v], []⟩ M Q X := by
  refine call0 (d := d_check_octets) (svs := [.pv v]) rfl rfl rfl rfl ?_
  unfold d_check_octets
  simp
  refine s_wrong_in_octets hv hx ?_
  have ke : LD.G.excs "InvalidOctets" = some (["InvalidOctets", "InkError", "ValueError", "Exception", "BaseException"], ["index"]) := rfl
  rcases wrong_shape (p := fun _ e => btw e 0 255) (least := 0) (most := 2900) v with e | e | ⟨i, e⟩
  · rw [e] at h ⊢
    refine ⟨trivial, ?_⟩
    simp
    exact h
  · rw [e] at h ⊢
    refine ⟨trivial, ?_⟩
    dsimp only
    rw [d_check_octets_t1_u]
    simp
    rw [d_check_octets_b2_u]
    simp [ke]
    exact h
  · rw [e] at h ⊢
    refine ⟨trivial, ?_⟩
    dsimp only
    rw [d_check_octets_t1_u]
    simp
    rw [d_check_octets_b2_u]
    simp [ke]
    exact h
theorem octs_ok {o : List Int} (ho : Oct o) (hl : o.length ≤ 2900) : wrongRes (fun _ e => btw e 0 255) 0 2900 (octV o) = .lst [] := by
  unfold wrongRes octV
  dsimp only
  rw [if_neg (by omega), wrongFrom_ok _ _ (by simpa using hl)]
  intro k x hx
  rw [List.getElem?_map] at hx
  obtain ⟨v, hv1, rfl⟩ := Option.map_eq_some_iff.mp hx
  have := ho v (List.mem_of_getElem? hv1)
  simp [btw]
  omega
end
end LW
end

section
set_option Elab.async false
set_option linter.all false
set_option maxRecDepth 100000
set_option maxHeartbeats 400000
namespace LW
open IB
section
variable {n : Nat} {M : MM} {X : XK} {Q : PV → MM → Prop}
def stV (held : List Int) (pr : List PV) : PV := .tup [octV held, .int held.length, .tup pr]
def pressO (w h r : Nat) (held : List Int) (pr : List PV) : MO := .ins "Press" [("sizes", .tup [.int w, .int h, .int r]), ("standing", stV held pr)]
def ccP : CCls := ⟨some "Press.__init__", [("held", "Press.held"), ("printed", "Press.printed")], [("put", "Press.put")], ["sizes", "standing"], true⟩
theorem cls_press : LD.G.clss "Press" = some ccP := rfl
theorem s_held {p w h r : Nat} {held : List Int} {pr : List PV} (h0 : M p = some (pressO w h r held pr)) (hq : Q (.int held.length) M) : cal LD.G (n + 1) (.fn "Press.held") ⟨[.pv (.ref p)], []⟩ M Q X := by
  refine call0 (d := d_Press_held) (svs := [.pv (.ref p)]) rfl rfl rfl rfl ?_
  unfold d_Press_held
  simp [h0, pressO, cls_press, ccP, List.lookup, stV]
  exact hq
theorem s_printed {p w h r : Nat} {held : List Int} {pr : List PV} (h0 : M p = some (pressO w h r held pr)) (hp : PrOk pr) (hq : Q (.tup pr) M) : cal LD.G (n + 1) (.fn "Press.printed") ⟨[.pv (.ref p)], []⟩ M Q X := by
  refine call0 (d := d_Press_printed) (svs := [.pv (.ref p)]) rfl rfl rfl rfl ?_
  unfold d_Press_printed
  simp [h0, pressO, cls_press, ccP, List.lookup, stV]
  rw [show (PV.int 2) = PV.int ((2 : Nat) : Int) from rfl]
  rw [sub_at (xs := [octV held, .int held.length, .tup pr]) (v := .tup pr) rfl rfl]
  rw [frz_tup, frz_prs hp, restr_self]
  exact hq
theorem s_init {p w h r : Nat} (h0 : M p = some (.ins "Press" [])) (hw : 1 ≤ w ∧ w ≤ 24) (hh : 1 ≤ h ∧ h ≤ 24) (hr : 1 ≤ r ∧ r ≤ 24) (hq : Q .non (upd M p (pressO w h r [] []))) : cal LD.G (n + 5) (.fn "Press.__init__") ⟨[.pv (.ref p), .pv (.int w), .pv (.int h), .pv (.int r)], []⟩ M Q X := by
  have hline : line = 16777216 := rfl
  have hs : (M p).isSome = true := by rw [h0]; rfl
  refine call0 (d := d_Press___init__) (svs := [.pv (.ref p), .pv (.int w), .pv (.int h), .pv (.int r)]) rfl rfl rfl rfl ?_
  unfold d_Press___init__
  have b : ∀ k : Nat, 1 ≤ k ∧ k ≤ 24 → btw (.int (k : Int)) 1 24 = true := fun k hk => by simp [btw]; omega
  simp [show LD.G.consts "MOST_ROW" = some (.int 24) from rfl]
  refine s_check_number (n := n + 1) rfl ?_
  rw [if_pos (b w hw)]
  refine s_check_number (n := n + 1) rfl ?_
  rw [if_pos (b h hh)]
  refine s_check_room (n := n) rfl ?_
  rw [if_pos (b r hr)]
  simp [hline, h0, cls_press, ccP, putF]
  rw [restr_old hs, restr_self]
  exact hq
theorem s_put {p w h r : Nat} {held : List Int} {pr : List PV} {v : PV} {as : Args} (has : as = ⟨[.pv (.ref p), .pv v], []⟩ ∨ as = ⟨[.pv (.ref p)], [("octets", v)]⟩) (h0 : M p = some (pressO w h r held pr)) (hw : 1 ≤ w ∧ w ≤ 24) (hh : 1 ≤ h ∧ h ≤ 24) (hr : 1 ≤ r ∧ r ≤ 24) (hheld : Oct held) (hhl : held.length ≤ 20000) (hp : PrOk pr) (hpl : pr.length ≤ 6000000)
    (hv : ∀ a, v ≠ .ref a) (hx : ∀ xs, v = .tup xs → ∀ x ∈ xs, ∀ a, x ≠ .ref a)
    (hq : match wrongRes (fun _ e => btw e 0 255) 0 2900 v with
      | .lst (x :: _) => X "InvalidOctets" [("index", x)] M
      | _ => ∃ o, v = octV o ∧ Oct o ∧ o.length ≤ 2900 ∧ match pressT (headsL h r) w ((held ++ o).length + 1) (held ++ o) [] with
        | (acc, o', none) => Q (.tup acc) (upd M p (pressO w h r o' (pr ++ acc)))
        | (acc, _, some i) => X "InvalidOctets" [("index", .int (i : Int))] (upd M p (pressO w h r [] (pr ++ acc)))) : cal LD.G (n + 8) (.fn "Press.put") as M Q X := by
  have hline : line = 16777216 := rfl
  have hs : (M p).isSome = true := by rw [h0]; rfl
  have ke : LD.G.excs "InvalidOctets" = some (["InvalidOctets", "InkError", "ValueError", "Exception", "BaseException"], ["index"]) := rfl
  have body : wSs LD.G (cal LD.G (n + 7)) d_Press_put.body (startE 10 [.pv (.ref p), .pv v]) M ⟨fun _ M' => Q .non (restr M M'), fun r M' => Q (frz M M' 4 r) (restr M M'), fun _ _ => False, fun _ _ => False⟩ (fun _ c fs M' => X c (fs.map fun p => (p.1, frz M M' 4 p.2)) (restr M M')) := by
    unfold d_Press_put
    simp
    refine s_check_octets (n := n) hv hx ?_
    have fzx : ∀ x, (∃ l, wrongRes (fun _ e => btw e 0 255) 0 2900 v = .lst (x :: l)) → frz M M 4 x = x := fun x ⟨l, e⟩ => by
      rcases wrong_shape (p := fun _ e => btw e 0 255) (least := 0) (most := 2900) v with q | q | ⟨i, q⟩ <;> rw [q] at e <;> cases e <;> simp
    rcases wrong_shape (p := fun _ e => btw e 0 255) (least := 0) (most := 2900) v with q | q | ⟨i, q⟩
    · rw [q] at hq ⊢
      obtain ⟨o, rfl, ho, hol, hq⟩ := hq
      have hall : Oct (held ++ o) := fun z hz => by
        rcases List.mem_append.mp hz with hz | hz
        · exact hheld z hz
        · exact ho z hz
      dsimp only
      simp [h0, pressO, cls_press, ccP, List.lookup, stV, tgLen]
      have eo : ∀ M, itemsOf M (octV o) = some (o.map .int) := fun _ => rfl
      have eh : ∀ M, itemsOf M (octV held) = some (held.map .int) := fun _ => rfl
      simp [eo, eh]
      refine ⟨by omega, ?_⟩
      have ea : PV.tup (held.map .int ++ o.map .int) = octV (held ++ o) := by unfold octV; rw [List.map_append]
      rw [ea]
      refine s_printed_by (n := n + 3) hall (by simp; omega) hw.2 hr.1 hr.2 hh.2 ?_
      obtain ⟨l1, l2, l3⟩ := pressT_len (hs := headsL h r) (wd := w) ((held ++ o).length + 1) (held ++ o) [] hall
      have hok := pressT_ok (hs := headsL h r) (wd := w) ((held ++ o).length + 1) (held ++ o) [] (fun v hv => by cases hv)
      generalize pressT (headsL h r) w ((held ++ o).length + 1) (held ++ o) [] = res at hq l1 l2 l3 hok
      obtain ⟨acc, o', wr⟩ := res
      dsimp only at hq l1 l2 l3 hok ⊢
      have hokk : PrOk (pr ++ acc) := fun v hv => by
        rcases List.mem_append.mp hv with hv | hv
        · exact hp v hv
        · exact hok v hv
      simp only [List.length_append, List.length_nil] at l1 l2
      simp [tgLen, h0, pressO, cls_press, ccP, List.lookup, stV]
      refine s_printed (n := n + 6) h0 hp ?_
      simp [hline]
      refine ⟨by omega, ?_⟩
      cases wr with
      | some i =>
        refine ⟨trivial, ?_⟩
        dsimp only
        rw [d_Press_put_t1_u]
        simp
        rw [d_Press_put_b2_u]
        simp [hline, h0, pressO, cls_press, ccP, List.lookup, stV, putF, ke]
        rw [restr_old hs, restr_self]
        exact hq
      | none =>
        refine ⟨trivial, ?_⟩
        have eo' : ∀ M, itemsR M (octV o') = some (o'.map .int) := fun _ => rfl
        simp [hline, h0, pressO, cls_press, ccP, List.lookup, stV, putF, eo']
        rw [restr_old hs, restr_self, frz_tup, frz_prs hok]
        exact hq
    · rw [q] at hq ⊢
      simp
      exact hq
    · rw [q] at hq ⊢
      simp
      exact hq
  rcases has with rfl | rfl
  · exact call0 (d := d_Press_put) (svs := [.pv (.ref p), .pv v]) rfl rfl rfl rfl body
  · exact call0 (d := d_Press_put) (svs := [.pv (.ref p), .pv v]) rfl rfl rfl rfl body
end
end LW
end

section
set_option Elab.async false
set_option linter.all false
set_option maxRecDepth 100000
set_option maxHeartbeats 400000
namespace LW
open IB
section
variable {n : Nat} {M : MM} {X : XK} {Q : PV → MM → Prop}
def widV (wd : Nat) : PV := if wd = 0 then .non else .int wd
theorem runBad_iff {row : List Int} {m : Int} {l wd : Nat} : runBad row m l wd = false ↔ (1 ≤ m ∧ m ≤ wMax wd - row.length - l ∧ (l = 0 → 0 < wd → m = wMax wd - row.length)) ∨ (l = 0 ∧ 0 < wd ∧ m < 1 ∧ m = wMax wd - row.length) := by
  unfold runBad wMax
  simp
  by_cases h1 : 0 < wd <;> by_cases h2 : l = 0 <;> simp [h1, h2] <;> omega
theorem loop_rw_past {o : List Int} {D : Ends} {XX : XE} {wv : PV} {m : Nat} (hw : wv = .non ∨ ∃ i, wv = .int i) : ∀ (l k at_ : Nat) (e3 e5 e6 e7 e8 : Option SV), o.length ≤ at_ →
    (∀ e6 e7, D.nx [some (.pv (octV o)), some (.pv (.int ((at_ + 2 * l : Nat) : Int))), some (.pv (.int m)), e3, some (.pv wv), e5, e6, e7, e8] M) →
    forL (fun _ => True) (fun v env M Q => wT LD.G (cal LD.G n) d__law_run_wrong_t1 v env M Q (XX env)) (fun env M D => wSs LD.G (cal LD.G n) d__law_run_wrong_b2 env M D XX) D ((List.range' k l).map fun (i : Nat) => PV.int (i : Int))
      [some (.pv (octV o)), some (.pv (.int at_)), some (.pv (.int m)), e3, some (.pv wv), e5, e6, e7, e8] M := by
  intro l
  induction l with
  | zero => intro k at_ e3 e5 e6 e7 e8 ha h; exact ⟨trivial, h _ _⟩
  | succ l ih =>
    intro k at_ e3 e5 e6 e7 e8 ha h
    rw [List.range'_succ, List.map_cons]
    refine ⟨trivial, ?_⟩
    dsimp only
    rw [d__law_run_wrong_t1_u]
    simp
    rw [d__law_run_wrong_b2_u]
    have ir : ∀ M, itemsR M (octV o) = some (o.map .int) := fun _ => rfl
    have c1 : ¬ at_ < o.length := by omega
    have c2 : ¬ (at_ : Int) + 1 < o.length := by omega
    simp [ir, c1, c2]
    have e : ((at_ : Int) + 2) = ((at_ + 2 : Nat) : Int) := by omega
    rw [e]
    refine ih (k + 1) (at_ + 2) _ _ _ _ _ (by omega) fun e6 e7 => ?_
    have e2 : at_ + 2 + 2 * l = at_ + 2 * (l + 1) := by omega
    rw [e2]
    exact h _ _
theorem loop_rw {o : List Int} {wd m : Nat} (ho : Oct o) {D : Ends} {XX : XE} : ∀ (l k at_ : Nat) (row : List Int) (e6 e7 e8 : Option SV), k + l = m → row.length + l ≤ wMax wd →
    (match runsT o wd l at_ row with
      | .bad i => ∀ e : Int, D.rt (.tup [.int i, .int e]) M
      | .full _ e => ∀ e3 e5 e6 e7 e8, D.nx [some (.pv (octV o)), some (.pv (.int e)), some (.pv (.int m)), e3, some (.pv (widV wd)), e5, e6, e7, e8] M
      | .cut => ∀ e3 e5 e6 e7 e8, o.length < at_ + 2 * l → D.nx [some (.pv (octV o)), some (.pv (.int ((at_ + 2 * l : Nat) : Int))), some (.pv (.int m)), e3, some (.pv (widV wd)), e5, e6, e7, e8] M) →
    forL (fun _ => True) (fun v env M Q => wT LD.G (cal LD.G n) d__law_run_wrong_t1 v env M Q (XX env)) (fun env M D => wSs LD.G (cal LD.G n) d__law_run_wrong_b2 env M D XX) D ((List.range' k l).map fun (i : Nat) => PV.int (i : Int))
      [some (.pv (octV o)), some (.pv (.int at_)), some (.pv (.int m)), some (.pv (.int (row.getLast?.getD 99))), some (.pv (widV wd)), some (.pv (.int (wMax wd - row.length))), e6, e7, e8] M := by
  intro l
  induction l with
  | zero => intro k at_ row e6 e7 e8 _ _ h; exact ⟨trivial, h _ _ _ _ _⟩
  | succ l ih =>
    intro k at_ row e6 e7 e8 hk hrl h
    have hline : line = 16777216 := rfl
    unfold runsT at h
    cases h1 : o[at_]? with
    | none =>
      have hlt : o.length ≤ at_ := by simpa using h1
      rw [h1] at h
      refine loop_rw_past (by unfold widV; split; exact .inl rfl; exact .inr ⟨_, rfl⟩) (l + 1) k at_ _ _ _ _ _ hlt fun e6 e7 => h _ _ _ _ _ (by omega)
    | some v =>
      have hlt := (List.getElem?_eq_some_iff.mp h1).1
      rw [h1] at h
      dsimp only at h
      rw [List.range'_succ, List.map_cons]
      refine ⟨trivial, ?_⟩
      dsimp only
      rw [d__law_run_wrong_t1_u]
      simp
      rw [d__law_run_wrong_b2_u]
      have ir : ∀ M, itemsR M (octV o) = some (o.map .int) := fun _ => rfl
      have g1 : ∀ {Q : PV → MM → Prop} {M : MM} {X : XK}, wSub (octV o) (.int (at_ : Int)) M Q X = Q (.int v) M := fun {Q M X} => sub_oct h1
      have left_eq : ((m : Int) - (k : Int) - 1) = (l : Int) := by omega
      have hv := ho.at h1
      have kc : ∀ {M : MM} {Q : Bool → MM → Prop} {X : XK} {v : PV}, wCmp .isnot v .non M Q X = Q (match v with | .non => false | _ => true) M := fun {M Q X v} => rfl
      have hb' := @runBad_iff row v l wd
      have eat : ((at_ : Int) + 1) = ((at_ + 1 : Nat) : Int) := by omega
      have eat2 : ((at_ : Int) + 2) = ((at_ + 2 : Nat) : Int) := by omega
      have fl : ∀ ink : Int, ink ≤ 7 → (ink = row.getLast?.getD 99 ↔ row.getLast? = some ink) := fun ink hi => by
        cases row.getLast? with
        | none => simp; omega
        | some z => simp; exact eq_comm
      cases hb : runBad row v l wd with
      | true =>
        rw [if_pos hb] at h
        have nb : ¬ ((1 ≤ v ∧ v ≤ wMax wd - row.length - l ∧ (l = 0 → 0 < wd → v = wMax wd - row.length)) ∨ (l = 0 ∧ 0 < wd ∧ v < 1 ∧ v = wMax wd - row.length)) := fun z => by rw [hb'.mpr z] at hb; cases hb
        clear hb'
        simp [ir, hlt, g1, left_eq, kc]
        rcases Nat.eq_zero_or_pos wd with hw | hw
        · subst hw
          simp only [widV, if_true]
          by_cases c1 : 1 ≤ v
          · have c2 : ¬ v ≤ wMax 0 - row.length - l := by omega
            simp [c1, c2, hline]
            exact h _
          · simp [c1, hline]
            exact h _
        · have hw0 : wd ≠ 0 := by omega
          simp only [widV, hw0, if_false]
          by_cases hl : l = 0
          · have c3 : ¬ v = wMax wd - row.length := by omega
            by_cases c1 : 1 ≤ v <;> simp [c1, c3, hl, hline] <;> exact h _
          · by_cases c1 : 1 ≤ v
            · have c2 : ¬ v ≤ wMax wd - row.length - l := by omega
              simp [c1, c2, hl, hline]
              exact h _
            · simp [c1, hl, hline]
              exact h _
      | false =>
        rw [if_neg (by simp [hb])] at h
        have c1 : 1 ≤ v := runBad_pos hb (by omega)
        have yb := hb'.mp hb
        have c2 : v ≤ wMax wd - row.length - l := by omega
        have lst : ∀ ink : Int, (row ++ List.replicate v.toNat ink).getLast?.getD 99 = ink := fun ink => by
          obtain ⟨q, hq⟩ : ∃ q, v.toNat = q + 1 := ⟨v.toNat - 1, by omega⟩
          rw [hq, List.replicate_succ', ← List.append_assoc, List.getLast?_append]
          simp
        simp [ir, hlt, g1, left_eq, kc, c1, c2]
        cases h2 : o[at_ + 1]? with
        | none =>
          have hlt2 : o.length ≤ at_ + 1 := by simpa using h2
          rw [h2] at h
          dsimp only at h
          have c4 : ¬ (at_ : Int) + 1 < o.length := by omega
          have past : ∀ e8, forL (fun _ => True) (fun v env M Q => wT LD.G (cal LD.G n) d__law_run_wrong_t1 v env M Q (XX env)) (fun env M D => wSs LD.G (cal LD.G n) d__law_run_wrong_b2 env M D XX) D ((List.range' (k + 1) l).map fun (i : Nat) => PV.int (i : Int))
              [some (.pv (octV o)), some (.pv (.int (at_ + 2))), some (.pv (.int m)), some (.pv (.int (row.getLast?.getD 99))), some (.pv (widV wd)), some (.pv (.int (wMax wd - row.length - v))), some (.pv (.int k)), some (.pv (.int l)), e8] M := fun e8 => by
            rw [eat2]
            refine loop_rw_past (by unfold widV; split; exact .inl rfl; exact .inr ⟨_, rfl⟩) l (k + 1) (at_ + 2) _ _ _ _ _ (by omega) fun e6 e7 => ?_
            have e2 : at_ + 2 + 2 * l = at_ + 2 * (l + 1) := by omega
            rw [e2]
            exact h _ _ _ _ _ (by omega)
          simp only [c4, if_false]
          rcases Nat.eq_zero_or_pos wd with hw | hw
          · subst hw
            exact past _
          · have hw0 : wd ≠ 0 := by omega
            simp only [widV, hw0, if_false] at past ⊢
            by_cases hl : l = 0
            · have c3 : v = wMax wd - row.length := by omega
              simp only [hl, c3, if_true]
              have := past
              simp only [hl, c3] at this
              exact this _
            · simp only [hl, if_false]
              exact past _
        | some ink =>
          have hlt2 := (List.getElem?_eq_some_iff.mp h2).1
          rw [h2] at h
          dsimp only at h
          have c4 : (at_ : Int) + 1 < o.length := by omega
          have gi : ∀ {Q : PV → MM → Prop} {M : MM} {X : XK}, wSub (octV o) (.int ((at_ : Int) + 1)) M Q X = Q (.int ink) M := fun {Q M X} => by rw [eat]; exact sub_oct h2
          have good : ¬ (7 < ink) → row.getLast? ≠ some ink → ∀ e8, forL (fun _ => True) (fun v env M Q => wT LD.G (cal LD.G n) d__law_run_wrong_t1 v env M Q (XX env)) (fun env M D => wSs LD.G (cal LD.G n) d__law_run_wrong_b2 env M D XX) D ((List.range' (k + 1) l).map fun (i : Nat) => PV.int (i : Int))
              [some (.pv (octV o)), some (.pv (.int (at_ + 2))), some (.pv (.int m)), some (.pv (.int ink)), some (.pv (widV wd)), some (.pv (.int (wMax wd - row.length - v))), some (.pv (.int k)), some (.pv (.int l)), e8] M := fun f7 fne e8 => by
            rw [if_neg (by rintro (z | z); simp [f7] at z; exact fne z)] at h
            rw [eat2]
            have q := ih (k + 1) (at_ + 2) (row ++ List.replicate v.toNat ink) (some (.pv (.int k))) (some (.pv (.int l))) e8 (by omega) (by simp; omega)
            rw [lst, show (wMax wd - ((row ++ List.replicate v.toNat ink).length : Int)) = wMax wd - row.length - v by simp; omega] at q
            refine q ?_
            rw [show at_ + 2 + 2 * l = at_ + 2 * (l + 1) by omega]
            exact h
          simp only [c4, if_true, gi]
          by_cases c7 : 7 < ink
          · rw [if_pos (.inl c7)] at h
            have h := h
            rcases Nat.eq_zero_or_pos wd with hw | hw
            · subst hw
              simp [widV, c7, hline]
              exact h _
            · have hw0 : wd ≠ 0 := by omega
              simp only [widV, hw0, if_false]
              by_cases hl : l = 0
              · have c3 : v = wMax wd - row.length := by omega
                simp [hl, ← c3, c7, hline]
                exact h _
              · simp [hl, c7, hline]
                exact h _
          · have fl' := fl ink (by omega)
            by_cases c8 : row.getLast? = some ink
            · rw [if_pos (.inr c8)] at h
              have e9 := fl'.mpr c8
              rcases Nat.eq_zero_or_pos wd with hw | hw
              · subst hw
                simp [widV, c7, hline, ← e9]
                exact h _
              · have hw0 : wd ≠ 0 := by omega
                simp only [widV, hw0, if_false]
                by_cases hl : l = 0
                · have c3 : v = wMax wd - row.length := by omega
                  simp [hl, ← c3, c7, hline, ← e9]
                  exact h _
                · simp [hl, c7, hline, ← e9]
                  exact h _
            · have e9 : ¬ ink = row.getLast?.getD 99 := fun z => c8 (fl'.mp z)
              have good := good c7 c8
              rcases Nat.eq_zero_or_pos wd with hw | hw
              · subst hw
                simp [widV, c7, hline, e9] at good ⊢
                exact good _
              · have hw0 : wd ≠ 0 := by omega
                simp only [widV, hw0, if_false] at good ⊢
                by_cases hl : l = 0
                · have c3 : v = wMax wd - row.length := by omega
                  simp [hl, ← c3, c7, hline, e9] at good ⊢
                  exact good _
                · simp [hl, c7, hline, e9] at good ⊢
                  exact good _
theorem start5 {a b c d e : SV} {n : Nat} : startE n [a, b, c, d, e] = some a :: some b :: some c :: some d :: some e :: List.replicate (n - 5) none := rfl
theorem s_law_run_wrong {o : List Int} {wd at_ m : Nat} (ho : Oct o) (hm : (m : Int) ≤ wMax wd) (hw : wd ≤ 24)
    (h : match runsT o wd m at_ [] with
      | .bad i => ∀ e : Int, Q (.tup [.int i, .int e]) M
      | .full _ e => Q (.tup [.non, .int e]) M
      | .cut => o.length < at_ + 2 * m → Q (.tup [.non, .int ((at_ + 2 * m : Nat) : Int)]) M) :
    cal LD.G (n + 1) (.fn "_law_run_wrong") ⟨[.pv (octV o), .pv (.int at_), .pv (.int m), .pv (.int 99), .pv (widV wd)], []⟩ M Q X := by
  refine call0 (d := d__law_run_wrong) (svs := [.pv (octV o), .pv (.int at_), .pv (.int m), .pv (.int 99), .pv (widV wd)]) rfl rfl rfl rfl ?_
  unfold d__law_run_wrong
  have hline : line = 16777216 := rfl
  have hW : wMax wd ≤ 24 := by unfold wMax; split <;> omega
  have eu : upTo 0 m = (List.range' 0 m).map fun (i : Nat) => PV.int (i : Int) := by
    unfold upTo
    rw [List.range_eq_range']
    apply List.map_congr_left
    intro i _
    simp
  have kz : ∀ {M : MM} {Q : Bool → MM → Prop} {X : XK} {v : PV}, wCmp .is v .non M Q X = Q (match v with | .non => true | _ => false) M := fun {M Q X v} => rfl
  have rwv : (match widV wd with | .non => (24 : Int) | _ => wd) = wMax wd := by
    unfold widV wMax
    rcases Nat.eq_zero_or_pos wd with hz | hz
    · subst hz; rfl
    · simp [show wd ≠ 0 by omega, hz]
  have q := fun D => loop_rw (D := D) (n := n) (M := M) (wd := wd) (m := m) ho m 0 at_ [] none none none (by omega) (by simpa using hm) (XX := fun _ c fs M' => X c (fs.map fun p => (p.1, frz M M' 4 p.2)) (restr M M'))
  simp only [List.getLast?_nil, Option.getD_none, List.length_nil, Int.natCast_zero, Int.sub_zero] at q
  have big : big62 (m : Int) := by unfold big62; omega
  clear rwv
  have fin : ∀ D : Ends, D.rt = (fun v M' => Q (frz M M' 4 v) (restr M M')) → (∀ (e : Int) e3 e5 e6 e7 e8, Q (.tup [.non, .int e]) M → D.nx [some (.pv (octV o)), some (.pv (.int e)), some (.pv (.int m)), e3, some (.pv (widV wd)), e5, e6, e7, e8] M) → (match runsT o wd m at_ [] with
      | .bad i => ∀ e : Int, D.rt (.tup [.int i, .int e]) M
      | .full _ e => ∀ e3 e5 e6 e7 e8, D.nx [some (.pv (octV o)), some (.pv (.int e)), some (.pv (.int m)), e3, some (.pv (widV wd)), e5, e6, e7, e8] M
      | .cut => ∀ e3 e5 e6 e7 e8, o.length < at_ + 2 * m → D.nx [some (.pv (octV o)), some (.pv (.int ((at_ + 2 * m : Nat) : Int))), some (.pv (.int m)), e3, some (.pv (widV wd)), e5, e6, e7, e8] M) := by
    intro D hD hN
    cases hr : runsT o wd m at_ [] with
    | bad i => rw [hr] at h; intro e; rw [hD]; simpa [frz_tup] using h e
    | full row e => rw [hr] at h; intro e3 e5 e6 e7 e8; exact hN _ _ _ _ _ _ h
    | cut => rw [hr] at h; intro e3 e5 e6 e7 e8 hl; exact hN _ _ _ _ _ _ (h hl)
  rcases Nat.eq_zero_or_pos wd with hz | hz
  · subst hz
    simp [start5, kz, widV, hline]
    refine ⟨big, ?_⟩
    rw [eu]
    refine q _ (fin _ rfl fun e e3 e5 e6 e7 e8 he => ?_)
    simpa [frz_tup] using he
  · have hw0 : wd ≠ 0 := by omega
    simp [start5, kz, widV, hw0, hline]
    refine ⟨big, ?_⟩
    rw [eu]
    unfold widV wMax at q
    unfold widV at fin
    simp only [hw0, hz, if_true, if_false] at q
    simp only [hw0, if_false] at fin
    refine q _ (fin _ rfl fun e e3 e5 e6 e7 e8 he => ?_)
    simpa [frz_tup] using he
end
end LW
end

section
set_option Elab.async false
set_option linter.all false
set_option maxRecDepth 100000
set_option maxHeartbeats 400000
namespace LW
open IB
section
variable {n : Nat} {M : MM} {X : XK} {Q : PV → MM → Prop}
/-- the cells of runs -/
def cellsF (o : List Int) : Nat → Nat → List Int → List Int
  | 0, _, acc => acc
  | p + 1, at_, acc => cellsF o p (at_ + 2) (acc ++ List.replicate (o[at_]?.getD 0).toNat (o[at_ + 1]?.getD 0))
def pairsOk (o : List Int) : Nat → Nat → Prop
  | 0, _ => True
  | p + 1, at_ => (∃ m ink, o[at_]? = some m ∧ o[at_ + 1]? = some ink ∧ 1 ≤ m ∧ m ≤ 24) ∧ pairsOk o p (at_ + 2)
theorem pairs_len {o : List Int} : ∀ p at_, pairsOk o p at_ → p ≠ 0 → at_ + 2 * p ≤ o.length
  | 0, _, _, h => absurd rfl h
  | 1, at_, h, _ => by
    obtain ⟨⟨_, _, _, e, _⟩, _⟩ := h
    have := (List.getElem?_eq_some_iff.mp e).1
    omega
  | p + 2, at_, h, _ => by
    have := pairs_len (p + 1) (at_ + 2) h.2 (by omega)
    omega
theorem runsT_pairs {o : List Int} {wd : Nat} (hw : wd ≤ 24) : ∀ (l at_ : Nat) (row : List Int), (row.length : Int) + l ≤ wMax wd →
    match runsT o wd l at_ row with
    | .bad _ => True
    | .full row' e => pairsOk o l at_ ∧ cellsF o l at_ row = row' ∧ e = at_ + 2 * l
    | .cut => ∃ p, pairsOk o p at_ ∧ p < l ∧ o.length ≤ at_ + 2 * p + 1 := by
  intro l
  induction l with
  | zero => intro at_ row _; exact ⟨trivial, rfl, rfl⟩
  | succ l ih =>
    intro at_ row hr
    unfold runsT
    cases h1 : o[at_]? with
    | none => exact ⟨0, trivial, by omega, by have : o.length ≤ at_ := by simpa using h1
                                              omega⟩
    | some m =>
      dsimp only
      cases hb : runBad row m l wd with
      | true => rw [if_pos rfl]; trivial
      | false =>
        rw [if_neg (by simp)]
        obtain ⟨b1, b2⟩ := runBad_le hb hw
        have b3 := runBad_pos hb (by omega)
        cases h2 : o[at_ + 1]? with
        | none => exact ⟨0, trivial, by omega, by have : o.length ≤ at_ + 1 := by simpa using h2
                                                  omega⟩
        | some ink =>
          dsimp only
          by_cases c : 7 < ink ∨ row.getLast? = some ink
          · rw [if_pos c]; trivial
          · rw [if_neg c]
            have q := ih (at_ + 2) (row ++ List.replicate m.toNat ink) (by simp; omega)
            cases e : runsT o wd l (at_ + 2) (row ++ List.replicate m.toNat ink) with
            | bad i => trivial
            | full row' e' =>
              rw [e] at q
              refine ⟨⟨⟨m, ink, h1, h2, b3, by omega⟩, q.1⟩, ?_, by have := q.2.2; omega⟩
              show cellsF o l (at_ + 2) (row ++ List.replicate (o[at_]?.getD 0).toNat (o[at_ + 1]?.getD 0)) = _
              rw [h1, h2]
              exact q.2.1
            | cut =>
              rw [e] at q
              obtain ⟨p, p1, p2, p3⟩ := q
              exact ⟨p + 1, ⟨⟨m, ink, h1, h2, b3, by omega⟩, p1⟩, by omega, by omega⟩
theorem byStep_succ (lo k : Int) (n : Nat) : byStep lo k (n + 1) = .int lo :: byStep (lo + k) k n := by
  unfold byStep
  rw [List.range_succ_eq_map, List.map_cons, List.map_map]
  congr 1
  · simp
  · apply List.map_congr_left
    intro i _
    show PV.int (lo + ((i + 1 : Nat) : Int) * k) = PV.int (lo + k + (i : Int) * k)
    congr 1
    push_cast
    rw [Int.add_mul]
    omega
theorem loop_cells {o : List Int} {D : Ends} {XX : XE} {e1 e2 e3 e4 e5 e6 e7 e8 e9 e10 e11 : Option SV} : ∀ (p at_ : Nat) (acc : List Int) (e13 : Option SV), pairsOk o p at_ → acc.length + 24 * p ≤ 10000 →
    (∀ e13, D.nx [some (.pv (octV o)), e1, e2, e3, e4, e5, e6, e7, e8, e9, e10, e11, some (.pv (rowV (cellsF o p at_ acc))), e13] M) →
    forL (fun _ => True) (fun v env M Q => wT LD.G (cal LD.G n) d__law_pressed_t4 v env M Q (XX env)) (fun env M D => wSs LD.G (cal LD.G n) d__law_pressed_b5 env M D XX) D (byStep (at_ : Int) 2 p)
      [some (.pv (octV o)), e1, e2, e3, e4, e5, e6, e7, e8, e9, e10, e11, some (.pv (rowV acc)), e13] M := by
  intro p
  induction p with
  | zero => intro at_ acc e13 _ _ h; exact ⟨trivial, h _⟩
  | succ p ih =>
    intro at_ acc e13 hp hl h
    have hline : line = 16777216 := rfl
    obtain ⟨⟨m, ink, h1, h2, m1, m2⟩, hp⟩ := hp
    rw [byStep_succ]
    refine ⟨trivial, ?_⟩
    dsimp only
    rw [d__law_pressed_t4_u]
    simp
    rw [d__law_pressed_b5_u]
    have eat : ((at_ : Int) + 1) = ((at_ + 1 : Nat) : Int) := by omega
    have eat2 : ((at_ : Int) + 2) = ((at_ + 2 : Nat) : Int) := by omega
    have g1 : ∀ {Q : PV → MM → Prop} {M : MM} {X : XK}, wSub (octV o) (.int (at_ : Int)) M Q X = Q (.int m) M := fun {Q M X} => sub_oct h1
    have g2 : ∀ {Q : PV → MM → Prop} {M : MM} {X : XK}, wSub (octV o) (.int ((at_ : Int) + 1)) M Q X = Q (.int ink) M := fun {Q M X} => by rw [eat]; exact sub_oct h2
    simp [g1, g2, m1]
    refine ⟨by omega, ?_⟩
    unfold rowV
    simp
    refine ⟨by omega, ?_⟩
    rw [eat2]
    have e : acc.map PV.int ++ List.replicate m.toNat (PV.int ink) = (acc ++ List.replicate m.toNat ink).map PV.int := by simp
    rw [e]
    refine ⟨by omega, ?_⟩
    refine ih (at_ + 2) (acc ++ List.replicate m.toNat ink) _ hp (by simp; omega) fun e13 => ?_
    have q := h e13
    unfold cellsF at q
    rw [h1, h2] at q
    exact q
theorem stepN_pairs {o : List Int} {p l at_ : Nat} {e : Nat} (hp : pairsOk o p at_) (h : (p = l ∧ at_ + 2 * l ≤ o.length) ∨ (p < l ∧ o.length ≤ at_ + 2 * p + 1)) (he : e = at_ + 2 * l) : stepN (at_ : Int) (if (o.length : Int) - 1 < (e : Int) then (o.length : Int) - 1 else (e : Int)) 2 = p := by
  have hl := pairs_len p at_ hp
  unfold stepN
  by_cases c : (o.length : Int) - 1 < (e : Int)
  · rw [if_pos c]
    split <;> omega
  · rw [if_neg c]
    split <;> omega
theorem rowT_full {o : List Int} {at_ wd nx : Nat} {row : List Int} (hw : 1 ≤ wd ∧ wd ≤ 24) (h : rowT o at_ wd = .full row nx) : row.length = wd := by
  have hW : wMax wd = wd := by unfold wMax; rw [if_pos (by omega)]
  have key : ∀ (l at2 : Nat) (row row' : List Int) (e : Nat), (row.length : Int) + l ≤ wMax wd → (l = 0 → row.length = wd) → runsT o wd l at2 row = .full row' e → row'.length = wd := by
    intro l
    induction l with
    | zero => intro at2 row row' e _ h0 he; unfold runsT at he; cases he; exact h0 rfl
    | succ l ih =>
      intro at2 row row' e hl _ he
      unfold runsT at he
      split at he
      · cases he
      · rename_i m _
        cases hb : runBad row m l wd with
        | true => rw [hb, if_pos rfl] at he; cases he
        | false =>
          rw [hb, if_neg (by simp)] at he
          obtain ⟨b1, b2⟩ := runBad_le hb hw.2
          have b3 := runBad_pos hb (by omega)
          have b4 := runBad_iff.mp hb
          split at he
          · cases he
          · split at he
            · cases he
            · exact ih _ _ _ _ (by simp; omega) (fun z => by simp; omega) he
  unfold rowT at h
  split at h
  · cases h
  · split at h
    · rename_i c
      exact key _ _ _ _ _ (by simp; omega) (fun z => by omega) h
    · cases h
theorem prints_snoc (f : Int) (rows : List (List Int)) (r : List Int) : prints f (rows ++ [r]) = prints f rows ++ [.tup [.int (f + rows.length), rowV r]] := by
  unfold prints
  rw [List.zipIdx_append, List.map_append]
  simp
theorem loop_lrows {o : List Int} {wd : Nat} {f : Int} {hi ro : PV} (ho : Oct o) (hf : o[2]? = some f) (hol : o.length ≤ 30000) (hw : 1 ≤ wd ∧ wd ≤ 24) {D : Ends} {XX : XE} : ∀ (l k at_ : Nat) (acc : List (List Int)) (e5 e6 e7 e9 e10 e11 e12 e13 : Option SV), k = acc.length → k + l ≤ 255 → at_ ≤ 40000 →
    (match rowsL o l at_ wd acc with
      | .bad i => D.rt (.tup [.int i, .non]) M
      | .cut => D.rt (.tup [.non, .non]) M ∧ ∀ (at2 : Nat) e5 e6 e7 e8 e9 e10 e11 e12 e13, o.length ≤ at2 → D.nx [some (.pv (octV o)), some (.pv (.int wd)), some (.pv hi), some (.pv ro), some (.pv (.int at2)), e5, e6, e7, e8, e9, e10, e11, e12, e13] M
      | .done rows at2 => ∀ e5 e6 e7 e9 e10 e11 e12 e13, D.nx [some (.pv (octV o)), some (.pv (.int wd)), some (.pv hi), some (.pv ro), some (.pv (.int at2)), e5, e6, e7, some (.pv (.tup (prints f rows))), e9, e10, e11, e12, e13] M) →
    forL (fun _ => True) (fun v env M Q => wT LD.G (cal LD.G (n + 1)) d__law_pressed_t3 v env M Q (XX env)) (fun env M D => wSs LD.G (cal LD.G (n + 1)) d__law_pressed_b6 env M D XX) D ((List.range' k l).map fun (i : Nat) => PV.int (i : Int))
      [some (.pv (octV o)), some (.pv (.int wd)), some (.pv hi), some (.pv ro), some (.pv (.int at_)), e5, e6, e7, some (.pv (.tup (prints f acc))), e9, e10, e11, e12, e13] M := by
  intro l
  induction l with
  | zero => intro k at_ acc e5 e6 e7 e9 e10 e11 e12 e13 _ _ _ h; exact ⟨trivial, h _ _ _ _ _ _ _ _⟩
  | succ l ih =>
    intro k at_ acc e5 e6 e7 e9 e10 e11 e12 e13 hk hkl ha h
    have hline : line = 16777216 := rfl
    unfold rowsL at h
    rw [List.range'_succ, List.map_cons]
    refine ⟨trivial, ?_⟩
    dsimp only
    rw [d__law_pressed_t3_u]
    simp
    rw [d__law_pressed_b6_u]
    have ir : ∀ M, itemsR M (octV o) = some (o.map .int) := fun _ => rfl
    have hpl : (prints f acc).length = k := by unfold prints; simp [hk]
    have hW : wMax wd = wd := by unfold wMax; rw [if_pos (by omega)]
    have hwV : widV wd = .int wd := by unfold widV; rw [if_neg (by omega)]
    have g2 : ∀ {Q : PV → MM → Prop} {M : MM} {X : XK}, wSub (octV o) (.int 2) M Q X = Q (.int f) M := fun {Q M X} => sub_oct (k := 2) hf
    cases h1 : o[at_]? with
    | none =>
      have hlt : o.length ≤ at_ := by simpa using h1
      have er : rowT o at_ wd = .cut := by unfold rowT; rw [h1]
      rw [er] at h
      simp [ir, hlt, hline]
      exact h.1
    | some m =>
      have hlt := (List.getElem?_eq_some_iff.mp h1).1
      have hm := ho.at h1
      have c : ¬ o.length ≤ at_ := by omega
      have er : rowT o at_ wd = if 1 ≤ m ∧ m ≤ wMax wd then runsT o wd m.toNat (at_ + 1) [] else .bad at_ := by unfold rowT; rw [h1]
      rw [er, hW] at h
      have g1 : ∀ {Q : PV → MM → Prop} {M : MM} {X : XK}, wSub (octV o) (.int (at_ : Int)) M Q X = Q (.int m) M := fun {Q M X} => sub_oct h1
      simp [ir, c, g1]
      by_cases c1 : 1 ≤ m ∧ m ≤ wd
      · rw [if_pos c1] at h
        obtain ⟨mn, rfl⟩ : ∃ mn : Nat, m = mn := ⟨m.toNat, by omega⟩
        simp [c1.1, c1.2]
        rw [show ((at_ : Int) + 1) = ((at_ + 1 : Nat) : Int) by omega, ← hwV]
        have pr := runsT_pairs (o := o) hw.2 mn (at_ + 1) [] (by simp; omega)
        simp only [Int.toNat_natCast] at h
        refine s_law_run_wrong ho (by omega) hw.2 ?_
        have kc : ∀ {M : MM} {Q : Bool → MM → Prop} {X : XK} {v : PV}, wCmp .isnot v .non M Q X = Q (match v with | .non => false | _ => true) M := fun {M Q X v} => rfl
        have er2 : rowT o at_ wd = runsT o wd mn (at_ + 1) [] := by rw [er, hW, if_pos c1, Int.toNat_natCast]
        cases hr : runsT o wd mn (at_ + 1) [] with
        | bad i =>
          rw [hr] at h
          dsimp only at h
          intro e
          simp [tgLen, hline, kc]
          exact h
        | full row e =>
          have hrl := rowT_full hw (er2.trans hr)
          rw [hr] at h pr
          dsimp only at h pr ⊢
          obtain ⟨p1, p2, p3⟩ := pr
          have hst := stepN_pairs (l := mn) (e := e) p1 (.inl ⟨rfl, by have := pairs_len _ _ p1; omega⟩) p3
          simp [tgLen, hline, kc, ir, hwV]
          refine ⟨⟨by unfold mid; omega, by unfold mid; omega⟩, ?_⟩
          rw [show ((at_ : Int) + 1) = ((at_ + 1 : Nat) : Int) by omega, hst]
          refine loop_cells mn (at_ + 1) [] _ p1 (by simp; omega) fun e13 => ?_
          rw [p2]
          simp [g2]
          refine ⟨by rw [hpl]; omega, ?_⟩
          rw [hk, ← prints_snoc, ← hk]
          rw [hrl] at h
          have he := pairs_len _ _ p1
          refine ih (k + 1) e (acc ++ [row]) _ _ _ _ _ _ _ _ (by simp; omega) (by omega) (by omega) h
        | cut =>
          rw [hr] at h pr
          dsimp only at h pr ⊢
          generalize he : at_ + 1 + 2 * mn = e
          intro hlen
          obtain ⟨p, p1, p2, p3⟩ := pr
          have hst := stepN_pairs (l := mn) (e := e) p1 (.inr ⟨p2, p3⟩) he.symm
          have h := h
          simp [tgLen, hline, kc, ir, hwV]
          refine ⟨⟨by unfold mid; omega, by unfold mid; omega⟩, ?_⟩
          rw [show ((at_ : Int) + 1) = ((at_ + 1 : Nat) : Int) by omega, hst]
          refine loop_cells p (at_ + 1) [] _ p1 (by simp; omega) fun e13 => ?_
          simp [g2]
          refine ⟨by rw [hpl]; omega, ?_⟩
          cases l with
          | zero => exact ⟨trivial, h.2 _ _ _ _ _ _ _ _ _ _ (by omega)⟩
          | succ l =>
            rw [List.range'_succ, List.map_cons]
            refine ⟨trivial, ?_⟩
            dsimp only
            rw [d__law_pressed_t3_u]
            simp
            rw [d__law_pressed_b6_u]
            have c4 : o.length ≤ e := by omega
            simp [ir, c4, hline]
            exact h.1
      · rw [if_neg c1] at h
        by_cases c2 : 1 ≤ m
        · have c3 : ¬ m ≤ wd := fun z => c1 ⟨c2, z⟩
          simp [c2, c3, hline]
          exact h
        · simp [c2, hline]
          exact h
end
end LW
end

section
set_option Elab.async false
set_option linter.all false
set_option maxRecDepth 100000
set_option maxHeartbeats 400000
namespace LW
open IB
section
variable {n : Nat} {M : MM} {X : XK} {Q : PV → MM → Prop}
/-- the tests of a head, from the law's text -/
def fineL (o : List Int) (high room : Nat) (at_ : Nat) (v : Int) : List Bool :=
  let b : Int := if 0 < at_ then o[1]?.getD 0 else 0
  let f : Int := if 1 < at_ then o[2]?.getD 0 else 0
  [decide (v = 66), decide (v * room < high), decide (v = b * room), decide (v = if (high : Int) - f < room then (high : Int) - f else room)]
def fineAt (o : List Int) (high room at_ : Nat) : Bool := match o[at_]? with
  | none => true
  | some v => ((fineL o high room at_ v)[at_]?).getD true
def firstBad (o : List Int) (high room : Nat) : Nat → Nat → Option Nat
  | 0, _ => none
  | k + 1, at_ => if fineAt o high room at_ = true then firstBad o high room k (at_ + 1) else some at_
theorem loop_lhead {o : List Int} {wd : PV} {high room : Nat} (ho : Oct o) (hr : 1 ≤ room ∧ room ≤ 24) {D : Ends} {XX : XE} {e8 e9 e10 e11 e12 e13 : Option SV} : ∀ (k at_ : Nat) (e4 e5 e6 e7 : Option SV), at_ + k ≤ 4 → at_ + k ≤ o.length →
    (match firstBad o high room k at_ with
      | some i => D.rt (.tup [.int i, .non]) M
      | none => ∀ e4 e5 e6 e7, D.nx [some (.pv (octV o)), some (.pv wd), some (.pv (.int high)), some (.pv (.int room)), e4, e5, e6, e7, e8, e9, e10, e11, e12, e13] M) →
    forL (fun _ => True) (fun v env M Q => wT LD.G (cal LD.G n) d__law_pressed_t1 v env M Q (XX env)) (fun env M D => wSs LD.G (cal LD.G n) d__law_pressed_b2 env M D XX) D ((List.range' at_ k).map fun (i : Nat) => PV.int (i : Int))
      [some (.pv (octV o)), some (.pv wd), some (.pv (.int high)), some (.pv (.int room)), e4, e5, e6, e7, e8, e9, e10, e11, e12, e13] M := by
  intro k
  induction k with
  | zero => intro at_ e4 e5 e6 e7 _ _ h; exact ⟨trivial, h _ _ _ _⟩
  | succ k ih =>
    intro at_ e4 e5 e6 e7 h4 hl h
    have hline : line = 16777216 := rfl
    rw [List.range'_succ, List.map_cons]
    refine ⟨trivial, ?_⟩
    dsimp only
    rw [d__law_pressed_t1_u]
    simp
    rw [d__law_pressed_b2_u]
    have sb : ∀ (i : Nat), i < o.length → ∀ {Q : PV → MM → Prop} {M : MM} {X : XK}, wSub (octV o) (.int (i : Int)) M Q X = Q (.int (o[i]?.getD 0)) M := fun i hi {Q M X} => by
      rw [sub_oct (v := o[i]) (by simp [hi])]
      simp [hi]
    have gat := fun {Q M X} => sb at_ (by omega) (Q := Q) (M := M) (X := X)
    have g1 : 0 < at_ → ∀ {Q : PV → MM → Prop} {M : MM} {X : XK}, wSub (octV o) (.int 1) M Q X = Q (.int (o[1]?.getD 0)) M := fun h {Q M X} => sb 1 (by omega)
    have g2 : 1 < at_ → ∀ {Q : PV → MM → Prop} {M : MM} {X : XK}, wSub (octV o) (.int 2) M Q X = Q (.int (o[2]?.getD 0)) M := fun h {Q M X} => sb 2 (by omega)
    have mo : ∀ i : Int, mulOk i room := fun i => .inr (by constructor <;> omega)
    have hv : o[at_]? = some (o[at_]?.getD 0) := by simp [show at_ < o.length by omega]
    generalize o[at_]?.getD 0 = v at gat hv
    unfold firstBad at h
    have hF : fineAt o high room at_ = ((fineL o high room at_ v)[at_]?).getD true := by unfold fineAt; rw [hv]
    rw [hF] at h
    have fin : ∀ (L : List Bool), L.length = 4 → L = fineL o high room at_ v → ∀ {Q : PV → MM → Prop} {M : MM} {X : XK}, wSub (.tup (L.map .bl)) (.int (at_ : Int)) M Q X = Q (.bl (((fineL o high room at_ v)[at_]?).getD true)) M := fun L hL hE {Q M X} => by
      subst hE
      refine sub_at (xs := (fineL o high room at_ v).map .bl) rfl ?_
      rw [idx_nat (by simp [hL]; omega), List.getElem?_map]
      have : at_ < (fineL o high room at_ v).length := by omega
      simp [this]
    simp [tgLen, gat, mo, hline]
    have tail : ∀ e5 e6 e7, (match ((fineL o high room at_ v)[at_]?).getD true with
        | true => forL (fun _ => True) (fun v env M Q => wT LD.G (cal LD.G n) d__law_pressed_t1 v env M Q (XX env)) (fun env M D => wSs LD.G (cal LD.G n) d__law_pressed_b2 env M D XX) D ((List.range' (at_ + 1) k).map fun (i : Nat) => PV.int (i : Int))
            [some (.pv (octV o)), some (.pv wd), some (.pv (.int high)), some (.pv (.int room)), some (.pv (.int at_)), e5, e6, e7, e8, e9, e10, e11, e12, e13] M
        | false => D.rt (.tup [.int at_, .non]) M) := fun e5 e6 e7 => by
      cases hf : ((fineL o high room at_ v)[at_]?).getD true with
      | true =>
        rw [hf] at h
        exact ih (at_ + 1) _ _ _ _ (by omega) (by omega) h
      | false => rw [hf] at h; exact h
    have dn : ∀ e5 e6 e7, (match PV.bl (((fineL o high room at_ v)[at_]?).getD true) with
          | .bl b => if b = true then forL (fun _ => True) (fun v env M Q => wT LD.G (cal LD.G n) d__law_pressed_t1 v env M Q (XX env)) (fun env M D => wSs LD.G (cal LD.G n) d__law_pressed_b2 env M D XX) D ((List.range' (at_ + 1) k).map fun (i : Nat) => PV.int (i : Int))
            [some (.pv (octV o)), some (.pv wd), some (.pv (.int high)), some (.pv (.int room)), some (.pv (.int at_)), e5, e6, e7, e8, e9, e10, e11, e12, e13] M else D.rt (.tup [.int at_, .non]) M
          | _ => False) := fun e5 e6 e7 => by
      have q := tail e5 e6 e7
      cases hf : ((fineL o high room at_ v)[at_]?).getD true <;> rw [hf] at q <;> simpa using q
    by_cases c0 : 0 < at_
    · have c0' : (0 : Int) < at_ := by omega
      by_cases c1 : 1 < at_
      · have c1' : (1 : Int) < at_ := by omega
        simp [c0, c0', c1, c1', g1 c0, g2 c1, mo]
        refine Eq.mpr (fin [_, _, _, _] rfl ?_) (dn _ _ _)
        simp [fineL, c0, c1]
      · have c1' : ¬ (1 : Int) < at_ := by omega
        simp [c0, c0', c1, c1', g1 c0, mo]
        refine Eq.mpr (fin [_, _, _, _] rfl ?_) (dn _ _ _)
        simp [fineL, c0, c1]
    · have c1 : ¬ 1 < at_ := by omega
      have c0' : ¬ (0 : Int) < at_ := by omega
      have c1' : ¬ (1 : Int) < at_ := by omega
      simp [c0, c0', c1, c1', mo]
      refine Eq.mpr (fin [_, _, _, _] rfl ?_) (dn _ _ _)
      simp [fineL, c0, c1]
/-- head and tests are one -/
theorem hIn_iff {high room : Nat} {o : List Int} {k : Nat} : hIn (headsL high room) o k = true ↔ ∃ b, b < nbands high room ∧ (headL high room b).take k = o.tail.take k := by
  unfold hIn headsL
  simp
theorem nb_iff {high room b : Nat} (hr : 1 ≤ room) : b < nbands high room ↔ b * room < high := by
  unfold nbands
  rw [Nat.lt_iff_add_one_le, Nat.le_div_iff_mul_le (by omega), Nat.add_mul]
  omega
theorem key1 {high room : Nat} {a b : Int} {t : List Int} (hb : 0 ≤ b) (hr : 1 ≤ room) : hIn (headsL high room) (a :: b :: t) 1 = decide (b * room < high) := by
  rw [Bool.eq_iff_iff, hIn_iff]
  simp [headL]
  constructor
  · rintro ⟨c, hc, rfl⟩
    have := (nb_iff hr).mp hc
    exact_mod_cast this
  · intro h
    obtain ⟨bn, rfl⟩ : ∃ bn : Nat, b = bn := ⟨b.toNat, by omega⟩
    exact ⟨bn, (nb_iff hr).mpr (by exact_mod_cast h), rfl⟩
theorem key2 {high room : Nat} {a b c : Int} {t : List Int} (hp : hIn (headsL high room) (a :: b :: c :: t) 1 = true) : hIn (headsL high room) (a :: b :: c :: t) 2 = decide (c = b * room) := by
  rw [hIn_iff] at hp
  obtain ⟨x, hx, e⟩ := hp
  simp [headL] at e
  subst e
  rw [Bool.eq_iff_iff, hIn_iff]
  simp [headL]
  constructor
  · rintro ⟨y, hy, e1, e2⟩
    rw [← e2, e1]
  · intro h
    exact ⟨x, hx, rfl, h.symm⟩
theorem key3 {high room : Nat} {a b c d : Int} {t : List Int} (hp : hIn (headsL high room) (a :: b :: c :: d :: t) 2 = true) : hIn (headsL high room) (a :: b :: c :: d :: t) 3 = decide (d = if (high : Int) - c < room then (high : Int) - c else room) := by
  rw [hIn_iff] at hp
  obtain ⟨x, hx, e⟩ := hp
  simp [headL] at e
  obtain ⟨e1, e2⟩ := e
  subst e1
  subst e2
  rw [Bool.eq_iff_iff, hIn_iff]
  simp [headL]
  constructor
  · rintro ⟨y, hy, e1, e2, e3⟩
    rw [← e3, e1]
  · intro h
    exact ⟨x, hx, rfl, rfl, h.symm⟩
theorem firstBad_eq {high room : Nat} {o : List Int} (ho : Oct o) (hr : 1 ≤ room) : firstBad o high room (min 4 o.length) 0 = headBad (headsL high room) o := by
  rcases o with _ | ⟨a, o⟩
  · rfl
  · have f0 : fineAt (a :: o) high room 0 = decide (a = 66) := rfl
    have hm : min 4 (a :: o).length = min 3 o.length + 1 := by simp; omega
    rw [hm]
    unfold firstBad headBad
    rw [f0]
    simp only [List.getElem?_cons_zero]
    by_cases h66 : a = 66
    · simp only [h66, decide_true, if_true]
      rw [← h66]
      have hm2 : min (a :: o).length 4 - 1 = min 3 o.length := by simp; omega
      rw [hm2]
      rcases o with _ | ⟨b, o⟩
      · rfl
      · have k1 := key1 (a := a) (t := o) (high := high) (ho b (by simp)).1 hr
        have f1 : fineAt (a :: b :: o) high room 1 = decide (b * room < high) := rfl
        rw [show min 3 (b :: o).length = min 2 o.length + 1 by simp; omega]
        unfold firstBad fbad
        rw [f1, ← k1]
        cases h1 : hIn (headsL high room) (a :: b :: o) 1 with
        | false => rfl
        | true =>
          simp only [if_true]
          rcases o with _ | ⟨c, o⟩
          · rfl
          · have k2 := key2 h1
            have f2 : fineAt (a :: b :: c :: o) high room 2 = decide (c = b * room) := rfl
            rw [show min 2 (c :: o).length = min 1 o.length + 1 by simp; omega]
            unfold firstBad fbad
            rw [f2, ← k2]
            cases h2 : hIn (headsL high room) (a :: b :: c :: o) 2 with
            | false => rfl
            | true =>
              simp only [if_true]
              rcases o with _ | ⟨d, o⟩
              · rfl
              · have k3 := key3 h2
                have f3 : fineAt (a :: b :: c :: d :: o) high room 3 = decide (d = if (high : Int) - c < room then (high : Int) - c else room) := rfl
                rw [show min 1 (d :: o).length = 0 + 1 by simp]
                unfold firstBad fbad
                rw [f3, ← k3]
                cases h3 : hIn (headsL high room) (a :: b :: c :: d :: o) 3 <;> rfl
    · simp [h66]
/-- what the law's reader returns -/
def pressedV (f : Int) : ToldR → PV
  | .bad i => .tup [.int i, .non]
  | .cut => .tup [.non, .non]
  | .full rows nx => .tup [.non, .tup [.int nx, .tup (prints f rows)]]
theorem dat_prints (f : Int) (rows : List (List Int)) : True := trivial
theorem s_law_pressed {o : List Int} {wd high room : Nat} (ho : Oct o) (hol : o.length ≤ 30000) (hw : 1 ≤ wd ∧ wd ≤ 24) (hr : 1 ≤ room ∧ room ≤ 24)
    (h : Q (pressedV (o[2]?.getD 0) (toldT (headBad (headsL high room) o) o wd)) M) : cal LD.G (n + 2) (.fn "_law_pressed") ⟨[.pv (octV o), .pv (.int wd), .pv (.int high), .pv (.int room)], []⟩ M Q X := by
  have hline : line = 16777216 := rfl
  refine call0 (d := d__law_pressed) (svs := [.pv (octV o), .pv (.int wd), .pv (.int high), .pv (.int room)]) rfl rfl rfl rfl ?_
  unfold d__law_pressed
  have ir : ∀ M, itemsR M (octV o) = some (o.map .int) := fun _ => rfl
  have eu : ∀ m : Nat, upTo 0 m = (List.range' 0 m).map fun (i : Nat) => PV.int (i : Int) := fun m => by
    unfold upTo
    rw [List.range_eq_range']
    apply List.map_congr_left
    intro i _
    simp
  rw [← firstBad_eq ho hr.1] at h
  simp [ir]
  have em : (if (o.length : Int) < 4 then (o.length : Int) else 4) = ((min 4 o.length : Nat) : Int) := by split <;> omega
  rw [em]
  refine ⟨by unfold big62; omega, ?_⟩
  rw [Int.toNat_natCast, eu (min 4 o.length)]
  have q := fun D => loop_lhead (D := D) (n := n + 1) (M := M) (wd := .int wd) (high := high) ho hr (e8 := none) (e9 := none) (e10 := none) (e11 := none) (e12 := none) (e13 := none) (min 4 o.length) 0 none none none none (by omega) (by omega) (XX := fun _ c fs M' => X c (fs.map fun p => (p.1, frz M M' 4 p.2)) (restr M M'))
  refine q _ ?_
  cases hf : firstBad o high room (min 4 o.length) 0 with
  | some i =>
    rw [hf] at h
    dsimp only
    simpa [frz_tup, pressedV, toldT] using h
  | none =>
    rw [hf] at h
    intro e4 e5 e6 e7
    have hf2 : ∀ M' : MM, (prints (o[2]?.getD 0) []) = [] := fun _ => rfl
    -- what follows the rows
    cases h3 : o[3]? with
    | none =>
      have h3l : o.length ≤ 3 := by simpa using h3
      have c3 : ¬ (3 : Int) < o.length := by omega
      have c4 : (o.length : Int) ≤ 4 := by omega
      have hc : toldT none o wd = .cut := by unfold toldT; simp [h3]
      rw [hc] at h
      simp [tgLen, hline, ir, c3, c4]
      refine ⟨by unfold big62; omega, ?_⟩
      rw [show upTo 0 0 = [] from rfl]
      refine ⟨trivial, ?_⟩
      simp [ir, c4]
      simpa [frz_tup, pressedV] using h
    | some d =>
      have hd := ho.at h3
      have h3l := (List.getElem?_eq_some_iff.mp h3).1
      have c3 : (3 : Int) < o.length := by omega
      have g3 : ∀ {Q : PV → MM → Prop} {M : MM} {X : XK}, wSub (octV o) (.int 3) M Q X = Q (.int d) M := fun {Q M X} => sub_oct (k := 3) h3
      obtain ⟨f, hf⟩ : ∃ f, o[2]? = some f := ⟨o[2], by simp [show 2 < o.length by omega]⟩
      have hc : toldT none o wd = (match rowsL o d.toNat 4 wd [] with | .bad i => .bad i | .cut => .cut | .done rows at_ => sumT o rows at_) := by unfold toldT; rw [h3] <;> (try dsimp only) <;> (try (cases rowsL o d.toNat 4 wd [] <;> rfl))
      rw [hc, hf] at h
      simp only [Option.getD_some] at h
      simp [tgLen, hline, ir, c3, g3]
      refine ⟨by unfold big62; omega, ?_⟩
      rw [eu d.toNat]
      have q2 := fun D => loop_lrows (D := D) (n := n) (M := M) (hi := .int high) (ro := .int room) ho hf hol hw d.toNat 0 4 [] e5 e6 e7 none none none none none rfl (by omega) (by omega) (XX := fun _ c fs M' => X c (fs.map fun p => (p.1, frz M M' 4 p.2)) (restr M M'))
      rw [show prints f [] = [] from rfl] at q2
      refine q2 _ ?_
      cases hr2 : rowsL o d.toNat 4 wd [] with
      | bad i =>
        rw [hr2] at h
        dsimp only
        simpa [frz_tup, pressedV] using h
      | cut =>
        rw [hr2] at h
        refine ⟨by simpa [frz_tup, pressedV] using h, ?_⟩
        intro at2 e5 e6 e7 e8 e9 e10 e11 e12 e13 hat
        simp [ir, hat]
        have h' : Q (frz M M 4 (.tup [.non, .non])) M := by simpa [frz_tup, pressedV] using h
        by_cases c4 : (o.length : Int) ≤ 4 <;> simp [c4] <;> simpa [frz_tup, pressedV] using h
      | done rows at2 =>
        rw [hr2] at h
        have h4 := (rowsL_len _ _ _ _ _ _ hr2).2
        intro e5 e6 e7 e9 e10 e11 e12 e13
        simp [ir]
        dsimp only at h
        unfold sumT at h
        cases h5 : o[at2]? with
        | none =>
          have h5l : o.length ≤ at2 := by simpa using h5
          rw [h5] at h
          by_cases c4 : (o.length : Int) ≤ 4 <;> simp [c4, h5l] <;> simpa [frz_tup, pressedV] using h
        | some s =>
          have h5l := (List.getElem?_eq_some_iff.mp h5).1
          rw [h5] at h
          have c4 : ¬ (o.length : Int) ≤ 4 := by omega
          have c5 : ¬ o.length ≤ at2 := by omega
          have g5 : ∀ {Q : PV → MM → Prop} {M : MM} {X : XK}, wSub (octV o) (.int (at2 : Int)) M Q X = Q (.int s) M := fun {Q M X} => sub_oct h5
          simp [c4, c5, g5, isNon, sli_oct]
          have e : (itemsOf M (octV (o.take at2))).bind ints? = some (o.take at2) := ints_map _
          rw [e]
          dsimp only at h ⊢
          by_cases cs : s = (o.take at2).sum % 251
          · rw [if_pos cs] at h ⊢
            rw [frz_tup]
            simp only [List.map_cons, List.map_nil, frz_tup, frz_int, frz_non]
            have ep : (prints f rows).map (frz M M 1) = prints f rows := by
              rw [List.map_congr_left (g := id) fun v hv => ?_, List.map_id]
              obtain ⟨i, r, rfl⟩ := prints_ok f rows v hv
              rfl
            rw [ep]
            exact h
          · rw [if_neg cs] at h ⊢
            simpa [frz_tup, pressedV] using h
end
end LW
end

section
set_option Elab.async false
set_option linter.all false
set_option maxRecDepth 100000
set_option maxHeartbeats 400000
namespace LW
open IB
section
variable {n : Nat} {M : MM} {X : XK} {Q : PV → MM → Prop}
theorem Oct.append {a b : List Int} (ha : Oct a) (hb : Oct b) : Oct (a ++ b) := fun v hv => by
  rcases List.mem_append.mp hv with h | h
  · exact ha v h
  · exact hb v h
theorem Oct.take {a : List Int} (h : Oct a) (k : Nat) : Oct (a.take k) := fun v hv => h v (List.mem_of_mem_take hv)
theorem b_addO {a b : List Int} : wBin .add (octV a) (octV b) M Q X = (a.length + b.length ≤ line ∧ Q (octV (a ++ b)) M) := by
  unfold octV
  simp
theorem oct_one (v : Int) : PV.tup [.int v] = octV [v] := rfl
theorem sli_at {o : List Int} {k : Nat} : wSli (octV o) (some ((k : Int) + 1)) none M Q X = Q (octV (o.drop (k + 1))) M := by
  rw [show ((k : Int) + 1) = ((k + 1 : Nat) : Int) by omega]
  exact sli_octF
theorem s_law_spoilt {a : Nat} {x y z : Int} {o : List Int} (h0 : M a = some (well x y z)) (hx : 0 ≤ x) (ho : Oct o) (hn : o ≠ []) (hl : o.length ≤ 2900)
    (h : ∀ (o' : List Int) (x' y' z' : Int), Oct o' → o'.length ≤ o.length + 1 → 0 ≤ x' → Q (octV o') (upd M a (well x' y' z'))) :
    cal LD.G (n + 3) (.fn "_law_spoilt") ⟨[.pv (.ref a), .pv (octV o)], []⟩ M Q X := by
  have hs : (M a).isSome = true := by rw [h0]; rfl
  have rs : ∀ o, restr M (upd M a o) = upd M a o := fun o => by rw [restr_old hs, restr_self]
  have hline : line = 16777216 := rfl
  have hp : 0 < o.length := by cases o with | nil => exact absurd rfl hn | cons _ _ => simp
  refine call0 (d := d__law_spoilt) (svs := [.pv (.ref a), .pv (octV o)]) rfl rfl rfl rfl ?_
  unfold d__law_spoilt
  have ir : ∀ M, itemsR M (octV o) = some (o.map .int) := fun _ => rfl
  simp [ir]
  refine s_law_draw (n := n + 1) h0 hx (by omega) (by omega) fun r x1 y1 z1 r1 r2 hx1 => ?_
  obtain ⟨k, rfl⟩ := Int.eq_ofNat_of_zero_le r1
  refine s_law_draw (n := n + 1) (x := x1) (y := y1) (z := z1) (by simp) hx1 (by omega) (by omega) fun w x2 y2 z2 w1 w2 hx2 => ?_
  simp [tgLen, hline]
  have ht := ho.take k
  by_cases c0 : w = 0
  · simp [c0, isNon, sli_oct]
    rw [frz_oct, rs]
    exact h _ _ _ _ (ho.take k) (by simp; omega) hx2
  · by_cases c1 : w = 1
    · simp [c1, hline]
      refine s_law_of (n := n) (xs := [0, 1, 66, 255]) (x := x2) (y := y2) (z := z2) (by simp) hx2 (by simp) (by simp) fun v hv x3 y3 z3 hx3 => ?_
      have hv' : 0 ≤ v ∧ v ≤ 255 := by simp at hv; omega
      simp [oct_one, b_addO, hline]
      refine ⟨by omega, ?_⟩
      rw [frz_oct, rs]
      refine h _ _ _ _ (ho.append fun u hu => ?_) (by simp) hx3
      obtain rfl : u = v := by simpa using hu
      exact hv'
    · by_cases c2 : w = 2
      · simp [c2, isNon, sli_oct, sli_at, b_addO, hline]
        refine ⟨by omega, ?_⟩
        rw [frz_oct, rs]
        exact h _ _ _ _ (ht.append (ho.drop _)) (by simp; omega) hx2
      · simp [c0, c1, c2, isNon, sli_oct, sli_at, b_addO, hline]
        refine s_law_draw (n := n + 1) (x := x2) (y := y2) (z := z2) (by simp) hx2 (by omega) (by omega) fun r3 x3 y3 z3 r31 r32 hx3 => ?_
        simp
        refine s_law_of (n := n) (xs := [0, 1, 2, 7, 8, 24, 25, 255, r3]) (x := x3) (y := y3) (z := z3) (by simp) hx3 (by simp) (by simp) fun v hv x4 y4 z4 hx4 => ?_
        have hv' : 0 ≤ v ∧ v ≤ 255 := by simp at hv; omega
        simp [oct_one, b_addO, hline, isNon, sli_at]
        refine ⟨by omega, by omega, ?_⟩
        rw [frz_oct, rs]
        refine h _ _ _ _ (ht.append fun u hu => ?_) (by simp; omega) hx4
        rcases List.mem_cons.mp hu with rfl | hu
        · exact hv'
        · exact ho.drop _ u hu
theorem upd_c {a b : Nat} {o o' : MO} (h : a ≠ b) : upd (upd M a o) b o' = upd (upd M b o') a o := by
  funext k
  unfold upd
  by_cases h1 : k = a <;> by_cases h2 : k = b <;> simp [h1, h2] <;> omega
theorem loop_pieces {a q : Nat} {o : List Int} (haq : a ≠ q) (hol : o.length ≤ 2900) {D : Ends} {XX : XE} : ∀ (its : List PV) (ps : List (List Int)) (at_ : Nat) (x y z : Int) (e4 e5 : Option SV), 0 ≤ x → ps.flatten = o.take at_ → at_ ≤ 3000 → ps.length + its.length ≤ 8000 →
    (∀ (ps : List (List Int)) (at_ : Nat) (x y z : Int) e4 e5, 0 ≤ x → ps.flatten = o.take at_ → ps.length ≤ 8000 → D.nx [some (.pv (.ref a)), some (.pv (octV o)), some (.pv (.ref q)), some (.pv (.int at_)), e4, e5] (upd (upd M a (well x y z)) q (.lst (ps.map octV)))) →
    forL (fun _ => True) (fun v env M Q => wT LD.G (cal LD.G (n + 2)) d__law_pieces_t1 v env M Q (XX env)) (fun env M D => wSs LD.G (cal LD.G (n + 2)) d__law_pieces_b2 env M D XX) D its
      [some (.pv (.ref a)), some (.pv (octV o)), some (.pv (.ref q)), some (.pv (.int at_)), e4, e5] (upd (upd M a (well x y z)) q (.lst (ps.map octV))) := by
  intro its
  induction its with
  | nil => intro ps at_ x y z e4 e5 hx hf ha hl h; exact ⟨trivial, h _ _ _ _ _ _ _ hx hf (by simpa using hl)⟩
  | cons it its ih =>
    intro ps at_ x y z e4 e5 hx hf ha hl h
    have hline : line = 16777216 := rfl
    simp only [List.length_cons] at hl
    refine ⟨trivial, ?_⟩
    dsimp only
    rw [d__law_pieces_t1_u]
    simp
    rw [d__law_pieces_b2_u]
    have ir : ∀ M, itemsR M (octV o) = some (o.map .int) := fun _ => rfl
    by_cases c : at_ < o.length
    · simp [ir, c, hline]
      refine s_law_of (n := n) (M := upd (upd M a (well x y z)) q (.lst (ps.map octV))) (a := a) (xs := [0, 1, 1, 2, 3, 7, 50]) (x := x) (y := y) (z := z) (by rw [upd_o haq]; simp) hx (by simp) (by simp) fun v hv x1 y1 z1 hx1 => ?_
      have hv' : 0 ≤ v ∧ v ≤ 50 := by simp at hv; omega
      obtain ⟨m, rfl⟩ := Int.eq_ofNat_of_zero_le hv'.1
      have hm : m ≤ 50 := by omega
      have esl : ∀ {Q : PV → MM → Prop} {M : MM} {X : XK}, wSli (octV o) (some (at_ : Int)) (some ((at_ : Int) + (m : Int))) M Q X = Q (octV ((o.drop at_).take m)) M := by
        intro Q M X
        show Q (.tup (sliceOf (o.map .int) (some (at_ : Int)) (some ((at_ : Int) + (m : Int))))) M = _
        rw [show ((at_ : Int) + (m : Int)) = ((at_ + m : Nat) : Int) by omega, slice_seg, Nat.add_sub_cancel_left, ← List.map_drop, ← List.map_take]
        rfl
      rw [upd_c (Ne.symm haq)]
      simp [isNon, esl, upd_u]
      have ha2 : (upd (upd M a (well x1 y1 z1)) q (.lst (ps.map octV))) q = some (.lst (ps.map octV)) := by simp
      refine ⟨by omega, ?_⟩
      rw [show ((at_ : Int) + (m : Int)) = ((at_ + m : Nat) : Int) by omega]
      have e : ps.map octV ++ [octV ((o.drop at_).take m)] = (ps ++ [(o.drop at_).take m]).map octV := by simp
      rw [e]
      exact ih (ps ++ [(o.drop at_).take m]) (at_ + m) x1 y1 z1 _ _ hx1 (by rw [List.flatten_append, hf, List.take_add]; simp) (by omega) (by simp; omega) h
    · simp [ir, c]
      exact ih ps at_ x y z _ _ hx hf ha (by omega) h
theorem s_law_pieces {a : Nat} {x y z : Int} {o : List Int} (h0 : M a = some (well x y z)) (hx : 0 ≤ x) (hl : o.length ≤ 2900)
    (h : ∀ (ps : List (List Int)) (x' y' z' : Int), ps.flatten = o → ps.length ≤ 9000 → 0 ≤ x' → Q (.lst (ps.map octV)) (upd M a (well x' y' z'))) :
    cal LD.G (n + 3) (.fn "_law_pieces") ⟨[.pv (.ref a), .pv (octV o)], []⟩ M Q X := by
  have hs : (M a).isSome = true := by rw [h0]; rfl
  have hline : line = 16777216 := rfl
  refine call0 (d := d__law_pieces) (svs := [.pv (.ref a), .pv (octV o)]) rfl rfl rfl rfl ?_
  unfold d__law_pieces
  have ir : ∀ M, itemsR M (octV o) = some (o.map .int) := fun _ => rfl
  simp [hline, tgLen]
  intro q hq
  have haq : a ≠ q := fun e => by subst e; rw [h0] at hq; cases hq
  simp [ir]
  refine ⟨.inl (by constructor <;> omega), by unfold big62; omega, ?_⟩
  have e0 : upd M q (.lst []) = upd (upd M a (well x y z)) q (.lst (([] : List (List Int)).map octV)) := by rw [upd_id h0]; rfl
  rw [e0]
  refine loop_pieces haq hl _ [] 0 x y z _ _ hx rfl (by omega) (by rw [upTo_len]; simp; omega) fun ps at_ x1 y1 z1 e4 e5 hx1 hf hpl => ?_
  simp [isNon]
  rw [sli_octF]
  rw [show (some (0 : Int)) = some ((0 : Nat) : Int) from rfl, sli_oct]
  have eb : ∀ {xs ys : List PV} {M : MM} {Q : PV → MM → Prop} {X : XK}, wBin .add (.ref q) (.lst ys) (upd M q (.lst xs)) Q X = (xs.length + ys.length ≤ line ∧ Q (.lst (xs ++ ys)) (upd M q (.lst xs))) := by
    intro xs ys M Q X
    unfold wBin
    rw [show rd (upd M q (.lst xs)) (.ref q) = .lst xs by unfold rd; simp, show rd (upd M q (.lst xs)) (.lst ys) = .lst ys from rfl]
  rw [eb]
  simp only [List.length_map, List.length_cons, List.length_nil]
  refine ⟨by omega, ?_⟩
  have el : ps.map octV ++ [octV (o.drop at_), octV (o.take 0)] = (ps ++ [o.drop at_, []]).map octV := by simp
  rw [el, restr_new hq, restr_old hs, restr_self]
  exact h _ _ _ _ (by simp [hf]) (by simp; omega) hx1
end
end LW
end

section
set_option Elab.async false
set_option linter.all false
set_option maxRecDepth 100000
set_option maxHeartbeats 400000
namespace LW
open IB
section
variable {n : Nat} {M : MM} {X : XK} {Q : PV → MM → Prop}
def wrongV (x : PV) : PV := .tup [.str "wrong", x]
def printedV (acc : List PV) : PV := .tup [.str "printed", .tup acc]
theorem frz_wrongx {x : PV} (h : x = .non ∨ ∃ i, x = .int i) {M M' : MM} : frz M M' 4 (wrongV x) = wrongV x := by
  rcases h with rfl | ⟨i, rfl⟩ <;> rfl
theorem s_law_put {p w h r : Nat} {held : List Int} {pr : List PV} {v : PV} (h0 : M p = some (pressO w h r held pr)) (hw : 1 ≤ w ∧ w ≤ 24) (hh : 1 ≤ h ∧ h ≤ 24) (hr : 1 ≤ r ∧ r ≤ 24) (hheld : Oct held) (hhl : held.length ≤ 20000) (hp : PrOk pr) (hpl : pr.length ≤ 6000000)
    (hv : ∀ a, v ≠ .ref a) (hx : ∀ xs, v = .tup xs → ∀ x ∈ xs, ∀ a, x ≠ .ref a)
    (hq : match wrongRes (fun _ e => btw e 0 255) 0 2900 v with
      | .lst (x :: _) => Q (wrongV x) M
      | _ => ∃ o, v = octV o ∧ Oct o ∧ o.length ≤ 2900 ∧ match pressT (headsL h r) w ((held ++ o).length + 1) (held ++ o) [] with
        | (acc, o', none) => Q (printedV acc) (upd M p (pressO w h r o' (pr ++ acc)))
        | (acc, _, some i) => Q (wrongV (.int (i : Int))) (upd M p (pressO w h r [] (pr ++ acc)))) : cal LD.G (n + 9) (.fn "_law_put") ⟨[.pv (.ref p), .pv v], []⟩ M Q X := by
  have hline : line = 16777216 := rfl
  have hs : (M p).isSome = true := by rw [h0]; rfl
  have ke : LD.G.excs "InvalidOctets" = some (["InvalidOctets", "InkError", "ValueError", "Exception", "BaseException"], ["index"]) := rfl
  refine call0 (d := d__law_put) (svs := [.pv (.ref p), .pv v]) rfl rfl rfl rfl ?_
  unfold d__law_put
  simp [hline, h0, pressO, cls_press, ccP, List.lookup]
  refine s_put (n := n) (.inl rfl) h0 hw hh hr hheld hhl hp hpl hv hx ?_
  have sl : ∀ {a b : PV} {c : SV}, slot (List.set (dropX [some (.pv a), some (.pv b), none]) 2 (some c)) 2 = some c := rfl
  have lk : ∀ {x : PV}, List.lookup "index" [("index", x)] = some x := rfl
  rcases wrong_shape (p := fun _ e => btw e 0 255) (least := 0) (most := 2900) v with q | q | ⟨i, q⟩
  · rw [q] at hq ⊢
    obtain ⟨o, rfl, ho, hol, hq⟩ := hq
    refine ⟨o, rfl, ho, hol, ?_⟩
    have hall : Oct (held ++ o) := hheld.append ho
    have hok := pressT_ok (hs := headsL h r) (wd := w) ((held ++ o).length + 1) (held ++ o) [] (fun v hv => by cases hv)
    generalize pressT (headsL h r) w ((held ++ o).length + 1) (held ++ o) [] = res at hq hok
    obtain ⟨acc, o', wr⟩ := res
    cases wr with
    | some i =>
      dsimp only at hq ⊢
      simp [wHs, ke, hline, sl, lk]
      rw [restr_old hs, restr_self]
      exact hq
    | none =>
      dsimp only at hq ⊢
      rw [restr_old hs, restr_self]
      have e : ∀ {M M'}, frz M M' 4 (.tup [.str "printed", .tup acc]) = printedV acc := fun {M M'} => by
        show PV.tup [.str "printed", .tup (acc.map (frz M M' 2))] = _
        rw [frz_prs (k := 0) hok]; rfl
      rw [e]
      exact hq
  · rw [q] at hq ⊢
    simp [wHs, ke, hline, sl, lk]
    exact hq
  · rw [q] at hq ⊢
    simp [wHs, ke, hline, sl, lk]
    exact hq
def dueV : List PV × List Int × Option Nat → PV
  | (acc, _, some i) => .tup [wrongV (.int (i : Int)), .tup acc, .tup []]
  | (acc, o, none) => .tup [printedV acc, .tup acc, octV o]
theorem loop_due {p : List (List Int)} {e0 e1 : Option SV} {wd high room : Nat} (hpg : PgOk p wd high) (hw : 1 ≤ wd ∧ wd ≤ 24) (hh : 1 ≤ high ∧ high ≤ 24) (hr : 1 ≤ room ∧ room ≤ 24) {D : Ends} {XX : XE} : ∀ (its : List PV) (o : List Int) (acc : List PV) (e6 e7 e8 : Option SV), Oct o → o.length ≤ 30000 → acc.length + 255 * o.length ≤ 10000000 →
    (match pressT (headsL high room) wd its.length o acc with
      | (acc', o', some i) => D.rt (dueV (acc', o', some i)) M
      | (acc', o', none) => D.rt (dueV (acc', o', none)) M ∧ ∀ e6 e7 e8, D.nx [e0, e1, some (.pv (pgV p)), some (.pv (.int room)), some (.pv (octV o')), some (.pv (.tup acc')), e6, e7, e8] M) →
    forL (fun _ => True) (fun v env M Q => wT LD.G (cal LD.G (n + 2)) d__law_due_t1 v env M Q (XX env)) (fun env M D => wSs LD.G (cal LD.G (n + 2)) d__law_due_b2 env M D XX) D its
      [e0, e1, some (.pv (pgV p)), some (.pv (.int room)), some (.pv (octV o)), some (.pv (.tup acc)), e6, e7, e8] M := by
  intro its
  induction its with
  | nil => intro o acc e6 e7 e8 _ _ _ h; exact ⟨trivial, h.2 _ _ _⟩
  | cons it its ih =>
    intro o acc e6 e7 e8 ho hol hal h
    have hline : line = 16777216 := rfl
    have kc : ∀ {M : MM} {Q : Bool → MM → Prop} {X : XK} {v : PV}, wCmp .isnot v .non M Q X = Q (match v with | .non => false | _ => true) M := fun {M Q X v} => rfl
    have kz : ∀ {M : MM} {Q : Bool → MM → Prop} {X : XK} {v : PV}, wCmp .is v .non M Q X = Q (match v with | .non => true | _ => false) M := fun {M Q X v} => rfl
    unfold pressT at h
    simp only [List.length_cons] at h
    refine ⟨trivial, ?_⟩
    dsimp only
    rw [d__law_due_t1_u]
    simp
    rw [d__law_due_b2_u]
    obtain ⟨row, hrow⟩ : ∃ row, p[0]? = some row := ⟨p[0]'(by rw [hpg.high]; omega), by simp⟩
    have hrl : row.length = wd := hpg.wide row (List.mem_of_getElem? hrow)
    have gs : ∀ {Q : PV → MM → Prop} {M : MM} {X : XK}, wSub (pgV p) (.int 0) M Q X = Q (rowV row) M := fun {Q M X} => by
      refine sub_at (xs := p.map rowV) rfl ?_
      rw [show (0 : Int) = ((0 : Nat) : Int) from rfl, idx_nat (by simp [hpg.high]; omega), List.getElem?_map, hrow]; rfl
    have ir1 : ∀ M, itemsR M (rowV row) = some (row.map .int) := fun _ => rfl
    have ir2 : ∀ M, itemsR M (pgV p) = some (p.map rowV) := fun _ => rfl
    simp [gs, ir1, ir2, hrl, hpg.high]
    refine s_law_pressed ho hol hw hr ?_
    cases hT : toldT (headBad (headsL high room) o) o wd with
    | bad i =>
      rw [hT] at h
      dsimp only at h
      simp [pressedV, tgLen, kc, hline]
      exact h
    | cut =>
      rw [hT] at h
      dsimp only at h
      simp [pressedV, tgLen, kc, kz, hline]
      exact h.1
    | full rows nx =>
      rw [hT] at h
      dsimp only at h
      obtain ⟨t1, t2, t3, f, hf⟩ := toldT_full ho hT
      simp [pressedV, tgLen, kc, kz, hline, isNon, sli_octF]
      have hpl : (prints (o[2]?.getD 0) rows).length = rows.length := by unfold prints; simp
      refine ⟨by omega, ?_⟩
      exact ih (o.drop nx) _ _ _ _ (ho.drop nx) (by simp; omega) (by simp [hpl]; omega) h
theorem frz_due {acc : List PV} (hok : PrOk acc) (o : List Int) (w : Option Nat) {M M' : MM} : frz M M' 4 (dueV (acc, o, w)) = dueV (acc, o, w) := by
  have e1 : acc.map (frz M M' 1) = acc := by
    rw [List.map_congr_left (g := id) fun v hv => ?_, List.map_id]
    obtain ⟨i, r, rfl⟩ := hok v hv
    rfl
  have e2 : acc.map (frz M M' 2) = acc := frz_prs (k := 0) hok
  cases w with
  | some i =>
    show PV.tup [.tup [.str "wrong", .int (i : Int)], .tup (acc.map (frz M M' 2)), .tup []] = _
    rw [e2]; rfl
  | none =>
    show PV.tup [.tup [.str "printed", .tup (acc.map (frz M M' 1))], .tup (acc.map (frz M M' 2)), frz M M' 3 (octV o)] = _
    rw [e1, e2, frz_oct]; rfl
theorem s_law_due {p : List (List Int)} {held o : List Int} {wd high room : Nat} (hpg : PgOk p wd high) (hw : 1 ≤ wd ∧ wd ≤ 24) (hh : 1 ≤ high ∧ high ≤ 24) (hr : 1 ≤ room ∧ room ≤ 24) (hheld : Oct held) (ho : Oct o) (hl : (held ++ o).length ≤ 25000)
    (h : Q (dueV (pressT (headsL high room) wd ((held ++ o).length + 1) (held ++ o) [])) M) :
    cal LD.G (n + 3) (.fn "_law_due") ⟨[.pv (octV held), .pv (octV o), .pv (pgV p), .pv (.int room)], []⟩ M Q X := by
  have hline : line = 16777216 := rfl
  have hall := hheld.append ho
  refine call0 (d := d__law_due) (svs := [.pv (octV held), .pv (octV o), .pv (pgV p), .pv (.int room)]) rfl rfl rfl rfl ?_
  unfold d__law_due
  have ir : ∀ M, itemsR M (octV (held ++ o)) = some ((held ++ o).map .int) := fun _ => rfl
  simp only [List.length_append] at hl
  have hok := pressT_ok (hs := headsL high room) (wd := wd) ((held ++ o).length + 1) (held ++ o) [] (fun v hv => by cases hv)
  simp [b_addO, hline, tgLen, ir]
  refine ⟨by omega, by unfold big62; omega, ?_⟩
  have q := fun D => loop_due (D := D) (n := n) (M := M) (e0 := some (.pv (octV held))) (e1 := some (.pv (octV o))) hpg hw hh hr (upTo 0 ((held.length : Int) + o.length + 1).toNat) (held ++ o) [] none none none hall (by simp; omega) (by simp; omega) (XX := fun _ c fs M' => X c (fs.map fun p => (p.1, frz M M' 4 p.2)) (restr M M'))
  refine q _ ?_
  have el : (upTo 0 ((held.length : Int) + o.length + 1).toNat).length = (held ++ o).length + 1 := by rw [upTo_len]; simp; omega
  rw [el]
  generalize pressT (headsL high room) wd ((held ++ o).length + 1) (held ++ o) [] = res at h hok
  obtain ⟨acc, o', wr⟩ := res
  have hf := @frz_due acc hok o' wr M M
  cases wr with
  | some i =>
    show Q (frz M M 4 _) (restr M M)
    rw [hf, restr_self]; exact h
  | none =>
    refine ⟨by show Q (frz M M 4 _) (restr M M); rw [hf, restr_self]; exact h, fun e6 e7 e8 => ?_⟩
    simp [hline]
    have hf' : frz M M 4 (.tup [.tup [.str "printed", .tup acc], .tup acc, octV o']) = dueV (acc, o', none) := hf
    rw [hf']
    exact h
end
end LW
end

section
set_option Elab.async false
set_option linter.all false
set_option maxRecDepth 100000
set_option maxHeartbeats 400000
namespace LW
open IB
def RunsOk (ps : List (Int × Int)) : Prop := ∀ k p, ps[k]? = some p → 1 ≤ p.1 ∧ 0 ≤ p.2 ∧ p.2 < 8 ∧ lastOf (ps.take k) ≠ .int p.2
theorem rowOf_last {ps : List (Int × Int)} (h : ∀ p ∈ ps, 1 ≤ p.1) {i : Int} (hl : lastOf ps ≠ .int i) : (rowOf ps).getLast? ≠ some i := by
  intro e
  cases hp : ps.getLast? with
  | none =>
    have : ps = [] := by simpa using hp
    subst this
    cases e
  | some l =>
    obtain ⟨q, rfl⟩ := List.getLast?_eq_some_iff.mp hp
    have h1 := h l (by simp)
    rw [rowOf_app, rowOf_one] at e
    obtain ⟨k, hk⟩ : ∃ k, l.1.toNat = k + 1 := ⟨l.1.toNat - 1, by omega⟩
    rw [hk, List.replicate_succ', ← List.append_assoc] at e
    simp at e
    apply hl
    unfold lastOf
    rw [hp]
    exact congrArg PV.int e
theorem rowOf_ge {ps : List (Int × Int)} (h : ∀ p ∈ ps, 1 ≤ p.1) : ps.length ≤ (rowOf ps).length := by
  induction ps with
  | nil => simp
  | cons p ps ih =>
    have h1 := h p List.mem_cons_self
    have := ih fun q hq => h q (List.mem_cons_of_mem _ hq)
    have e : rowOf (p :: ps) = List.replicate p.1.toNat p.2 ++ rowOf ps := rfl
    rw [e]; simp; omega
theorem drop_get {o : List Int} {at_ : Nat} {a : Int} {l : List Int} (h : o.drop at_ = a :: l) : o[at_]? = some a ∧ o.drop (at_ + 1) = l := by
  constructor
  · have := congrArg (fun z => z[0]?) h
    simpa [List.getElem?_drop] using this
  · have := congrArg List.tail h
    simpa [List.tail_drop] using this
theorem runs_read {o : List Int} {wd : Nat} {all : List (Int × Int)} (hok : RunsOk all) (h24 : (rowOf all).length ≤ 24) (hwd : wd = 0 ∨ wd = (rowOf all).length) (rest : List Int) :
    ∀ (suf pre : List (Int × Int)) (at_ : Nat), pre ++ suf = all → o.drop at_ = runOct suf ++ rest → runsT o wd suf.length at_ (rowOf pre) = .full (rowOf all) (at_ + 2 * suf.length) := by
  have hpos : ∀ p ∈ all, 1 ≤ p.1 := fun p hp => by
    obtain ⟨k, hk⟩ := List.mem_iff_getElem?.mp hp
    exact (hok k p hk).1
  intro suf
  induction suf with
  | nil => intro pre at_ e _; rw [List.append_nil] at e; subst e; rfl
  | cons p suf ih =>
    intro pre at_ e ho
    have e1 : runOct (p :: suf) = p.1 :: p.2 :: runOct suf := rfl
    rw [e1] at ho
    obtain ⟨g1, ho⟩ := drop_get ho
    obtain ⟨g2, ho⟩ := drop_get ho
    have hk := hok pre.length p (by rw [← e]; simp)
    rw [← e, List.take_left] at hk
    have hpre : ∀ q ∈ pre, 1 ≤ q.1 := fun q hq => hpos q (by rw [← e]; simp [hq])
    have hsuf : ∀ q ∈ suf, 1 ≤ q.1 := fun q hq => hpos q (by rw [← e]; simp [hq])
    have hlen : (rowOf all).length = (rowOf pre).length + p.1.toNat + (rowOf suf).length := by
      rw [← e, rowOf_app]
      have e : rowOf (p :: suf) = List.replicate p.1.toNat p.2 ++ rowOf suf := rfl
      rw [e]; simp; omega
    have hge := rowOf_ge hsuf
    have hW : wMax wd = 24 ∧ wd = 0 ∨ wMax wd = (rowOf all).length := by
      rcases hwd with rfl | rfl
      · left; exact ⟨rfl, rfl⟩
      · right; unfold wMax; rw [if_pos (by omega)]
    have hb : runBad (rowOf pre) p.1 suf.length wd = false := by
      rw [runBad_iff]
      left
      refine ⟨hk.1, by omega, fun h0 hw => ?_⟩
      have : suf = [] := by simpa using h0
      subst this
      have e0 : (rowOf ([] : List (Int × Int))).length = 0 := rfl
      omega
    unfold runsT
    rw [List.length_cons]
    simp only [g1, g2, hb]
    rw [if_neg (by simp), if_neg (by
      rintro (z | z)
      · omega
      · exact rowOf_last hpre hk.2.2.2 z)]
    have er : rowOf pre ++ List.replicate p.1.toNat p.2 = rowOf (pre ++ [p]) := by rw [rowOf_app, rowOf_one]
    rw [er]
    have q := ih (pre ++ [p]) (at_ + 2) (by rw [← e]; simp) ho
    rw [q]
    congr 1
    omega
def RowOk (r : List Int) (L : Nat) : Prop := r.length = L ∧ ∀ v ∈ r, 0 ≤ v ∧ v < 8
theorem row_read {o r rest : List Int} {wd L at_ : Nat} (hr : RowOk r L) (hL : 1 ≤ L ∧ L ≤ 24) (hwd : wd = 0 ∨ wd = L) (ho : o.drop at_ = rowOct r ++ rest) : rowT o at_ wd = .full r (at_ + (rowOct r).length) := by
  obtain ⟨hl, hv⟩ := hr
  have e1 : rowOct r ++ rest = ((runsOf r).length : Int) :: (runOct (runsOf r) ++ rest) := rfl
  rw [e1] at ho
  obtain ⟨g1, ho⟩ := drop_get ho
  have hok : RunsOk (runsOf r) := fold_ok r [] hv (fun k p h => by simp at h)
  have hn : 1 ≤ (runsOf r).length := by
    rcases hz : runsOf r with _ | ⟨a, b⟩
    · have := row_runs r
      rw [hz] at this
      have e : rowOf ([] : List (Int × Int)) = [] := rfl
      rw [e] at this
      subst this
      simp at hl; omega
    · simp
  have hle := runs_len r
  have hW : (L : Int) ≤ wMax wd := by
    unfold wMax
    rcases hwd with rfl | rfl
    · simp; omega
    · rw [if_pos (by omega)]; omega
  unfold rowT
  rw [g1]
  dsimp only
  rw [if_pos ⟨by omega, by omega⟩, Int.toNat_natCast]
  have q := runs_read hok (by rw [row_runs]; omega) (by rw [row_runs, hl]; exact hwd) rest (runsOf r) [] (at_ + 1) rfl ho
  have e0 : rowOf ([] : List (Int × Int)) = [] := rfl
  rw [e0, row_runs] at q
  rw [q]
  congr 1
  unfold rowOct
  rw [List.length_cons, runOct_len]
  omega
theorem rows_read {o rest : List Int} {L : Nat} (hL : 1 ≤ L ∧ L ≤ 24) : ∀ (rs acc : List (List Int)) (wd at_ : Nat), (∀ r ∈ rs, RowOk r L) → (wd = 0 ∨ wd = L) → o.drop at_ = rowsOct rs ++ rest → rowsL o rs.length at_ wd acc = .done (acc ++ rs) (at_ + (rowsOct rs).length) := by
  intro rs
  induction rs with
  | nil => intro acc wd at_ _ _ _; simp [rowsL, rowsOct]
  | cons r rs ih =>
    intro acc wd at_ hr hwd ho
    have e : rowsOct (r :: rs) = rowOct r ++ rowsOct rs := rfl
    rw [e, List.append_assoc] at ho
    have h1 := row_read (hr r List.mem_cons_self) hL hwd ho
    have ho2 : o.drop (at_ + (rowOct r).length) = rowsOct rs ++ rest := by
      rw [← List.drop_drop, ho, List.drop_left]
    rw [List.length_cons]
    unfold rowsL
    rw [h1]
    dsimp only
    have hl := (hr r List.mem_cons_self).1
    rw [hl, ih (acc ++ [r]) L _ (fun q hq => hr q (List.mem_cons_of_mem _ hq)) (.inr rfl) ho2, e]
    simp
    omega
theorem band_len {p : List (List Int)} {room band : Nat} : (bandRows p room band).length = min room (p.length - band * room) := by
  unfold bandRows; simp
theorem told_msg {p : List (List Int)} {wd wd0 high room band : Nat} (hp : PgOk p wd high) (hw : 1 ≤ wd ∧ wd ≤ 24) (hwd : wd0 = 0 ∨ wd0 = wd) (rest : List Int) :
    toldT none (msgOct p room band ++ rest) wd0 = .full (bandRows p room band) (msgOct p room band).length := by
  have hd : (msgOct p room band ++ rest).drop 4 = rowsOct (bandRows p room band) ++ ((bodyOct p room band).sum % 251 :: rest) := by
    unfold msgOct bodyOct headOct; simp
  have h3 : (msgOct p room band ++ rest)[3]? = some (((bandRows p room band).length : Nat) : Int) := by
    unfold msgOct bodyOct headOct; simp
  have hr : ∀ r ∈ bandRows p room band, RowOk r wd := fun r hm => by
    have hm2 : r ∈ p := List.mem_of_mem_drop (List.mem_of_mem_take hm)
    exact ⟨hp.wide r hm2, hp.ink r hm2⟩
  have q := rows_read hw (bandRows p room band) [] wd0 4 hr hwd hd
  unfold toldT
  rw [h3]
  dsimp only
  rw [Int.toNat_natCast, q]
  dsimp only
  have hb : 4 + (rowsOct (bandRows p room band)).length = (bodyOct p room band).length := by unfold bodyOct headOct; simp; omega
  rw [hb]
  unfold sumT
  have e1 : msgOct p room band ++ rest = bodyOct p room band ++ ((bodyOct p room band).sum % 251 :: rest) := by unfold msgOct; simp
  rw [e1, List.getElem?_append_right (by omega), Nat.sub_self, List.take_left]
  simp [msgOct]
theorem head_msg {p : List (List Int)} {wd high room band : Nat} (hp : PgOk p wd high) (hr : 1 ≤ room) (hb : band * room < high) (hok : Oct (msgOct p room band ++ rest)) :
    headBad (headsL high room) (msgOct p room band ++ rest) = none := by
  rw [← firstBad_eq hok hr]
  have e : msgOct p room band ++ rest = 66 :: (band : Int) :: ((band * room : Nat) : Int) :: ((bandRows p room band).length : Int) :: (rowsOct (bandRows p room band) ++ ((bodyOct p room band).sum % 251 :: rest)) := by
    unfold msgOct bodyOct headOct; simp
  rw [e]
  have hm : min 4 (66 :: (band : Int) :: ((band * room : Nat) : Int) :: ((bandRows p room band).length : Int) :: (rowsOct (bandRows p room band) ++ ((bodyOct p room band).sum % 251 :: rest))).length = 4 := by simp
  rw [hm]
  have hbl := band_len (p := p) (room := room) (band := band)
  rw [hp.high] at hbl
  have f0 : ∀ t, fineAt (66 :: t) high room 0 = true := fun t => rfl
  have f1 : ∀ t a, fineAt (a :: (band : Int) :: t) high room 1 = true := fun t a => by
    show decide ((band : Int) * room < high) = true
    simp
    exact_mod_cast hb
  have f2 : ∀ t a, fineAt (a :: (band : Int) :: ((band * room : Nat) : Int) :: t) high room 2 = true := fun t a => by
    show decide (((band * room : Nat) : Int) = (band : Int) * room) = true
    simp
  have f3 : ∀ t a b, fineAt (a :: b :: ((band * room : Nat) : Int) :: ((bandRows p room band).length : Int) :: t) high room 3 = true := fun t a b => by
    show decide (((bandRows p room band).length : Int) = if (high : Int) - ((band * room : Nat) : Int) < room then (high : Int) - ((band * room : Nat) : Int) else room) = true
    rw [decide_eq_true_iff]
    split <;> omega
  unfold firstBad; rw [f0, if_pos rfl]
  unfold firstBad; rw [f1, if_pos rfl]
  unfold firstBad; rw [f2, if_pos rfl]
  unfold firstBad; rw [f3, if_pos rfl]
  rfl
end LW
end

section
set_option Elab.async false
set_option linter.all false
set_option maxRecDepth 100000
set_option maxHeartbeats 400000
namespace LW
open IB
section
variable {n : Nat} {M : MM} {X : XK} {Q : PV → MM → Prop}
-- how long, how deep
theorem runsT_le {o : List Int} {wd : Nat} : ∀ (l at2 : Nat) (row row' : List Int) (e : Nat), runsT o wd l at2 row = .full row' e → at2 ≤ e := by
  intro l
  induction l with
  | zero => intro at2 row row' e he; unfold runsT at he; cases he; omega
  | succ l ih =>
    intro at2 row row' e he
    unfold runsT at he
    split at he
    · cases he
    · split at he
      · cases he
      · split at he
        · cases he
        · split at he
          · cases he
          · have := ih _ _ _ _ he
            omega
theorem rowT_le {o : List Int} {at_ wd nx : Nat} {row : List Int} (h : rowT o at_ wd = .full row nx) : at_ + 1 ≤ nx := by
  unfold rowT at h
  split at h
  · cases h
  · split at h
    · exact runsT_le _ _ _ _ _ h
    · cases h
def RowsIn (rows : List (List Int)) : Prop := ∀ r ∈ rows, r.length ≤ 24
theorem rowsL_ok {o : List Int} : ∀ (k at_ wd : Nat) (acc rows : List (List Int)) (e : Nat), wd ≤ 24 → RowsIn acc → rowsL o k at_ wd acc = .done rows e → at_ + k ≤ e ∧ RowsIn rows := by
  intro k
  induction k with
  | zero => intro at_ wd acc rows e _ ha h; unfold rowsL at h; cases h; exact ⟨by omega, ha⟩
  | succ k ih =>
    intro at_ wd acc rows e hw ha h
    unfold rowsL at h
    have hg := rowT_good (o := o) (at_ := at_) hw
    split at h
    · cases h
    · cases h
    · rename_i row nx hr
      rw [hr] at hg
      have h1 := rowT_le hr
      have := ih _ _ _ _ _ hg.2 (fun r hm => by
        rcases List.mem_append.mp hm with hm | hm
        · exact ha r hm
        · obtain rfl : r = row := by simpa using hm
          exact hg.2) h
      exact ⟨by omega, this.2⟩
theorem toldT_ok {hb : Option Nat} {o : List Int} {wd nx : Nat} {rows : List (List Int)} (hw : wd ≤ 24) (ho : Oct o) (h : toldT hb o wd = .full rows nx) : rows.length ≤ nx ∧ nx ≤ o.length ∧ RowsIn rows := by
  have h1 := toldT_full ho h
  refine ⟨?_, h1.2.2.1, ?_⟩
  all_goals
    unfold toldT at h
    split at h
    · cases h
    · split at h
      · cases h
      · split at h
        · cases h
        · cases h
        · rename_i rows' at' hr
          have h2 := rowsL_ok _ _ _ _ _ _ hw (fun r hm => by cases hm) hr
          have h3 := rowsL_len _ _ _ _ _ _ hr
          unfold sumT at h
          split at h
          · cases h
          · split at h
            · cases h
              first | (simp at h3; omega) | exact h2.2
            · cases h
/-- printed rows, none long -/
def PrIn (acc : List PV) : Prop := ∀ v ∈ acc, ∃ (i : Int) (r : List Int), v = .tup [.int i, rowV r] ∧ r.length ≤ 24
theorem prints_in {f : Int} {rows : List (List Int)} (h : RowsIn rows) : PrIn (prints f rows) := fun v hv => by
  unfold prints at hv
  obtain ⟨⟨r, i⟩, hm, rfl⟩ := List.mem_map.mp hv
  refine ⟨_, _, rfl, h r ?_⟩
  have := List.mem_zipIdx hm
  rw [this.2.2]; exact List.getElem_mem _
theorem PrIn.append {a b : List PV} (ha : PrIn a) (hb : PrIn b) : PrIn (a ++ b) := fun v hv => by
  rcases List.mem_append.mp hv with h | h
  · exact ha v h
  · exact hb v h
theorem PrIn.ok {a : List PV} (h : PrIn a) : PrOk a := fun v hv => by
  obtain ⟨i, r, e, _⟩ := h v hv
  exact ⟨i, r, e⟩
theorem pressT_in {hs : List (List Int)} {wd : Nat} (hw : wd ≤ 24) : ∀ (k : Nat) (o : List Int) (acc : List PV), Oct o → PrIn acc → (pressT hs wd k o acc).1.length + (pressT hs wd k o acc).2.1.length ≤ acc.length + o.length ∧ PrIn (pressT hs wd k o acc).1 ∧ Oct (pressT hs wd k o acc).2.1 := by
  intro k
  induction k with
  | zero => intro o acc ho ha; exact ⟨Nat.le_refl _, ha, ho⟩
  | succ k ih =>
    intro o acc ho ha
    unfold pressT
    cases h : toldT (headBad hs o) o wd with
    | bad i => exact ⟨Nat.le_refl _, ha, ho⟩
    | cut => exact ⟨Nat.le_refl _, ha, ho⟩
    | full rows nx =>
      obtain ⟨t1, t2, t3⟩ := toldT_ok hw ho h
      have hpl : (prints (o[2]?.getD 0) rows).length = rows.length := by unfold prints; simp
      have q := ih (o.drop nx) (acc ++ prints (o[2]?.getD 0) rows) (ho.drop nx) (ha.append (prints_in t3))
      refine ⟨?_, q.2⟩
      have q1 := q.1
      simp only [List.length_append, List.length_drop, hpl] at q1
      dsimp only
      omega
theorem dat_row {r : List Int} {d : Nat} (h : r.length ≤ 24) : Dat (d + 1) (rowV r) := by
  refine .tup (fun x hx => ?_) (by simp; omega)
  obtain ⟨i, _, rfl⟩ := List.mem_map.mp hx
  exact .int
theorem dat_print {acc : List PV} {d : Nat} (h : PrIn acc) (hl : acc.length ≤ 900) : Dat (d + 3) (.tup acc) := by
  refine .tup (fun x hx => ?_) hl
  obtain ⟨i, r, rfl, hr⟩ := h x hx
  refine .tup (fun y hy => ?_) (by simp)
  simp at hy
  rcases hy with rfl | rfl
  · exact .int
  · exact dat_row hr
theorem dat_told {acc : List PV} {d : Nat} (h : PrIn acc) (hl : acc.length ≤ 900) : Dat (d + 4) (printedV acc) := by
  refine .tup (fun y hy => ?_) (by simp)
  simp at hy
  rcases hy with rfl | rfl
  · exact .str
  · exact dat_print h hl
theorem dat_wrong {x : PV} {d : Nat} (h : x = .non ∨ ∃ i, x = .int i) : Dat (d + 4) (wrongV x) := by
  refine .tup (fun y hy => ?_) (by simp)
  simp at hy
  rcases hy with rfl | rfl
  · exact .str
  · rcases h with rfl | ⟨i, rfl⟩
    · exact .non
    · exact .int
theorem dat_three {t : PV} {acc : List PV} {i : Int} (ht : Dat 4 t) (h : PrIn acc) (hl : acc.length ≤ 900) : Dat 5 (.tup [t, .tup acc, .int i]) := by
  refine .tup (fun y hy => ?_) (by simp)
  simp at hy
  rcases hy with rfl | rfl | rfl
  · exact ht
  · exact dat_print (d := 1) h hl
  · exact .int
-- a message's octets
theorem run_le {ps : List (Int × Int)} (h : ∀ p ∈ ps, 1 ≤ p.1) : ∀ p ∈ ps, p.1 ≤ (rowOf ps).length := by
  induction ps with
  | nil => intro p hp; cases hp
  | cons q ps ih =>
    intro p hp
    have h1 := h q List.mem_cons_self
    have e : rowOf (q :: ps) = List.replicate q.1.toNat q.2 ++ rowOf ps := rfl
    rw [e, List.length_append, List.length_replicate]
    rcases List.mem_cons.mp hp with rfl | hp
    · omega
    · have := ih (fun x hx => h x (List.mem_cons_of_mem _ hx)) p hp
      omega
theorem oct_row {r : List Int} {L : Nat} (hr : RowOk r L) (hL : L ≤ 24) : Oct (rowOct r) := fun v hv => by
  have hle := runs_len r
  have hl := hr.1
  unfold rowOct at hv
  rcases List.mem_cons.mp hv with rfl | hv
  · omega
  · unfold runOct at hv
    obtain ⟨p, hp, hv⟩ := List.mem_flatMap.mp hv
    have h1 := runs_pos r p hp
    have h2 := run_le (runs_pos r) p hp
    rw [row_runs] at h2
    obtain ⟨k, hk⟩ := List.mem_iff_getElem?.mp hp
    have h3 := fold_ok r [] hr.2 (fun k p h => by simp at h) k p hk
    simp at hv
    rcases hv with rfl | rfl <;> omega
theorem oct_rows {rs : List (List Int)} {L : Nat} (h : ∀ r ∈ rs, RowOk r L) (hL : L ≤ 24) : Oct (rowsOct rs) := fun v hv => by
  unfold rowsOct at hv
  obtain ⟨r, hr, hv⟩ := List.mem_flatMap.mp hv
  exact oct_row (h r hr) hL v hv
theorem rowsOct_len2 {rs : List (List Int)} {L : Nat} (h : ∀ r ∈ rs, r.length ≤ L) : (rowsOct rs).length ≤ (1 + 2 * L) * rs.length := by
  induction rs with
  | nil => simp [rowsOct]
  | cons r rs ih =>
    have e : rowsOct (r :: rs) = rowOct r ++ rowsOct rs := rfl
    have h1 := ih fun q hq => h q (List.mem_cons_of_mem _ hq)
    have h2 := h r List.mem_cons_self
    have h3 := runs_len r
    have h4 : (rowOct r).length ≤ 1 + 2 * L := by unfold rowOct; rw [List.length_cons, runOct_len]; omega
    rw [e, List.length_append, List.length_cons, Nat.mul_add, Nat.mul_one]
    omega
theorem oct_msg {p : List (List Int)} {wd high room band : Nat} (hp : PgOk p wd high) (hw : wd ≤ 24) (hh : high ≤ 24) (hb : band * room < high) (hb2 : band ≤ 24) : Oct (msgOct p room band) ∧ (msgOct p room band).length ≤ 5 + (1 + 2 * wd) * min room high := by
  have hbl := band_len (p := p) (room := room) (band := band)
  rw [hp.high] at hbl
  have hr : ∀ r ∈ bandRows p room band, RowOk r wd := fun r hm => by
    have hm2 : r ∈ p := List.mem_of_mem_drop (List.mem_of_mem_take hm)
    exact ⟨hp.wide r hm2, hp.ink r hm2⟩
  constructor
  · intro v hv
    unfold msgOct bodyOct headOct at hv
    have s0 := Int.emod_nonneg ((bodyOct p room band).sum) (b := 251) (by decide)
    have s1 := Int.emod_lt_of_pos ((bodyOct p room band).sum) (b := 251) (by decide)
    rcases List.mem_append.mp hv with hv | hv
    · rcases List.mem_append.mp hv with hv | hv
      · have hbr : ((band * room : Nat) : Int) < high := by exact_mod_cast hb
        simp only [List.mem_cons, List.not_mem_nil, or_false] at hv
        rcases hv with rfl | rfl | rfl | rfl <;> omega
      · exact oct_rows hr hw v hv
    · have e : v = (bodyOct p room band).sum % 251 := by simpa [bodyOct, headOct] using hv
      omega
  · unfold msgOct bodyOct headOct
    have h1 := rowsOct_len2 (rs := bandRows p room band) (L := wd) fun r hm => Nat.le_of_eq (hr r hm).1
    have h2 : (1 + 2 * wd) * (bandRows p room band).length ≤ (1 + 2 * wd) * min room high := Nat.mul_le_mul_left _ (by omega)
    simp only [List.length_append, List.length_cons, List.length_nil]
    omega
end
end LW
end

section
set_option Elab.async false
set_option linter.all false
set_option maxRecDepth 100000
set_option maxHeartbeats 400000
namespace LW
open IB
section
variable {n : Nat} {M : MM} {X : XK} {Q : PV → MM → Prop}
/-- a well and a press -/
def wp (M : MM) (a p : Nat) (x y z : Int) (P : MO) : MM := upd (upd M a (well x y z)) p P
theorem wp_a {a p : Nat} {x y z : Int} {P : MO} (h : a ≠ p) : wp M a p x y z P a = some (well x y z) := by unfold wp; rw [upd_o h]; simp
theorem wp_p {a p : Nat} {x y z : Int} {P : MO} : wp M a p x y z P p = some P := by unfold wp; simp
theorem wp_ua {a p : Nat} {x y z x' y' z' : Int} {P : MO} (h : a ≠ p) : upd (wp M a p x y z P) a (well x' y' z') = wp M a p x' y' z' P := by
  unfold wp; rw [upd_c (Ne.symm h), upd_u]
theorem wp_up {a p : Nat} {x y z : Int} {P P' : MO} : upd (wp M a p x y z P) p P' = wp M a p x y z P' := by
  unfold wp; rw [upd_u]
theorem loop_msgs {a q : Nat} {P : MO} {p : List (List Int)} {wd high room : Nat} (haq : a ≠ q) (hpg : PgOk p wd high) (hw : 1 ≤ wd ∧ wd ≤ 7) (hh : 1 ≤ high ∧ high ≤ 7) (hr : 1 ≤ room ∧ room ≤ 24) {D : Ends} {XX : XE} {e3 e4 e5 e9 e10 e11 e12 e13 e14 e15 e16 e17 : Option SV} : ∀ (its : List PV) (o : List Int) (x y z : Int) (e7 e8 : Option SV), 0 ≤ x → Oct o → o.length + 111 * its.length ≤ 600 →
    (∀ (o : List Int) x y z e7 e8, 0 ≤ x → Oct o → o.length ≤ 600 → D.nx [some (.pv (.ref a)), some (.pv (.int room)), some (.pv (pgV p)), e3, e4, e5, some (.pv (octV o)), e7, e8, e9, e10, e11, e12, e13, e14, e15, e16, e17] (wp M a q x y z P)) →
    forL (fun _ => True) (fun v env M Q => wT LD.G (cal LD.G (n + 9)) d__law_right_t1 v env M Q (XX env)) (fun env M D => wSs LD.G (cal LD.G (n + 9)) d__law_right_b2 env M D XX) D its
      [some (.pv (.ref a)), some (.pv (.int room)), some (.pv (pgV p)), e3, e4, e5, some (.pv (octV o)), e7, e8, e9, e10, e11, e12, e13, e14, e15, e16, e17] (wp M a q x y z P) := by
  intro its
  induction its with
  | nil => intro o x y z e7 e8 hx ho hl h; exact ⟨trivial, h _ _ _ _ _ _ hx ho (by simpa using hl)⟩
  | cons it its ih =>
    intro o x y z e7 e8 hx ho hl h
    have hline : line = 16777216 := rfl
    simp only [List.length_cons] at hl
    refine ⟨trivial, ?_⟩
    dsimp only
    rw [d__law_right_t1_u]
    simp
    rw [d__law_right_b2_u]
    simp
    have hnb : 1 ≤ nbands high room := by
      have := (nb_iff (high := high) (room := room) (b := 0) hr.1).mpr (by omega)
      omega
    have hnb2 := nbands_le (height := high) hr.1
    refine s_law_bands (n := n + 8) hr.1 (by omega) ?_
    rw [hpg.high, show ((high + room - 1) / room : Nat) = nbands high room from rfl]
    refine s_law_draw (n := n + 8) (wp_a haq) hx (by omega) (by omega) fun b x1 y1 z1 b1 b2 hx1 => ?_
    rw [wp_ua haq]
    obtain ⟨band, rfl⟩ := Int.eq_ofNat_of_zero_le b1
    have hb : band * room < high := (nb_iff hr.1).mp (by omega)
    obtain ⟨m1, m2⟩ := oct_msg hpg (by omega) (by omega) hb (by omega)
    have m3 : (1 + 2 * wd) * min room high ≤ 15 * 7 := Nat.mul_le_mul (by omega) (by omega)
    refine s_law_message (n := n + 7) hpg (by omega) (by omega) (by omega) (by omega) ?_
    refine s_law_draw (n := n + 8) (wp_a haq) hx1 (by omega) (by omega) fun c x2 y2 z2 c1 c2 hx2 => ?_
    rw [wp_ua haq]
    simp
    by_cases hc : c = 0
    · simp [hc, b_addO, hline]
      refine ⟨by omega, ?_⟩
      exact ih _ _ _ _ _ _ hx2 (ho.append m1) (by simp; omega) h
    · simp [hc]
      refine s_law_spoilt (n := n + 6) (wp_a haq) hx2 m1 (by unfold msgOct; simp) (by omega) fun o' x3 y3 z3 ho' hl' hx3 => ?_
      rw [wp_ua haq]
      simp [b_addO, hline]
      refine ⟨by omega, ?_⟩
      exact ih _ _ _ _ _ _ hx3 (ho.append ho') (by simp; omega) h
theorem loop_piece {a q : Nat} {p : List (List Int)} {wd high room : Nat} (haq : a ≠ q) (hpg : PgOk p wd high) (hw : 1 ≤ wd ∧ wd ≤ 7) (hh : 1 ≤ high ∧ high ≤ 7) (hr : 1 ≤ room ∧ room ≤ 24) {D : Ends} {XX : XE} {x y z : Int} {e6 e7 e8 e13 e14 e15 e16 e17 : Option SV} : ∀ (ps : List (List Int)) (held : List Int) (pr : List PV) (e9 e10 e11 e12 : Option SV), Oct held → Oct ps.flatten → PrIn pr → pr.length + held.length + ps.flatten.length ≤ 800 →
    (∀ (held : List Int) (pr : List PV) e9 e10 e11 e12, Oct held → PrIn pr → pr.length + held.length ≤ 800 → D.nx [some (.pv (.ref a)), some (.pv (.int room)), some (.pv (pgV p)), some (.pv (.ref q)), some (.pv (octV held)), some (.pv (.tup pr)), e6, e7, e8, e9, e10, e11, e12, e13, e14, e15, e16, e17] (wp M a q x y z (pressO wd high room held pr))) →
    forL (fun _ => True) (fun v env M Q => wT LD.G (cal LD.G (n + 9)) d__law_right_t3 v env M Q (XX env)) (fun env M D => wSs LD.G (cal LD.G (n + 9)) d__law_right_b4 env M D XX) D (ps.map octV)
      [some (.pv (.ref a)), some (.pv (.int room)), some (.pv (pgV p)), some (.pv (.ref q)), some (.pv (octV held)), some (.pv (.tup pr)), e6, e7, e8, e9, e10, e11, e12, e13, e14, e15, e16, e17] (wp M a q x y z (pressO wd high room held pr)) := by
  intro ps
  induction ps with
  | nil => intro held pr e9 e10 e11 e12 h1 _ h3 h4 h; exact ⟨trivial, h _ _ _ _ _ _ h1 h3 (by simpa using h4)⟩
  | cons o ps ih =>
    intro held pr e9 e10 e11 e12 hheld hps hpr hl h
    have hline : line = 16777216 := rfl
    simp only [List.flatten_cons, List.length_append] at hl
    have ho : Oct o := fun v hv => hps v (by simp [hv])
    have hps' : Oct ps.flatten := fun v hv => hps v (by rw [List.flatten_cons]; exact List.mem_append_right _ hv)
    rw [List.map_cons]
    refine ⟨trivial, ?_⟩
    dsimp only
    rw [d__law_right_t3_u]
    simp
    rw [d__law_right_b4_u]
    simp
    refine s_law_due (n := n + 6) hpg ⟨hw.1, by omega⟩ ⟨hh.1, by omega⟩ hr hheld ho (by simp; omega) ?_
    have hin := pressT_in (hs := headsL high room) (wd := wd) (by omega) ((held ++ o).length + 1) (held ++ o) [] (hheld.append ho) (fun v hv => by cases hv)
    have key : ∀ (w : Option Nat) (acc : List PV) (o' : List Int), pressT (headsL high room) wd ((held ++ o).length + 1) (held ++ o) [] = (acc, o', w) → True := fun _ _ _ _ => trivial
    cases hres : pressT (headsL high room) wd ((held ++ o).length + 1) (held ++ o) [] with
    | mk acc ow =>
      obtain ⟨o', wr⟩ := ow
      rw [hres] at hin
      obtain ⟨i1, i2, i3⟩ := hin
      simp only [List.length_nil, List.length_append, Nat.zero_add] at i1
      have hrw : wrongRes (fun _ e => btw e 0 255) 0 2900 (octV o) = .lst [] := octs_ok ho (by omega)
      cases wr with
      | some i =>
        simp [dueV, tgLen]
        refine s_law_put (n := n) (wp_p) ⟨hw.1, by omega⟩ ⟨hh.1, by omega⟩ hr hheld (by omega) hpr.ok (by omega) (fun _ e => by cases e) (fun xs e x hx b hb => ?_) ?_
        · cases e
          obtain ⟨j, _, rfl⟩ := List.mem_map.mp hx
          cases hb
        · rw [hrw]
          refine ⟨o, rfl, ho, by omega, ?_⟩
          rw [hres]
          dsimp only
          rw [wp_up]
          refine ⟨by omega, ?_⟩
          have h0 : wp M a q x y z (pressO wd high room [] (pr ++ acc)) q = some (pressO wd high room [] (pr ++ acc)) := wp_p
          generalize hM1 : wp M a q x y z (pressO wd high room [] (pr ++ acc)) = M1 at h0 ⊢
          have hpa := hpr.append i2
          simp [h0, pressO, cls_press, ccP, List.lookup]
          refine s_printed (n := n + 8) h0 hpa.ok ?_
          simp [h0, pressO, cls_press, ccP, List.lookup]
          refine s_held (n := n + 8) h0 ?_
          refine ⟨by omega, ?_⟩
          refine s_same 5 _ (dat_three (dat_wrong (d := 0) (.inr ⟨_, rfl⟩)) hpa (by simp; omega)) (n := n + 3) ?_
          simp
          rw [← hM1]
          exact ih [] (pr ++ acc) _ _ _ _ (fun v hv => by cases hv) hps' hpa (by simp only [List.length_append, List.length_nil]; omega) h
      | none =>
        simp [dueV, tgLen]
        refine s_law_put (n := n) (wp_p) ⟨hw.1, by omega⟩ ⟨hh.1, by omega⟩ hr hheld (by omega) hpr.ok (by omega) (fun _ e => by cases e) (fun xs e x hx b hb => ?_) ?_
        · cases e
          obtain ⟨j, _, rfl⟩ := List.mem_map.mp hx
          cases hb
        · rw [hrw]
          refine ⟨o, rfl, ho, by omega, ?_⟩
          rw [hres]
          dsimp only
          rw [wp_up]
          refine ⟨by omega, ?_⟩
          have h0 : wp M a q x y z (pressO wd high room o' (pr ++ acc)) q = some (pressO wd high room o' (pr ++ acc)) := wp_p
          generalize hM1 : wp M a q x y z (pressO wd high room o' (pr ++ acc)) = M1 at h0 ⊢
          have hpa := hpr.append i2
          have ir : ∀ M, itemsR M (octV o') = some (o'.map .int) := fun _ => rfl
          simp [h0, pressO, cls_press, ccP, List.lookup]
          refine s_printed (n := n + 8) h0 hpa.ok ?_
          simp [h0, pressO, cls_press, ccP, List.lookup]
          refine s_held (n := n + 8) h0 ?_
          simp [ir]
          refine ⟨by omega, ?_⟩
          refine s_same 5 _ (dat_three (dat_told (d := 0) i2 (by dsimp only; omega)) hpa (by simp; omega)) (n := n + 3) ?_
          simp
          rw [← hM1]
          exact ih o' (pr ++ acc) _ _ _ _ i3 hps' hpa (by simp only [List.length_append]; omega) h
def OddOk (t : PV) : Prop := ∃ v x : PV, t = .tup [v, x] ∧ (∀ a, v ≠ .ref a) ∧ (∀ xs, v = .tup xs → ∀ y ∈ xs, ∀ a, y ≠ .ref a) ∧ wrongRes (fun _ e => btw e 0 255) 0 2900 v = .lst [x] ∧ (x = .non ∨ ∃ i, x = .int i)
def odds : List PV := [.tup [.non, .non], .tup [.lst [.int 66], .non], .tup [.tup [.int 256], .int 0], .tup [.tup [.int 66, .non], .int 1], .tup [.int 5, .non], .tup [.str "B", .non], .tup [.tup [.int 66, .int 0, .bl true], .int 2]]
theorem odds_ok : ∀ t ∈ odds, OddOk t := by
  intro t ht
  simp only [odds, List.mem_cons, List.not_mem_nil, or_false] at ht
  rcases ht with rfl | rfl | rfl | rfl | rfl | rfl | rfl
  · exact ⟨_, _, rfl, (fun a e => by cases e), (fun xs e => by cases e), rfl, .inl rfl⟩
  · exact ⟨_, _, rfl, (fun a e => by cases e), (fun xs e => by cases e), rfl, .inl rfl⟩
  · exact ⟨_, _, rfl, (fun a e => by cases e), (fun xs e y hy a => by cases e; simp at hy; subst hy; intro e; cases e), rfl, .inr ⟨_, rfl⟩⟩
  · exact ⟨_, _, rfl, (fun a e => by cases e), (fun xs e y hy a => by cases e; simp at hy; rcases hy with rfl | rfl <;> (intro e; cases e)), rfl, .inr ⟨_, rfl⟩⟩
  · exact ⟨_, _, rfl, (fun a e => by cases e), (fun xs e => by cases e), rfl, .inl rfl⟩
  · exact ⟨_, _, rfl, (fun a e => by cases e), (fun xs e => by cases e), rfl, .inl rfl⟩
  · exact ⟨_, _, rfl, (fun a e => by cases e), (fun xs e y hy a => by cases e; simp at hy; rcases hy with rfl | rfl | rfl <;> (intro e; cases e)), rfl, .inr ⟨_, rfl⟩⟩
theorem loop_odd {q : Nat} {wd high room : Nat} {held : List Int} {pr : List PV} (h0 : M q = some (pressO wd high room held pr)) (hw : 1 ≤ wd ∧ wd ≤ 7) (hh : 1 ≤ high ∧ high ≤ 7) (hr : 1 ≤ room ∧ room ≤ 24) (hheld : Oct held) (hpr : PrIn pr) (hl : pr.length + held.length ≤ 800) {D : Ends} {XX : XE} {e0 e1 e2 e6 e7 e8 e9 e10 e11 e12 e15 e16 e17 : Option SV} : ∀ (its : List PV) (e13 e14 : Option SV), (∀ t ∈ its, OddOk t) →
    (∀ e13 e14, D.nx [e0, e1, e2, some (.pv (.ref q)), some (.pv (octV held)), some (.pv (.tup pr)), e6, e7, e8, e9, e10, e11, e12, e13, e14, e15, e16, e17] M) →
    forL (fun _ => True) (fun v env M Q => wT LD.G (cal LD.G (n + 9)) d__law_right_t5 v env M Q (XX env)) (fun env M D => wSs LD.G (cal LD.G (n + 9)) d__law_right_b6 env M D XX) D its
      [e0, e1, e2, some (.pv (.ref q)), some (.pv (octV held)), some (.pv (.tup pr)), e6, e7, e8, e9, e10, e11, e12, e13, e14, e15, e16, e17] M := by
  intro its
  induction its with
  | nil => intro e13 e14 _ h; exact ⟨trivial, h _ _⟩
  | cons t its ih =>
    intro e13 e14 ht h
    have hline : line = 16777216 := rfl
    obtain ⟨v, x, rfl, v1, v2, v3, v4⟩ := ht t List.mem_cons_self
    refine ⟨trivial, ?_⟩
    dsimp only
    rw [d__law_right_t5_u]
    simp [tgLen]
    rw [d__law_right_b6_u]
    simp
    have ir : ∀ M, itemsR M (octV held) = some (held.map .int) := fun _ => rfl
    refine s_law_put (n := n) h0 ⟨hw.1, by omega⟩ ⟨hh.1, by omega⟩ hr hheld (by omega) hpr.ok (by omega) v1 v2 ?_
    rw [v3]
    dsimp only
    simp [h0, pressO, cls_press, ccP, List.lookup]
    refine s_printed (n := n + 8) h0 hpr.ok ?_
    simp [h0, pressO, cls_press, ccP, List.lookup]
    refine s_held (n := n + 8) h0 ?_
    simp [ir, hline]
    refine s_same 5 _ (dat_three (dat_wrong (d := 0) v4) hpr (by omega)) (n := n + 3) ?_
    simp
    exact ih _ _ (fun t hm => ht t (List.mem_cons_of_mem _ hm)) h
end
end LW
end

section
set_option Elab.async false
set_option linter.all false
set_option maxRecDepth 100000
set_option maxHeartbeats 400000
namespace LW
open IB
section
variable {n : Nat} {M : MM} {X : XK} {Q : PV → MM → Prop}
theorem press_msg {p : List (List Int)} {wd high room band : Nat} (hp : PgOk p wd high) (hw : 1 ≤ wd ∧ wd ≤ 24) (hr : 1 ≤ room) (hb : band * room < high) (hok : Oct (msgOct p room band)) (k : Nat) :
    pressT (headsL high room) wd (k + 2) (msgOct p room band) [] = (prints ((band * room : Nat) : Int) (bandRows p room band), [], none) := by
  have h1 := head_msg (rest := []) hp hr hb (by rw [List.append_nil]; exact hok)
  have h2 := told_msg (room := room) (band := band) hp hw (.inr rfl) []
  rw [List.append_nil] at h1 h2
  unfold pressT
  rw [h1, h2]
  dsimp only
  have e2 : (msgOct p room band)[2]? = some ((band * room : Nat) : Int) := by unfold msgOct bodyOct headOct; simp
  rw [e2, List.drop_length, List.nil_append]
  unfold pressT
  rfl
theorem prints_comp (p : List (List Int)) (room : Nat) : (upTo 0 (min room p.length)).map (fun v => match v with | .int i => PV.tup [.int i, ((p.map rowV)[i.toNat]?).getD .non] | v => v) = prints ((0 * room : Nat) : Int) (bandRows p room 0) := by
  apply List.ext_getElem
  · unfold prints
    simp [upTo_len, band_len]
  · intro i h1 h2
    have hi : i < min room p.length := by simpa [upTo_len] using h1
    have hi2 : i < p.length := by omega
    unfold prints upTo bandRows
    simp [hi2]
theorem dat_prs {acc : List PV} (h : PrIn acc) (hl : acc.length ≤ 900) : Dat 3 (.tup acc) := dat_print (d := 0) h hl
theorem s_law_right {a : Nat} {x y z : Int} (h0 : M a = some (well x y z)) (hx : 0 ≤ x) (h : ∀ x y z, 0 ≤ x → Q (.bl true) (upd M a (well x y z))) : cal LD.G (n + 10) (.fn "_law_right") ⟨[.pv (.ref a)], []⟩ M Q X := by
  have hs : (M a).isSome = true := by rw [h0]; rfl
  have rs : ∀ o, restr M (upd M a o) = upd M a o := fun o => by rw [restr_old hs, restr_self]
  have e0 : M = upd M a (well x y z) := (upd_id h0).symm
  have hline : line = 16777216 := rfl
  refine call0 (d := d__law_right) (svs := [.pv (.ref a)]) rfl rfl rfl rfl ?_
  suffices q : wSs LD.G (cal LD.G (n + 9)) d__law_right.body (startE 18 [.pv (.ref a)]) (upd M a (well x y z)) ⟨fun _ M' => Q .non (restr M M'), fun r M' => Q (frz M M' 4 r) (restr M M'), fun _ _ => False, fun _ _ => False⟩ (fun _ c fs M' => X c (fs.map fun p => (p.1, frz M M' 4 p.2)) (restr M M')) by
    rw [← e0] at q
    exact q
  unfold d__law_right
  simp
  refine s_law_draw (n := n + 8) upd_s hx (by omega) (by omega) fun r x1 y1 z1 r1 r2 hx1 => ?_
  obtain ⟨r, rfl⟩ := Int.eq_ofNat_of_zero_le r1
  simp
  refine s_law_draw (n := n + 8) upd_s hx1 (by omega) (by omega) fun w x2 y2 z2 w1 w2 hx2 => ?_
  obtain ⟨w, rfl⟩ := Int.eq_ofNat_of_zero_le w1
  simp
  refine s_law_draw (n := n + 8) upd_s hx2 (by omega) (by omega) fun g x3 y3 z3 g1 g2 hx3 => ?_
  obtain ⟨g, rfl⟩ := Int.eq_ofNat_of_zero_le g1
  simp
  rw [show (1 + (r : Int)) = ((1 + r : Nat) : Int) by omega, show (1 + (w : Int)) = ((1 + w : Nat) : Int) by omega, show (1 + (g : Int)) = ((1 + g : Nat) : Int) by omega]
  have hr : 1 ≤ 1 + r ∧ 1 + r ≤ 4 := by omega
  have hw : 1 ≤ 1 + w ∧ 1 + w ≤ 7 := by omega
  have hh : 1 ≤ 1 + g ∧ 1 + g ≤ 7 := by omega
  generalize 1 + r = room at hr ⊢
  generalize 1 + w = wd at hw ⊢
  generalize 1 + g = high at hh ⊢
  refine s_law_page (n := n + 6) upd_s hx3 (by omega) (by omega) fun p x4 y4 z4 hpg hx4 => ?_
  rw [upd_u]
  obtain ⟨row, hrow⟩ : ∃ row, p[0]? = some row := ⟨p[0]'(by rw [hpg.high]; omega), by simp⟩
  have hrl : row.length = wd := hpg.wide row (List.mem_of_getElem? hrow)
  have gs : ∀ {Q : PV → MM → Prop} {M : MM} {X : XK}, wSub (pgV p) (.int 0) M Q X = Q (rowV row) M := fun {Q M X} => by
    refine sub_at (xs := p.map rowV) rfl ?_
    rw [show (0 : Int) = ((0 : Nat) : Int) from rfl, idx_nat (by simp [hpg.high]; omega), List.getElem?_map, hrow]; rfl
  have ir1 : ∀ M, itemsR M (rowV row) = some (row.map .int) := fun _ => rfl
  have ir2 : ∀ M, itemsR M (pgV p) = some (p.map rowV) := fun _ => rfl
  simp [gs, ir1, ir2, hrl, hpg.high, cls_press, ccP]
  intro q hq
  have haq : a ≠ q := fun e => by subst e; simp at hq
  refine s_init (n := n + 4) upd_s ⟨hw.1, by omega⟩ ⟨hh.1, by omega⟩ ⟨hr.1, by omega⟩ ?_
  rw [upd_u]
  refine ⟨rfl, ?_⟩
  simp [tgLen, hline]
  refine ⟨by unfold big62; omega, ?_⟩
  have u5 : (upTo 0 5).length = 5 := rfl
  have QQ := fun D (e3 e4 e5 e7 e8 e9 e10 e11 e12 e13 e14 e15 e16 e17 : Option SV) => loop_msgs (D := D) (n := n) (M := M) (P := pressO wd high room [] []) haq hpg hw hh ⟨hr.1, by omega⟩ (e3 := e3) (e4 := e4) (e5 := e5) (e9 := e9) (e10 := e10) (e11 := e11) (e12 := e12) (e13 := e13) (e14 := e14) (e15 := e15) (e16 := e16) (e17 := e17) (XX := fun _ c fs M' => X c (fs.map fun p => (p.1, frz M M' 4 p.2)) (restr M M')) (upTo 0 5) [] x4 y4 z4 e7 e8 hx4 (fun v hv => by cases hv) (by rw [u5]; simp)
  show forL _ _ _ _ _ [some (.pv (.ref a)), some (.pv (.int room)), some (.pv (pgV p)), some (.pv (.ref q)), some (.pv (octV [])), some (.pv (.tup [])), some (.pv (octV [])), none, none, none, none, none, none, none, none, none, none, none] (wp M a q x4 y4 z4 (pressO wd high room [] []))
  refine QQ _ _ _ _ _ _ _ _ _ _ _ _ _ _ _ ?_
  clear QQ
  intro o x5 y5 z5 e7 e8 hx5 ho hol
  simp
  refine s_law_pieces (n := n + 6) (wp_a haq) hx5 (by omega) fun ps x6 y6 z6 hps hpl hx6 => ?_
  rw [wp_ua haq]
  simp [seqQ]
  have QQ := fun D (e6 e7 e8 e9 e10 e11 e12 e13 e14 e15 e16 e17 : Option SV) => loop_piece (D := D) (n := n) (M := M) (x := x6) (y := y6) (z := z6) haq hpg hw hh ⟨hr.1, by omega⟩ (e6 := e6) (e7 := e7) (e8 := e8) (e13 := e13) (e14 := e14) (e15 := e15) (e16 := e16) (e17 := e17) (XX := fun _ c fs M' => X c (fs.map fun p => (p.1, frz M M' 4 p.2)) (restr M M')) ps [] [] e9 e10 e11 e12 (fun v hv => by cases hv) (by rw [hps]; exact ho) (fun v hv => by cases hv) (by rw [hps]; simp; omega)
  refine QQ _ _ _ _ _ _ _ _ _ _ _ _ _ ?_
  clear QQ
  intro held pr e9 e10 e11 e12 hheld hpr hpl2
  have QQ := fun D (e0 e1 e2 e6 e7 e8 e9 e10 e11 e12 e13 e14 e15 e16 e17 : Option SV) => loop_odd (D := D) (n := n) (M := wp M a q x6 y6 z6 (pressO wd high room held pr)) (wd := wd) (high := high) (room := room) (held := held) (pr := pr) wp_p hw hh ⟨hr.1, by omega⟩ hheld hpr (by omega) (e0 := e0) (e1 := e1) (e2 := e2) (e6 := e6) (e7 := e7) (e8 := e8) (e9 := e9) (e10 := e10) (e11 := e11) (e12 := e12) (e15 := e15) (e16 := e16) (e17 := e17) (XX := fun _ c fs M' => X c (fs.map fun p => (p.1, frz M M' 4 p.2)) (restr M M')) odds e13 e14 odds_ok
  refine QQ _ _ _ _ _ _ _ _ _ _ _ _ _ _ _ _ ?_
  clear QQ
  intro e13 e14
  simp
  obtain ⟨m1, m2⟩ := oct_msg (room := room) (band := 0) hpg (by omega) (by omega) (by omega) (by omega)
  have m3 : (1 + 2 * wd) * min room high ≤ 15 * 7 := Nat.mul_le_mul (by omega) (by omega)
  refine s_law_message (n := n + 7) (band := 0) hpg (by omega) (by omega) (by omega) (by omega) ?_
  simp [gs, ir1, ir2, hrl, hpg.high]
  intro q2 hq2
  refine s_init (n := n + 4) upd_s ⟨hw.1, by omega⟩ ⟨hh.1, by omega⟩ ⟨hr.1, by omega⟩ ?_
  rw [upd_u]
  refine ⟨rfl, ?_⟩
  have h2 : upd (wp M a q x6 y6 z6 (pressO wd high room held pr)) q2 (pressO wd high room [] []) q2 = some (pressO wd high room [] []) := upd_s
  generalize hM2 : upd (wp M a q x6 y6 z6 (pressO wd high room held pr)) q2 (pressO wd high room [] []) = M2 at h2 ⊢
  simp [h2, pressO, cls_press, ccP]
  refine ⟨by rintro _ _ (⟨rfl, _⟩ | ⟨rfl, _⟩) <;> decide, ?_⟩
  obtain ⟨k, hk⟩ : ∃ k, (msgOct p room 0).length = k + 1 := ⟨(msgOct p room 0).length - 1, by
    have : 1 ≤ (msgOct p room 0).length := by unfold msgOct; simp
    omega⟩
  have hpm := press_msg (room := room) (band := 0) hpg ⟨hw.1, by omega⟩ hr.1 (by omega) m1 k
  refine s_put (n := n + 1) (.inl rfl) h2 ⟨hw.1, by omega⟩ ⟨hh.1, by omega⟩ ⟨hr.1, by omega⟩ (fun v hv => by cases hv) (by simp) (fun v hv => by cases hv) (by simp) (fun _ e => by cases e) (fun xs e x hx b hb => ?_) ?_
  · cases e
    obtain ⟨j, _, rfl⟩ := List.mem_map.mp hx
    cases hb
  · rw [octs_ok m1 (by omega)]
    refine ⟨msgOct p room 0, rfl, m1, by omega, ?_⟩
    rw [List.nil_append, hk, hpm]
    dsimp only
    have hbl := band_len (p := p) (room := room) (band := 0)
    rw [hpg.high] at hbl
    have hmin : (if high < room then (high : Int) else (room : Int)) = ((min room high : Nat) : Int) := by split <;> omega
    rw [hmin]
    refine ⟨by unfold big62; omega, ?_⟩
    rw [Int.toNat_natCast]
    have ecl : ∃ y3 y7 y8 y9 y10 y11 y12 y13 y14, clean (wipeE [some (SV.pv (PV.ref a)), some (SV.pv (PV.int ↑room)), some (SV.pv (pgV p)), some (SV.pv (PV.ref q)),
                  some (SV.pv (octV held)), some (SV.pv (PV.tup pr)), some (SV.pv (octV o)), e7, e8, e9, e10, e11, e12,
                  e13, e14, some (SV.pv (octV (msgOct p room 0))), some (SV.pv (PV.ref q2)), none] [17]) = [some (SV.pv (PV.ref a)), some (SV.pv (PV.int ↑room)), some (SV.pv (pgV p)), y3,
                  some (SV.pv (octV held)), some (SV.pv (PV.tup pr)), some (SV.pv (octV o)), y7, y8, y9, y10, y11, y12,
                  y13, y14, some (SV.pv (octV (msgOct p room 0))), some (SV.pv (PV.ref q2)), none] := ⟨_, _, _, _, _, _, _, _, _, rfl⟩
    obtain ⟨y3, y7, y8, y9, y10, y11, y12, y13, y14, ecl⟩ := ecl
    rw [ecl]
    refine comp_pure (f := fun v => match v with | .int i => .tup [.int i, ((p.map rowV)[i.toNat]?).getD .non] | v => v) _ [] (fun x hx K hK => ?_) (by rw [upTo_len]; simp; omega) ?_
    · obtain ⟨b, hb, rfl⟩ := List.mem_map.mp hx
      have hb := List.mem_range.mp hb
      rw [d__law_right_t7_u]
      simp
      rw [d__law_right_e8_u]
      simp
      have hbp : b < p.length := by rw [hpg.high]; omega
      have es : ∀ {Q : PV → MM → Prop} {M : MM} {X : XK}, wSub (pgV p) (.int (b : Int)) M Q X = Q (rowV p[b]) M := fun {Q M X} => by
        refine sub_at (xs := p.map rowV) rfl ?_
        rw [idx_nat (by simpa using hbp), List.getElem?_map, List.getElem?_eq_getElem hbp]; rfl
      rw [es]
      refine ⟨by omega, ?_⟩
      simpa [hbp] using hK
    · rw [List.nil_append, List.nil_append, ← hpg.high, prints_comp]
      have hin := pressT_in (hs := headsL high room) (wd := wd) (by omega) (k + 2) (msgOct p room 0) [] m1 (fun v hv => by cases hv)
      rw [hpm] at hin
      obtain ⟨i1, i2, _⟩ := hin
      simp only [List.length_nil, Nat.zero_add] at i1
      refine s_same 3 _ (dat_prs i2 (by dsimp only; omega)) (n := n + 5) ?_
      rw [← hM2, upd_u]
      unfold wp at hq2 ⊢
      have hq2a : q2 ≠ q := fun e => by subst e; simp at hq2
      have hq2b : q2 ≠ a := fun e => by subst e; rw [upd_o haq] at hq2; simp at hq2
      rw [upd_o hq2a, upd_o hq2b] at hq2
      rw [upd_o (Ne.symm haq)] at hq
      rw [restr_new hq2, restr_new hq, rs]
      exact h _ _ _ hx6
end
end LW
end

section
set_option Elab.async false
set_option linter.all false
set_option maxRecDepth 100000
set_option maxHeartbeats 400000
namespace LW
open IB
section
variable {n : Nat} {M : MM} {X : XK} {Q : PV → MM → Prop}
theorem s_law {ns : List Int} : bodyW LD.G (cal LD.G (n + 10)) d_law [.pv (.rol (ns.map .int))] (fun _ => none) (fun v _ => v = .bl true) (fun _ _ _ => False) := by
  have hline : line = 16777216 := rfl
  unfold bodyW
  rw [if_pos (show d_law.mode = 0 from rfl)]
  unfold d_law
  simp
  have hm : (if 1 < if 2 < (ns.length : Int) then 2 else (ns.length : Int) then if 2 < (ns.length : Int) then 2 else (ns.length : Int) else 1) = (1 : Int) ∨ (if 1 < if 2 < (ns.length : Int) then 2 else (ns.length : Int) then if 2 < (ns.length : Int) then 2 else (ns.length : Int) else 1) = (2 : Int) := by
    split <;> split at * <;> omega
  generalize (if 1 < if 2 < (ns.length : Int) then 2 else (ns.length : Int) then if 2 < (ns.length : Int) then 2 else (ns.length : Int) else 1) = m at hm
  have w0 : ∀ o : MO, upd (upd (fun _ => none : MM) 0 o) 0 o = upd (fun _ => none : MM) 0 o := fun o => upd_u
  rw [show upTo 0 2 = [PV.int 0, PV.int 1] from rfl]
  rcases hm with rfl | rfl
  · rw [show upTo 0 (Int.toNat 1) = [PV.int 0] from rfl]
    refine ⟨by unfold big62; omega, trivial, ?_⟩
    simp
    try dsimp only
    rw [d_law_t1_u]
    simp [wipeE, clean]
    rw [d_law_e2_u]
    simp
    refine s_law_well (n := n + 9) (ns := ns) (lap := 0) fun a x y z ha hx => ⟨by omega, trivial, ?_⟩
    simp
    refine ⟨by unfold big62; omega, trivial, ?_⟩
    dsimp only
    rw [d_law_t3_u]
    simp
    rw [d_law_e4_u]
    simp
    refine s_law_right (n := n) (x := x) (y := y) (z := z) (by simp) hx fun x y z hx => ⟨by omega, trivial, ?_⟩
    dsimp only
    rw [upd_u, d_law_t3_u]
    simp
    rw [d_law_e4_u]
    simp
    refine s_law_right (n := n) (x := x) (y := y) (z := z) (by simp) hx fun x y z hx => ⟨by omega, trivial, ?_⟩
    simp [bools?]
  · rw [show upTo 0 (Int.toNat 2) = [PV.int 0, PV.int 1] from rfl]
    refine ⟨by unfold big62; omega, trivial, ?_⟩
    simp
    try dsimp only
    rw [d_law_t1_u]
    simp [wipeE, clean]
    rw [d_law_e2_u]
    simp
    refine s_law_well (n := n + 9) (ns := ns) (lap := 0) fun a x y z ha hx => ⟨by omega, trivial, ?_⟩
    simp
    try dsimp only
    rw [d_law_t1_u]
    simp
    rw [d_law_e2_u]
    simp
    refine s_law_well (n := n + 9) (ns := ns) (lap := 1) fun b x' y' z' hb hx' => ⟨by omega, trivial, ?_⟩
    have hab : a ≠ b := fun e => by subst e; simp at hb
    simp
    refine ⟨by unfold big62; omega, trivial, ?_⟩
    dsimp only
    rw [d_law_t3_u]
    simp
    rw [d_law_e4_u]
    simp
    refine s_law_right (n := n) (x := x) (y := y) (z := z) (by rw [upd_o hab]; simp) hx fun x y z hx => ⟨by omega, trivial, ?_⟩
    dsimp only
    rw [d_law_t3_u]
    simp
    rw [d_law_e4_u]
    simp
    refine s_law_right (n := n) (x := x') (y := y') (z := z') (by rw [upd_o (Ne.symm hab)]; simp) hx' fun x y z hx => ⟨by omega, trivial, ?_⟩
    simp [bools?]
end
end LW
end

set_option Elab.async false
set_option linter.all false
set_option maxRecDepth 100000
set_option maxHeartbeats 0
namespace LW
open PySem PySem.Spec PyProof.Rows L2 IB
abbrev R : PySem.W.OpenRow := PySem.W.OpenLaw.row PySem.Challenge.rw_inkbands_k53_whole_presses_and_spoilt_me
abbrev P0 : Program := PySem.Challenge.pw_inkbands_k53_whole_presses_and_spoilt_me
theorem chk_ok : LD.chk P0 60 = true := by decide +kernel
abbrev hk : PySem.W.Hook := hookZ 5 LD P0
def ob (s : PySem.W.SharedT) : List He.FnW × Bool := obsZ 5 LD P0 (HandSHeadRun.getT s)
theorem ob_eq (s : PySem.W.SharedT) : ob s = hk.obs s.abs := obsZ_eq (HandSHeadRun.getT_eq s)
def loose : List PySem.Str := [PySem.Str.ofString "__name__", PySem.Str.ofString "InkError", PySem.Str.ofString "InvalidNumber", PySem.Str.ofString "InvalidOctets", PySem.Str.ofString "is_whole", PySem.Str.ofString "is_between", PySem.Str.ofString "is_up_to", PySem.Str.ofString "wrong_in", PySem.Str.ofString "MOST_INK", PySem.Str.ofString "MOST_ROW", PySem.Str.ofString "MOST_SIDE", PySem.Str.ofString "MOST_OCTETS", PySem.Str.ofString "MOST_OCTET", PySem.Str.ofString "wrong_in_octets", PySem.Str.ofString "SIGN", PySem.Str.ofString "HEAD", PySem.Str.ofString "MOST_SUM", PySem.Str.ofString "less_whole", PySem.Str.ofString "many_bands", PySem.Str.ofString "heads_of", PySem.Str.ofString "wrong_in_head", PySem.Str.ofString "wrong_in_run", PySem.Str.ofString "row_told", PySem.Str.ofString "told_by", PySem.Str.ofString "printed_by", PySem.Str.ofString "check_number", PySem.Str.ofString "check_room", PySem.Str.ofString "check_octets", PySem.Str.ofString "Press", PySem.Str.ofString "_law_well", PySem.Str.ofString "_law_draw", PySem.Str.ofString "_law_of", PySem.Str.ofString "_law_same", PySem.Str.ofString "_law_runs", PySem.Str.ofString "_law_message", PySem.Str.ofString "_law_bands", PySem.Str.ofString "_law_drawn_page", PySem.Str.ofString "_law_pieces", PySem.Str.ofString "_law_run_wrong", PySem.Str.ofString "_law_spoilt", PySem.Str.ofString "_law_pressed", PySem.Str.ofString "_law_put", PySem.Str.ofString "_law_due", PySem.Str.ofString "_law_right"]
theorem run (w : World) : HandSHeadRun.RunEq R (PySem.W.view R.prog [51]) hk ob 3000 loose w := by
  intro os
  kernel_rfl
theorem pure_law (k : Nat) (hk : k = 40) : ∀ ns : List Int, ns.length ≤ 63 → (∀ z ∈ ns, Builtin.Int.intBits z ≤ 1048576) → bodyW LD.G (wCall LD.G k) d_law [.pv (.rol (ns.map .int))] (fun _ => none) (fun v _ => v = .bl true) (fun _ _ _ => False) := by
  intro ns _ _
  subst hk
  rw [← cal_eq]
  exact s_law (n := 30)
end LW
open PySem PySem.W PySem.Calls PyProof.Rows
theorem PySem.Challenge.cw_inkbands_k53_whole_presses_and_spoilt_me_holds : PySem.Challenge.rw_inkbands_k53_whole_presses_and_spoilt_me.Holds := by
  w_on; o_law
  refine HandSHeadRun.head_any (r := OpenLaw.row PySem.Challenge.rw_inkbands_k53_whole_presses_and_spoilt_me) (q := view (OpenLaw.row PySem.Challenge.rw_inkbands_k53_whole_presses_and_spoilt_me).prog [51]) (H := LW.hk) (ob := LW.ob) (M := 3000) (loose := LW.loose) (d := HandSHeadRun.topDef (OpenLaw.row PySem.Challenge.rw_inkbands_k53_whole_presses_and_spoilt_me).prog 51) (kwd := []) LW.ob_eq
    (by kernel_rfl) (fun s => by kernel_rfl) LW.run (by kernel_rfl) (by kernel_rfl) (by kernel_rfl) (by rfl) (by first | assumption | decide +kernel) (by decide +kernel) ⟨rfl, rfl, rfl, rfl, rfl, by decide +kernel⟩ ?hw ?hc
  case hw => w_witness2
  case hc =>
    refine LamX.walk_ofTsE (l := PySem.Challenge.rw_inkbands_k53_whole_presses_and_spoilt_me) (n := 63) (k := 41) (x := "script") (CX := fun w => L2.CX LW.P0 w) rfl (by decide) (by kernel_rfl) ⟨rfl, by decide, by decide⟩ ?F (fun w H s e s' z => ?_)
    · intro w mg fa h Y G hmg0
      obtain ⟨K, KX, c⟩ := Y
      have hmg : mg ("law" : PySem.Str) = some (.ref fa) := by
        have e : (HandSHeadRun.topDef (OpenLaw.row PySem.Challenge.rw_inkbands_k53_whole_presses_and_spoilt_me).prog 51).name = ("law" : PySem.Str) := by kernel_rfl
        rw [← e]
        exact hmg0
      exact ⟨K, KX, IB.law_at (l := PySem.Challenge.rw_inkbands_k53_whole_presses_and_spoilt_me) (prog := LW.P0) (k := 40) rfl KX G hmg c LW.chk_ok (by decide +kernel) (by decide +kernel) (by decide +kernel) (dl := LW.d_law) rfl rfl (by decide +kernel) (LW.pure_law 40 rfl)⟩
    · obtain ⟨_, _, _, _, _, _, _, _, _, _, _, _, z⟩ := z
      exact z
