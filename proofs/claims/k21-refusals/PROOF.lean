import PyProof.Rows.All
import PySem.Challenge.RW_fieldsteps_k21_refusals_stand_apart
import PyProof.EqLayable
import HandS.Text
import Wide.All
import OpenK.AllK
import Wide.FinOn
import PyProof.EqAt
import PyProof.EqKinds
import PyProof.TupleCall
import HandS.ForMost
import HandS.ForExc
import HandS.TupMul
import HandS.Zip
import HandS.Flow
import HandS.Deep
import HandS.DeepEq
import HandS.IsInst
import HandS.ExcIs
import HandS.HeadHook4
import HandS.Head2
import HandS.EndBits
import HandS.Replace
import HandS.SetFor
import HandS.HeadEnd
import KE.KRevSl
import KE.GoesEnum
import KE.GoesNew
import HandS.TupAny
set_option Elab.async false
set_option linter.all false
/-! A small interpreter on values that are trees (my own layer). -/
namespace Vi
open PySem
abbrev D := PyData
inductive Cm where
  | eq | ne | lt | le | gt | ge | isn | notn | inn | nin
  deriving DecidableEq
inductive Op where
  | add | sub | mul | mod | fdiv | pow
  deriving DecidableEq
/-- built-in functions called by name -/
inductive Bf where
  | len | int | str | tuple | list | sum | sorted
  deriving DecidableEq
inductive Mth where
  | sindex | lindex | join | lcount
  deriving DecidableEq
inductive Ty where
  | int | bool | tuple | list | str
  deriving DecidableEq
inductive Tg where
  | one (i : Nat) | two (i j : Nat)
  deriving DecidableEq
inductive E where
  | var (i : Nat) | glob (x : Str)
  | int (n : Int) | bl (b : Bool) | non | str (s : Str) | miss
  | bin (o : Op) (a b : E)
  | neg (a : E)
  | cmp (c : Cm) (a b : E)
  | cmp2 (c c' : Cm) (a b d : E)
  | land (a r : E) | lor (a r : E) | one (a : E)
  | not (a : E)
  | ife (c a b : E)
  | nil | cons (a r : E)
  | tup (as : E) | lst (as : E)
  | call (k : Nat) (as : E)
  | bf (f : Bf) (a : E) | max2 (a b : E) | min2 (a b : E)
  | isi (t : Ty) (a : E) | isx (i : Nat) (c : Str)
  | idx (a i : E) | slc (a lo hi : E) | rev (a : E)
  | met (m : Mth) (a b : E)
  | comp (tg : Tg) (it c el : E)
  | range1 (a : E) | range2 (a b : E) | range3 (a b c : E) | zip (a b : E) | enum (a : E)
inductive S where
  | nil | cons (s r : S)
  | set (i : Nat) (e : E)
  | set2 (i j : Nat) (e : E)
  | par (i j : Nat) (a b : E)
  | seti (i : Nat) (k e : E)
  | swap (i : Nat) (a b c d : E)
  | aug (i : Nat) (o : Op) (e : E)
  | app (i : Nat) (e : E) | ext (i : Nat) (e : E) | pop (i : Nat)
  | expr (e : E) | ret (e : E) | retn
  | ite (c : E) (a b : S) | whl (c : E) (b : S) | for_ (tg : Tg) (it : E) (b : S)
  | raise (c : Str) | tryx (b : S) (x : Str) (i : Option Nat) (su : S)
  | pass
inductive Slot where
  | un | val (d : D) | own (ds : List D) | exc (c : Str)
abbrev REnv := List Slot
/-- a new list; the list that slot i owns; (of what a loop walks alone) with lists that those slots own; any other -/
inductive Kd where
  | fresh | own (i : Nat) | via (l : List Nat) | plain
  deriving DecidableEq
/-- what an expression gives: the kind, the owned slots that its items (a plain one: it) may reach, the value; or an exception -/
inductive Rs where
  | ok (k : Kd) (dep : List Nat) (d : D) | ex (c : Str)
def Kd.cont : Kd → List Nat
  | .own i => [i]
  | .via l => l
  | _ => []
def Kd.tot (k : Kd) (dep : List Nat) : List Nat := k.cont ++ dep
/-- what a def gives -/
inductive Rf where
  | ret (d : D) | lst (l : List D) | ex (c : Str)
inductive SR where
  | nx (ρ : REnv) | rt (d : D) | rl (l : List D) | ex (c : Str) (ρ : REnv)
abbrev Fn := List D → Option Rf
structure G where
  fns : List (Str × Fn)
  consts : List (Str × D)
  isx : List ((Str × Str) × Bool)
  exm : List ((Str × Str) × Bool)
  rai : List Str
  fuel : Nat

def atom : D → Bool
  | .list _ => false
  | .tuple _ => false
  | _ => true
def flat1 : D → Bool
  | .list _ => false
  | .tuple l => l.all atom
  | .dict _ => false
  | _ => true
/-- no list within -/
def flat : D → Bool
  | .list _ => false
  | .tuple l => l.all flat1
  | .dict _ => false
  | _ => true
def depF (d : D) (dep : List Nat) : List Nat := if flat d then [] else dep
def depL (l : List D) (dep : List Nat) : List Nat := if l.all flat then [] else dep
def depOf (d : D) (dep : List Nat) : List Nat := if atom d then [] else dep
def truth : D → Option Bool
  | .none => some false
  | .bool b => some b
  | .int i => some (i != 0)
  | .str s => if s.length ≤ sizeLine then some ((s.length : Int) != 0) else none
  | .list l => some (!l.isEmpty)
  | .tuple l => some (!l.isEmpty)
  | .dict _ => none
def ib (i : Int) (n : Nat) : Prop := Builtin.Int.intBits i ≤ n
/-- a op b: the kind, the value; ka: the left one's kind -/
def binop (ka : Kd) (o : Op) (a b : D) : Option (Kd × D) := match o, a, b with
  | .add, .int i, .int j => some (.plain, .int (i + j))
  | .add, .tuple l, .tuple m => if l.length + m.length ≤ sizeLine then some (.plain, .tuple (l ++ m)) else none
  | .add, .list l, .list m => if l.length + m.length ≤ sizeLine then some (.fresh, .list (l ++ m)) else none
  | .add, .str l, .str m => if l.length + m.length ≤ sizeLine then some (.plain, .str (l ++ m)) else none
  | .sub, .int i, .int j => some (.plain, .int (i - j))
  | .mul, .int i, .int j => if (-(2 ^ 64) < i ∧ i < 2 ^ 64) ∨ (-(2 ^ 64) < j ∧ j < 2 ^ 64) then some (.plain, .int (i * j)) else none
  | .mul, .tuple l, .int k => if l.length ≤ 1000 ∧ k ≤ 1000 ∧ -1000 ≤ k then some (.plain, .tuple (List.replicate k.toNat l).flatten) else none
  | .mul, .list l, .int k => if ka = .fresh ∧ l.length ≤ 1000 ∧ k ≤ 1000 ∧ -1000 ≤ k then some (.fresh, .list (List.replicate k.toNat l).flatten) else none
  | .mod, .int i, .int j => if 0 < j then some (.plain, .int (i % j)) else none
  | .fdiv, .int i, .int j => if 0 < j ∧ j < 1073741824 then some (.plain, .int (i / j)) else none
  | .pow, .int i, .int j => if 0 ≤ j ∧ (Builtin.Int.intBits i : Int) * j ≤ 2 ^ 27 then some (.plain, .int (i ^ j.toNat)) else none
  | _, _, _ => none
def memD (x : D) (l : List D) : Bool := l.any fun y => PyData.eqv y x
def cmpop (c : Cm) (a b : D) : Option Bool := match c with
  | .eq => if SeqAt.shaped a && SeqAt.shaped b then some (PyData.eqv a b) else none
  | .ne => if SeqAt.shaped a && SeqAt.shaped b then some (!PyData.eqv a b) else none
  | .lt => match a, b with | .int i, .int j => some (decide (i < j)) | _, _ => none
  | .le => match a, b with | .int i, .int j => some (decide (i ≤ j)) | _, _ => none
  | .gt => match a, b with | .int i, .int j => some (decide (j < i)) | _, _ => none
  | .ge => match a, b with | .int i, .int j => some (decide (j ≤ i)) | _, _ => none
  | .isn => match b with | .none => some (match a with | .none => true | _ => false) | _ => none
  | .notn => match b with | .none => some (match a with | .none => false | _ => true) | _ => none
  | .inn => match b with
    | .list l => if SeqAt.shaped a && SeqAt.shaped (.list l) then some (memD a l) else none
    | .tuple l => if SeqAt.shaped a && SeqAt.shaped (.tuple l) then some (memD a l) else none
    | .str z => match a with | .str y => if y.cps.size = 1 then some (decide (y.cps.getD 0 0 ∈ z.cps.toList)) else none | _ => none
    | _ => none
  | .nin => match b with
    | .list l => if SeqAt.shaped a && SeqAt.shaped (.list l) then some (!memD a l) else none
    | .tuple l => if SeqAt.shaped a && SeqAt.shaped (.tuple l) then some (!memD a l) else none
    | .str z => match a with | .str y => if y.cps.size = 1 then some (!decide (y.cps.getD 0 0 ∈ z.cps.toList)) else none | _ => none
    | _ => none
def isType (t : Ty) (d : D) : Bool := match t, d with
  | .int, .int _ => true
  | .int, .bool _ => true
  | .bool, .bool _ => true
  | .tuple, .tuple _ => true
  | .list, .list _ => true
  | .str, .str _ => true
  | _, _ => false
/-- a place in a sequence of that length -/
def place (n : Nat) (i : Int) : Option Nat := if 0 ≤ i then (if i < n then some i.toNat else none) else if 0 ≤ i + n then some (i + n).toNat else none
def getAt (d : D) (i : Int) : Option D := match d with
  | .list l => (place l.length i).bind (l[·]?)
  | .tuple l => (place l.length i).bind (l[·]?)
  | .str z => if z.length ≤ sizeLine then (place z.length i).bind fun k => (z.cps.toList[k]?).map fun c => .str ⟨#[c]⟩ else none
  | _ => none
def sBound (n dflt : Nat) : Option Int → Nat
  | none => dflt
  | some v => if v < 0 then (v + (n : Int)).toNat else min v.toNat n
def cut {α : Type} (l : List α) (lo hi : Option Int) : List α := (l.drop (sBound l.length 0 lo)).take (sBound l.length l.length hi - sBound l.length 0 lo)
def cutD (d : D) (lo hi : Option Int) : Option (Kd × D) := match d with
  | .list l => some (.fresh, .list (cut l lo hi))
  | .tuple l => some (.plain, .tuple (cut l lo hi))
  | .str z => if z.length ≤ sizeLine then some (.plain, .str ⟨(cut z.cps.toList lo hi).toArray⟩) else none
  | _ => none
def revD (d : D) : Option (Kd × D) := match d with
  | .list l => some (.fresh, .list l.reverse)
  | .tuple l => some (.plain, .tuple l.reverse)
  | _ => none
def intsOf : List D → Option (List Int)
  | [] => some []
  | .int i :: r => (intsOf r).map (i :: ·)
  | _ :: _ => none
def bfun (f : Bf) (d : D) : Option (Kd × D) := match f, d with
  | .len, .list l => some (.plain, .int l.length)
  | .len, .tuple l => some (.plain, .int l.length)
  | .len, .str z => if z.length ≤ sizeLine then some (.plain, .int z.length) else none
  | .int, .int i => some (.plain, .int i)
  | .int, .bool b => some (.plain, .int (if b then 1 else 0))
  | .str, .int i => if i.natAbs.log2 < 1920 then some (.plain, .str (toString i)) else none
  | .tuple, .list l => some (.plain, .tuple l)
  | .tuple, .tuple l => some (.plain, .tuple l)
  | .list, .list l => some (.fresh, .list l)
  | .list, .tuple l => some (.fresh, .list l)
  | .sum, .list l => (intsOf l).map fun ns => (.plain, .int ns.sum)
  | _, _ => none
def strsOf : List D → Option (List Str)
  | [] => some []
  | .str z :: r => (strsOf r).map (z :: ·)
  | _ :: _ => none
def firstAt (x : D) : List D → Nat → Option Nat
  | [], _ => none
  | y :: r, k => if PyData.eqv y x then some k else firstAt x r (k + 1)
def recv (m : Mth) (d : D) : Bool := match m, d with
  | .sindex, .str _ => true
  | .join, .str _ => true
  | .lindex, .list _ => true
  | .lcount, .list _ => true
  | _, _ => false
def meth (m : Mth) (a b : D) : Option D := match m, a, b with
  | .lindex, .list l, x => if SeqAt.shaped x && SeqAt.shaped (.list l) then (firstAt x l 0).map fun k => .int k else none
  | .sindex, .str x, .str y => (Builtin.Str.occurrences x y 0 x.length 1).head?.map fun i => .int (i : Nat)
  | .join, .str x, .list l => (strsOf l).bind fun ys => if (ys.map (·.length)).sum + ys.length * x.length ≤ 16777216 then some (.str (Txt.join x ys)) else none
  | .lcount, .list l, .int k => (intsOf l).map fun ns => .int (ns.count k : Nat)
  | _, _, _ => none
def chars (z : Str) : List D := z.cps.toList.map fun c => .str ⟨#[c]⟩
def small (i : Int) : Bool := decide (-(2 ^ 62) ≤ i) && decide (i < 2 ^ 62)
def rangeD (lo : Int) (n : Nat) : List D := (List.range n).map fun (k : Nat) => .int (lo + k)
/-- lo, lo - 1, .. above hi -/
def rangeDown (lo : Int) (n : Nat) : List D := (List.range n).map fun (k : Nat) => .int (lo - k)
def disown (dep : List Nat) (ρ : REnv) : REnv := ρ.mapIdx fun i s => match s with
  | .own ds => if dep.contains i then .val (.list ds) else .own ds
  | s => s
def put (ρ : REnv) (i : Nat) (k : Kd) (dep : List Nat) (d : D) : REnv := match k, dep, d with
  | .fresh, [], .list ds => ρ.set i (.own ds)
  | k, dep, d => (disown (k.tot dep) ρ).set i (.val d)
def bindT (tg : Tg) (d : D) (ρ : REnv) : Option REnv := match tg, d with
  | .one i, d => if i < ρ.length then some (ρ.set i (.val d)) else none
  | .two i j, .tuple [x, y] => if i < ρ.length ∧ j < ρ.length then some ((ρ.set i (.val x)).set j (.val y)) else none
  | _, _ => none
def Tg.wipe (tg : Tg) (ρ : REnv) : REnv := match tg with
  | .one i => ρ.set i .un
  | .two i j => (ρ.set j .un).set i .un
/-- a comprehension's turns: no exception may leave -/
def compL (f : D → Option (Option D)) : List D → Option (List D)
  | [] => some []
  | d :: r => match f d with
    | none => none
    | some none => compL f r
    | some (some y) => (compL f r).map (y :: ·)
def Rs.map2 (x : Option Rs) (k : Kd → List Nat → D → Option Rs) : Option Rs := match x with
  | some (.ok kd dep d) => k kd dep d
  | some (.ex c) => some (.ex c)
  | none => none

def items : D → Option (List D)
  | .list l => some l
  | .tuple l => some l
  | .str z => some (chars z)
  | _ => none
def part (d : Option Rs) (k : Option Int → Option Rs) : Option Rs := match d with
  | some (.ok _ _ (.int i)) => k (some i)
  | some (.ok _ _ _) => none
  | some (.ex c) => some (.ex c)
  | none => none
def isMiss : E → Bool
  | .miss => true
  | _ => false
def pairs : List D → List D → List D
  | x :: xs, y :: ys => .tuple [x, y] :: pairs xs ys
  | _, _ => []
def enumD : List D → Nat → List D
  | [], _ => []
  | x :: r, k => .tuple [.int k, x] :: enumD r (k + 1)
def rng1 (x : D) : Option Rs := match x with
  | .int n => if small n then some (.ok .plain [] (.list (rangeD 0 n.toNat))) else none
  | _ => none
def rng2 (x y : D) : Option Rs := match x, y with
  | .int m, .int n => if small m && small n then some (.ok .plain [] (.list (rangeD m (n - m).toNat))) else none
  | _, _ => none
def rng3 (x y z : D) : Option Rs := match x, y, z with
  | .int m, .int n, .int k => if k = -1 ∧ (small m && small n) = true then some (.ok .plain [] (.list (rangeDown m (m - n).toNat))) else none
  | _, _, _ => none
def zipR (ka : Kd) (da : List Nat) (x : D) (kb : Kd) (db : List Nat) (y : D) : Option Rs := match x, y with
  | .list xs, .list ys => some (.ok (.via (ka.cont ++ kb.cont)) (da ++ db) (.list (pairs xs ys)))
  | .tuple xs, .tuple ys => some (.ok (.via []) (da ++ db) (.list (pairs xs ys)))
  | _, _ => none
def enumR (ka : Kd) (da : List Nat) (x : D) : Option Rs := match x with
  | .list xs => some (.ok (.via ka.cont) da (.list (enumD xs 0)))
  | .tuple xs => some (.ok (.via ka.cont) da (.list (enumD xs 0)))
  | _ => none
def notOwn (ρ : REnv) (i : Nat) : Bool := match ρ[i]? with
  | some (.own _) => false
  | _ => true
def tgFree (tg : Tg) (ρ : REnv) : Bool := match tg with
  | .one i => notOwn ρ i
  | .two i j => notOwn ρ i && notOwn ρ j
def noExc (ρ : REnv) : Bool := ρ.all fun s => match s with
  | .exc _ => false
  | _ => true
def compE (el : REnv → Option Rs) (ρ1 : REnv) : Option (Option D) := match el ρ1 with
  | some (.ok k p y) => if k.tot p = [] then some (some y) else none
  | _ => none
def compF (c el : REnv → Option Rs) (miss : Bool) (tg : Tg) (ρ : REnv) (d : D) : Option (Option D) := match bindT tg d (tg.wipe ρ) with
  | none => none
  | some ρ1 => if miss then compE el ρ1 else match c ρ1 with
    | some (.ok _ _ t) => match truth t with
      | some true => compE el ρ1
      | some false => some none
      | none => none
    | _ => none
section
variable (g : G)
def ev : E → REnv → Option Rs
  | .var i, ρ => match ρ[i]? with
    | some (.val d) => some (.ok .plain [] d)
    | some (.own ds) => some (.ok (.own i) [] (.list ds))
    | _ => none
  | .glob x, _ => (g.consts.lookup x).map fun d => .ok .plain [] d
  | .int n, _ => some (.ok .plain [] (.int n))
  | .bl b, _ => some (.ok .plain [] (.bool b))
  | .non, _ => some (.ok .plain [] .none)
  | .str s, _ => some (.ok .plain [] (.str s))
  | .miss, _ => none
  | .bin o a b, ρ => Rs.map2 (ev a ρ) fun ka da x => Rs.map2 (ev b ρ) fun _ db y => (binop ka o x y).map fun r => .ok r.1 (depOf r.2 (da ++ db)) r.2
  | .neg a, ρ => Rs.map2 (ev a ρ) fun _ _ x => match x with
    | .int i => some (.ok .plain [] (.int (-i)))
    | _ => none
  | .cmp c a b, ρ => Rs.map2 (ev a ρ) fun _ _ x => Rs.map2 (ev b ρ) fun _ _ y => (cmpop c x y).map fun r => .ok .plain [] (.bool r)
  | .cmp2 c c' a b d, ρ => Rs.map2 (ev a ρ) fun _ _ x => Rs.map2 (ev b ρ) fun _ _ y => (cmpop c x y).bind fun r => if r = true then Rs.map2 (ev d ρ) fun _ _ z => (cmpop c' y z).map fun r => .ok .plain [] (.bool r) else some (.ok .plain [] (.bool false))
  | .land a r, ρ => Rs.map2 (ev a ρ) fun ka da x => (truth x).bind fun t => if t = true then ev r ρ else some (.ok .plain (ka.tot da) x)
  | .lor a r, ρ => Rs.map2 (ev a ρ) fun ka da x => (truth x).bind fun t => if t = true then some (.ok .plain (ka.tot da) x) else ev r ρ
  | .one a, ρ => ev a ρ
  | .not a, ρ => Rs.map2 (ev a ρ) fun _ _ x => (truth x).map fun t => .ok .plain [] (.bool (!t))
  | .ife c a b, ρ => Rs.map2 (ev c ρ) fun _ _ x => (truth x).bind fun t => if t = true then ev a ρ else ev b ρ
  | .nil, _ => some (.ok .plain [] (.tuple []))
  | .cons a r, ρ => Rs.map2 (ev a ρ) fun ka da x => Rs.map2 (ev r ρ) fun _ db y => match y with
    | .tuple ys => some (.ok .plain (depF x (ka.tot da) ++ db) (.tuple (x :: ys)))
    | _ => none
  | .tup as, ρ => Rs.map2 (ev as ρ) fun _ da x => match x with
    | .tuple xs => if xs.length ≤ sizeLine then some (.ok .plain da (.tuple xs)) else none
    | _ => none
  | .lst as, ρ => Rs.map2 (ev as ρ) fun _ da x => match x with
    | .tuple xs => if xs.length ≤ sizeLine then some (.ok .fresh da (.list xs)) else none
    | _ => none
  | .call k as, ρ => Rs.map2 (ev as ρ) fun _ da x => match x, g.fns[k]? with
    | .tuple xs, some f => match f.2 xs with
      | some (.ret d) => some (.ok .plain (depF d da) d)
      | some (.lst l) => some (.ok .fresh (depL l da) (.list l))
      | some (.ex c) => some (.ex c)
      | none => none
    | _, _ => none
  | .bf f a, ρ => Rs.map2 (ev a ρ) fun _ da x => (bfun f x).map fun r => .ok r.1 (depOf r.2 da) r.2
  | .max2 a b, ρ => Rs.map2 (ev a ρ) fun _ _ x => Rs.map2 (ev b ρ) fun _ _ y => match x, y with
    | .int i, .int j => some (.ok .plain [] (.int (if j > i then j else i)))
    | _, _ => none
  | .min2 a b, ρ => Rs.map2 (ev a ρ) fun _ _ x => Rs.map2 (ev b ρ) fun _ _ y => match x, y with
    | .int i, .int j => some (.ok .plain [] (.int (if j < i then j else i)))
    | _, _ => none
  | .isi t a, ρ => Rs.map2 (ev a ρ) fun _ _ x => some (.ok .plain [] (.bool (isType t x)))
  | .isx i c, ρ => match ρ[i]? with
    | some (.exc x) => (g.isx.lookup (x, c)).map fun b => .ok .plain [] (.bool b)
    | _ => none
  | .idx a i, ρ => Rs.map2 (ev a ρ) fun _ da x => Rs.map2 (ev i ρ) fun _ _ y => match y with
    | .int k => (getAt x k).map fun d => .ok .plain (depF d da) d
    | _ => none
  | .slc a lo hi, ρ => Rs.map2 (ev a ρ) fun _ da x =>
    let k1 := fun (l : Option Int) =>
      let k2 := fun (h : Option Int) => (cutD x l h).map fun r => .ok r.1 (depOf r.2 da) r.2
      if isMiss hi then k2 none else part (ev hi ρ) k2
    if isMiss lo then k1 none else part (ev lo ρ) k1
  | .rev a, ρ => Rs.map2 (ev a ρ) fun _ da x => (revD x).map fun r => .ok r.1 (depOf r.2 da) r.2
  | .met m a b, ρ => Rs.map2 (ev a ρ) fun _ _ x => if recv m x then Rs.map2 (ev b ρ) fun _ _ y => (meth m x y).map fun d => .ok .plain [] d else none
  | .comp tg it c el, ρ => Rs.map2 (ev it ρ) fun _ di x => match items x, di with
    | some xs, [] => if (tgFree tg ρ && noExc ρ) = true then (compL (compF (ev c) (ev el) (isMiss c) tg ρ) xs).bind fun ys => if ys.length ≤ sizeLine then some (.ok .fresh [] (.list ys)) else none else none
    | _, _ => none
  | .range1 a, ρ => Rs.map2 (ev a ρ) fun _ _ x => rng1 x
  | .range2 a b, ρ => Rs.map2 (ev a ρ) fun _ _ x => Rs.map2 (ev b ρ) fun _ _ y => rng2 x y
  | .range3 a b c, ρ => Rs.map2 (ev a ρ) fun _ _ x => Rs.map2 (ev b ρ) fun _ _ y => Rs.map2 (ev c ρ) fun _ _ z => rng3 x y z
  | .zip a b, ρ => Rs.map2 (ev a ρ) fun ka da x => Rs.map2 (ev b ρ) fun kb db y => zipR ka da x kb db y
  | .enum a, ρ => Rs.map2 (ev a ρ) fun ka da x => enumR ka da x
def forL (tg : Tg) (body : REnv → Option SR) : List D → REnv → Option SR
  | [], ρ => some (.nx ρ)
  | d :: r, ρ => match bindT tg d ρ with
    | none => none
    | some ρ1 => match body ρ1 with
      | some (.nx ρ2) => forL tg body r ρ2
      | x => x
def whileL (c : REnv → Option Rs) (body : REnv → Option SR) : Nat → REnv → Option SR
  | 0, _ => none
  | n + 1, ρ => match c ρ with
    | some (.ok _ _ t) => match truth t with
      | some true => match body ρ with
        | some (.nx ρ2) => whileL c body n ρ2
        | x => x
      | some false => some (.nx ρ)
      | none => none
    | some (.ex x) => some (.ex x ρ)
    | none => none
def toS (ρ : REnv) (x : Option Rs) (k : Kd → List Nat → D → Option SR) : Option SR := match x with
  | some (.ok fr dep d) => k fr dep d
  | some (.ex c) => some (.ex c ρ)
  | none => none
/-- a list just made, or owned, is told as new -/
def retOf (k : Kd) (dep : List Nat) (d : D) : SR := match k, dep, d with
  | .fresh, _, .list l => .rl l
  | .own _, [], .list l => .rl l
  | _, _, d => .rt d
def setIx (l : List D) (i : Int) (d : D) : Option (List D) := (place l.length i).map fun k => l.set k d
def ex : S → REnv → Option SR
  | .nil, ρ => some (.nx ρ)
  | .cons s r, ρ => match ex s ρ with
    | some (.nx ρ1) => ex r ρ1
    | x => x
  | .set i e, ρ => toS ρ (ev g e ρ) fun fr dep d => if i < ρ.length then some (.nx (put ρ i fr dep d)) else none
  | .set2 i j e, ρ => toS ρ (ev g e ρ) fun k dep d => match d with
    | .tuple [x, y] => if i < ρ.length ∧ j < ρ.length ∧ k.tot dep = [] then some (.nx ((ρ.set i (.val x)).set j (.val y))) else none
    | _ => none
  | .par i j a b, ρ => toS ρ (ev g a ρ) fun ka da x => toS ρ (ev g b ρ) fun kb db y => if i < ρ.length ∧ j < ρ.length ∧ i ≠ j ∧ ka.tot da = [] ∧ kb.tot db = [] then some (.nx ((ρ.set i (.val x)).set j (.val y))) else none
  | .seti i k e, ρ => match ρ[i]? with
    | some (.own ds) => toS ρ (ev g e ρ) fun ke de d => toS ρ (ev g k ρ) fun _ _ kd => match kd with
      | .int n => if ke.tot de = [] then (setIx ds n d).map fun ds' => .nx (ρ.set i (.own ds')) else none
      | _ => none
    | _ => none
  | .swap i a b c d, ρ => match ρ[i]? with
    | some (.own ds) => toS ρ (ev g (.idx (.var i) c) ρ) fun k1 d1 x => toS ρ (ev g (.idx (.var i) d) ρ) fun k2 d2 y => toS ρ (ev g a ρ) fun _ _ ka => match ka with
      | .int m => if k1.tot d1 = [] ∧ k2.tot d2 = [] then (setIx ds m x).bind fun ds1 => toS (ρ.set i (.own ds1)) (ev g b (ρ.set i (.own ds1))) fun _ _ kb => match kb with
        | .int n => (setIx ds1 n y).map fun ds2 => .nx (ρ.set i (.own ds2))
        | _ => none else none
      | _ => none
    | _ => none
  | .aug i o e, ρ => match ρ[i]? with
    | some (.val x) => toS ρ (ev g e ρ) fun _ _ y => match x, y with
      | .int _, .int _ => (binop .plain o x y).map fun r => .nx (ρ.set i (.val r.2))
      | _, _ => none
    | _ => none
  | .app i e, ρ => match ρ[i]? with
    | some (.own ds) => toS ρ (ev g e ρ) fun ke de d => if ke.tot de = [] ∧ ds.length < sizeLine then some (.nx (ρ.set i (.own (ds ++ [d])))) else none
    | _ => none
  | .ext i e, ρ => match ρ[i]? with
    | some (.own ds) => toS ρ (ev g e ρ) fun ke de d => match d with
      | .list es => if ke = .fresh ∧ de = [] ∧ ds.length + es.length ≤ sizeLine then some (.nx (ρ.set i (.own (ds ++ es)))) else none
      | _ => none
    | _ => none
  | .pop i, ρ => match ρ[i]? with
    | some (.own ds) => if ds ≠ [] then some (.nx (ρ.set i (.own ds.dropLast))) else none
    | _ => none
  | .expr e, ρ => toS ρ (ev g e ρ) fun _ _ _ => some (.nx ρ)
  | .ret e, ρ => toS ρ (ev g e ρ) fun k dep d => some (retOf k dep d)
  | .retn, _ => some (.rt .none)
  | .ite c a b, ρ => toS ρ (ev g c ρ) fun _ _ x => match truth x with
    | some true => ex a ρ
    | some false => ex b ρ
    | none => none
  | .whl c b, ρ => whileL (ev g c) (ex b) g.fuel ρ
  | .for_ tg it b, ρ => match ev g it ρ with
    | some (.ok k dep x) => match items x with
      | some xs => forL tg (ex b) xs (disown (k.tot dep) ρ)
      | none => none
    | some (.ex c) => some (.ex c ρ)
    | none => none
  | .raise c, ρ => some (.ex c ρ)
  | .tryx b x i su, ρ => match ex b ρ with
    | some (.ex c ρ1) => match g.exm.lookup (c, x) with
      | some true => match i with
        | some j => if j < ρ1.length then (match ex su (ρ1.set j (.exc c)) with
          | some (.nx ρ2) => if noExc (ρ2.set j .un) = true ∧ j < ρ2.length then some (.nx (ρ2.set j .un)) else none
          | some (.rt d) => some (.rt d)
          | some (.rl d) => some (.rl d)
          | _ => none) else none
        | none => match ex su ρ1 with
          | some (.nx ρ2) => if noExc ρ2 = true then some (.nx ρ2) else none
          | some (.rt d) => some (.rt d)
          | some (.rl d) => some (.rl d)
          | _ => none
      | some false => some (.ex c ρ1)
      | none => none
    | r => r
  | .pass, ρ => some (.nx ρ)
end
end Vi

set_option maxRecDepth 100000
set_option maxHeartbeats 2000000
namespace Vi
open PySem PySem.Spec PyProof.Rows L2

/-! ### values that stand for trees -/
section
variable (K : PySem.W.Frag)
def QL (H : Hp) (P : Addr → Prop) (a : Addr) (xs : List V) : Prop :=
  (P a ∧ Rd H a (.lst xs)) ∨ ∃ (o : Obj) (its : Array Value) (n : Nat), K.lookup a = some o ∧ o.cls = .type "list" ∧ o.dict = none ∧ o.data = .seq its n ∧ its.size ≤ sizeLine ∧ Vals xs its.toList
def QT (H : Hp) (P : Addr → Prop) (a : Addr) (xs : List V) : Prop :=
  (P a ∧ Rd H a (.tup xs)) ∨ ∃ (o : Obj) (its : Array Value) (n : Nat), K.lookup a = some o ∧ o.cls = .type "tuple" ∧ o.data = .seq its n ∧ its.size ≤ sizeLine ∧ Vals xs its.toList
mutual
inductive Rep (H : Hp) (P : Addr → Prop) : D → V → Prop
  | non : Rep H P .none .non
  | bl (b : Bool) : Rep H P (.bool b) (.bl b)
  | int (i : Int) : Rep H P (.int i) (.int i)
  | str (x : Str) : Rep H P (.str x) (.str x)
  | lst {a : Addr} {xs : List V} {ds : List D} : QL K H P a xs → RepL H P ds xs → Rep H P (.list ds) (.ref a)
  | tup {a : Addr} {xs : List V} {ds : List D} : QT K H P a xs → RepL H P ds xs → Rep H P (.tuple ds) (.ref a)
inductive RepL (H : Hp) (P : Addr → Prop) : List D → List V → Prop
  | nil : RepL H P [] []
  | cons {v : V} {vs : List V} {d : D} {ds : List D} : Rep H P d v → RepL H P ds vs → RepL H P (d :: ds) (v :: vs)
end
end
section
variable {K : PySem.W.Frag} {H H' : Hp} {P P' : Addr → Prop}
theorem QL.sql {a : Addr} {xs : List V} (h : QL K H P a xs) : SqL K H a xs := h.elim (fun z => .inl z.2) .inr
theorem QT.sqt {a : Addr} {xs : List V} (h : QT K H P a xs) : SqT K H a xs := h.elim (fun z => .inl z.2) .inr
/-- what a reading leans on stays -/
def Stay (H H' : Hp) (P P' : Addr → Prop) : Prop := ∀ a u, P a → Rd H a u → P' a ∧ Rd H' a u
theorem QL.stay {a : Addr} {xs : List V} (s : Stay H H' P P') (h : QL K H P a xs) : QL K H' P' a xs := h.elim (fun z => .inl (s a _ z.1 z.2)) .inr
theorem QT.stay {a : Addr} {xs : List V} (s : Stay H H' P P') (h : QT K H P a xs) : QT K H' P' a xs := h.elim (fun z => .inl (s a _ z.1 z.2)) .inr
mutual
theorem Rep.stay (s : Stay H H' P P') : ∀ (d : D) {v : V}, Rep K H P d v → Rep K H' P' d v
  | .none, _, h => by cases h; exact .non
  | .bool b, _, h => by cases h; exact .bl b
  | .int i, _, h => by cases h; exact .int i
  | .str x, _, h => by cases h; exact .str x
  | .list ds, _, h => by
    cases h with
    | lst q r => exact .lst (q.stay s) (RepL.stay s ds r)
  | .tuple ds, _, h => by
    cases h with
    | tup q r => exact .tup (q.stay s) (RepL.stay s ds r)
  | .dict _, _, h => by cases h
theorem RepL.stay (s : Stay H H' P P') : ∀ (ds : List D) {vs : List V}, RepL K H P ds vs → RepL K H' P' ds vs
  | [], _, h => by cases h; exact .nil
  | d :: ds, _, h => by
    cases h with
    | cons a b => exact .cons (Rep.stay s d a) (RepL.stay s ds b)
end
mutual
theorem Rep.dp : ∀ (d : D) {v : V}, Rep K H P d v → Dp K H v d
  | .none, _, h => by cases h; exact .non
  | .bool b, _, h => by cases h; exact .bl b
  | .int i, _, h => by cases h; exact .int i
  | .str x, _, h => by cases h; exact .str x
  | .list ds, _, h => by
    cases h with
    | lst q r => exact .lst q.sql (RepL.dp ds r)
  | .tuple ds, _, h => by
    cases h with
    | tup q r => exact .tup q.sqt (RepL.dp ds r)
  | .dict _, _, h => by cases h
theorem RepL.dp : ∀ (ds : List D) {vs : List V}, RepL K H P ds vs → DpAll K H vs ds
  | [], _, h => by cases h; exact .nil
  | d :: ds, _, h => by
    cases h with
    | cons a b => exact .cons (Rep.dp d a) (RepL.dp ds b)
end
theorem RepL.length : ∀ {ds : List D} {vs : List V}, RepL K H P ds vs → ds.length = vs.length
  | [], _, h => by cases h; rfl
  | d :: ds, _, h => by
    cases h with
    | cons a b => simp [RepL.length b]
theorem RepL.get : ∀ {ds : List D} {vs : List V} {i : Nat} {d : D}, RepL K H P ds vs → ds[i]? = some d → ∃ v, vs[i]? = some v ∧ Rep K H P d v
  | [], _, _, _, h, e => by simp at e
  | d :: ds, _, i, _, h, e => by
    cases h with
    | cons a b =>
      cases i with
      | zero => simp at e; subst e; exact ⟨_, rfl, a⟩
      | succ i =>
        obtain ⟨v, h1, h2⟩ := RepL.get b (by simpa using e)
        exact ⟨v, by simpa using h1, h2⟩
theorem RepL.get' : ∀ {ds : List D} {vs : List V} {i : Nat} {v : V}, RepL K H P ds vs → vs[i]? = some v → ∃ d, ds[i]? = some d ∧ Rep K H P d v
  | [], _, _, _, h, e => by cases h; simp at e
  | d :: ds, _, i, _, h, e => by
    cases h with
    | cons a b =>
      cases i with
      | zero => simp at e; subst e; exact ⟨_, rfl, a⟩
      | succ i =>
        obtain ⟨v, h1, h2⟩ := RepL.get' b (by simpa using e)
        exact ⟨v, by simpa using h1, h2⟩
theorem RepL.append : ∀ {ds es : List D} {vs ws : List V}, RepL K H P ds vs → RepL K H P es ws → RepL K H P (ds ++ es) (vs ++ ws)
  | [], _, _, _, h, g => by cases h; exact g
  | d :: ds, _, _, _, h, g => by
    cases h with
    | cons a b => exact .cons a (RepL.append b g)
theorem RepL.take : ∀ {ds : List D} {vs : List V} (n : Nat), RepL K H P ds vs → RepL K H P (ds.take n) (vs.take n)
  | _, _, 0, _ => .nil
  | [], _, n + 1, h => by cases h; exact .nil
  | d :: ds, _, n + 1, h => by
    cases h with
    | cons a b => exact .cons a (RepL.take n b)
theorem RepL.drop : ∀ {ds : List D} {vs : List V} (n : Nat), RepL K H P ds vs → RepL K H P (ds.drop n) (vs.drop n)
  | _, _, 0, h => h
  | [], _, n + 1, h => by cases h; exact .nil
  | d :: ds, _, n + 1, h => by
    cases h with
    | cons a b => exact RepL.drop n b
theorem RepL.set : ∀ {ds : List D} {vs : List V} (n : Nat) {d : D} {v : V}, RepL K H P ds vs → Rep K H P d v → RepL K H P (ds.set n d) (vs.set n v)
  | [], _, _, _, _, h, _ => by cases h; exact .nil
  | d :: ds, _, n, _, _, h, r => by
    cases h with
    | cons a b =>
      cases n with
      | zero => exact .cons r b
      | succ n => exact .cons a (RepL.set n b r)
theorem RepL.reverse : ∀ {ds : List D} {vs : List V}, RepL K H P ds vs → RepL K H P ds.reverse vs.reverse
  | [], _, h => by cases h; exact .nil
  | d :: ds, _, h => by
    cases h with
    | cons a b =>
      rw [List.reverse_cons, List.reverse_cons]
      exact (RepL.reverse b).append (.cons a .nil)
theorem RepL.flat (n : Nat) {ds : List D} {vs : List V} (h : RepL K H P ds vs) : RepL K H P (List.replicate n ds).flatten (List.replicate n vs).flatten := by
  induction n with
  | zero => exact .nil
  | succ n ih =>
    rw [List.replicate_succ, List.replicate_succ, List.flatten_cons, List.flatten_cons]
    exact h.append ih
theorem RepL.dropLast {ds : List D} {vs : List V} (h : RepL K H P ds vs) : RepL K H P ds.dropLast vs.dropLast := by
  rw [List.dropLast_eq_take, List.dropLast_eq_take, h.length]
  exact h.take _
theorem RepL.ints : ∀ (ns : List Int), RepL K H P (ns.map .int) (ns.map V.int)
  | [] => .nil
  | n :: ns => .cons (.int n) (RepL.ints ns)
theorem Rep.atom_any {d : D} {v : V} (a : atom d = true) (h : Rep K H P d v) : Rep K H' P' d v := by
  cases h with
  | non => exact .non
  | bl b => exact .bl b
  | int i => exact .int i
  | str x => exact .str x
  | lst _ _ => cases a
  | tup _ _ => cases a

/-! ### the frame -/
abbrev Cur := Option (Addr × Str)
/-- an address that a name owns -/
def Ow (ρ : REnv) (σ : L2.St) (a : Addr) : Prop := ∃ (i : Nat) (ds : List D), ρ[i]? = some (Slot.own ds) ∧ σ[i]? = some (some (V.ref a))
/-- neither kept from us nor owned by a name outside dep -/
def Pm (O : Addr → Prop) (ρ : REnv) (σ : L2.St) (dep : List Nat) (a : Addr) : Prop := ¬ O a ∧ ∀ (i : Nat) (ds : List D), ρ[i]? = some (Slot.own ds) → σ[i]? = some (some (V.ref a)) → i ∈ dep
structure StRel (K : PySem.W.Frag) (cur : Cur) (O : Addr → Prop) (ρ : REnv) (σ : L2.St) (H : Hp) : Prop where
  len : ρ.length = σ.length
  od : ∀ a, O a → H a ≠ none
  val : ∀ (i : Nat) (d : D), ρ[i]? = some (.val d) → ∃ v, σ[i]? = some (some v) ∧ Rep K H (Pm O ρ σ []) d v
  own : ∀ (i : Nat) (ds : List D), ρ[i]? = some (.own ds) → ∃ a xs, σ[i]? = some (some (.ref a)) ∧ H a = some (.lst xs) ∧ ¬ O a ∧ RepL K H (Pm O ρ σ []) ds xs
  sep : ∀ (i j : Nat) (ds es : List D) (a : Addr), ρ[i]? = some (.own ds) → ρ[j]? = some (.own es) → σ[i]? = some (some (.ref a)) → σ[j]? = some (some (.ref a)) → i = j
  exc : ∀ (i : Nat) (c : Str), ρ[i]? = some (.exc c) → ∃ a, cur = some (a, c) ∧ σ[i]? = some (some (.ref a))
structure Step (ρ : REnv) (σ : L2.St) (H : Hp) (ρ' : REnv) (σ' : L2.St) (H' : Hp) : Prop where
  keep : ∀ a u, H a = some u → ¬ Ow ρ σ a → H' a = some u
  own : ∀ a, Ow ρ' σ' a → Ow ρ σ a ∨ H a = none
  dom : ∀ a, H a ≠ none → H' a ≠ none
theorem Step.refl {ρ : REnv} {σ : L2.St} : Step ρ σ H ρ σ H := ⟨fun _ _ e _ => e, fun _ o => .inl o, fun _ h => h⟩
theorem Step.trans {ρ ρ' ρ'' : REnv} {σ σ' σ'' : L2.St} {H'' : Hp} (a : Step ρ σ H ρ' σ' H') (b : Step ρ' σ' H' ρ'' σ'' H'') : Step ρ σ H ρ'' σ'' H'' where
  keep := fun x u e n => b.keep x u (a.keep x u e n) fun o => (a.own x o).elim n fun z => by rw [e] at z; cases z
  own := fun x o => (b.own x o).elim (fun z => a.own x z) fun z => .inr (Classical.byContradiction fun q => a.dom x q z)
  dom := fun x h => b.dom x (a.dom x h)
theorem same_refl : Same H H := fun _ _ e => e
theorem same_trans {H'' : Hp} (a : Same H H') (b : Same H' H'') : Same H H'' := fun x u e => b x u (a x u e)
theorem same_upd {p : Addr} {o : HO} (n : H p = none) : Same H (upd H p o) := fun x u e => by
  rw [upd_ne (ne_of_none e n)]; exact e
theorem Step.of_same {ρ : REnv} {σ : L2.St} (s : Same H H') : Step ρ σ H ρ σ H' :=
  ⟨fun a u e _ => s a u e, fun _ o => .inl o, fun a h z => by
    cases q : H a with
    | none => exact h q
    | some u => rw [s a u q] at z; cases z⟩
theorem Rd.same {a : Addr} {u : HO} (s : Same H H') (h : Rd H a u) : Rd H' a u := h.elim (fun e => .inl (s _ _ e)) fun ⟨o, e⟩ => .inr ⟨o, s _ _ e⟩
theorem Rd.dom {a : Addr} {u : HO} (h : Rd H a u) : H a ≠ none := h.elim (fun e z => by rw [e] at z; cases z) fun ⟨o, e⟩ z => by rw [e] at z; cases z
theorem Stay.same (s : Same H H') (hp : ∀ a, P a → P' a) : Stay H H' P P' := fun a u p r => ⟨hp a p, Rd.same s r⟩
theorem Pm.mono {O : Addr → Prop} {ρ : REnv} {σ : L2.St} {p q : List Nat} {a : Addr} (h : ∀ i, i ∈ p → i ∈ q) (x : Pm O ρ σ p a) : Pm O ρ σ q a := ⟨x.1, fun i ds e1 e2 => h i (x.2 i ds e1 e2)⟩
theorem Pm.not_ow {O : Addr → Prop} {ρ : REnv} {σ : L2.St} {a : Addr} (x : Pm O ρ σ [] a) : ¬ Ow ρ σ a := fun ⟨i, ds, e1, e2⟩ => by
  have := x.2 i ds e1 e2
  simp at this
theorem Pm.of_not {O : Addr → Prop} {ρ : REnv} {σ : L2.St} {p : List Nat} {a : Addr} (h : ¬ O a) (x : ¬ Ow ρ σ a) : Pm O ρ σ p a := ⟨h, fun i ds e1 e2 => absurd ⟨i, ds, e1, e2⟩ x⟩
/-- behind steps a reading that reaches no owned list stays -/
theorem Stay.step {O : Addr → Prop} {ρ ρ' : REnv} {σ σ' : L2.St} (s : Step ρ σ H ρ' σ' H') : Stay H H' (Pm O ρ σ []) (Pm O ρ' σ' []) := fun a u p r =>
  ⟨.of_not p.1 fun o => (s.own a o).elim p.not_ow fun z => Rd.dom r z, r.elim (fun e => .inl (s.keep a _ e p.not_ow)) fun ⟨o, e⟩ => .inr ⟨o, s.keep a _ e p.not_ow⟩⟩
section
variable {cur : Cur} {O : Addr → Prop} {ρ : REnv} {σ : L2.St}
theorem StRel.same (R : StRel K cur O ρ σ H) (s : Same H H') : StRel K cur O ρ σ H' where
  len := R.len
  od := fun a o z => by
    cases q : H a with
    | none => exact R.od a o q
    | some u => rw [s a u q] at z; cases z
  val := fun i d e => let ⟨v, e1, r⟩ := R.val i d e; ⟨v, e1, Rep.stay (.same s fun _ p => p) _ r⟩
  own := fun i ds e => let ⟨a, xs, e1, e2, n, r⟩ := R.own i ds e; ⟨a, xs, e1, s _ _ e2, n, RepL.stay (.same s fun _ p => p) _ r⟩
  sep := R.sep
  exc := R.exc
theorem StRel.ow_dom (R : StRel K cur O ρ σ H) {a : Addr} (h : Ow ρ σ a) : H a ≠ none := by
  obtain ⟨i, ds, e1, e2⟩ := h
  obtain ⟨b, xs, e3, e4, _⟩ := R.own i ds e1
  rw [e2] at e3
  cases e3
  rw [e4]
  simp
/-- a new place is fine -/
theorem StRel.new (R : StRel K cur O ρ σ H) {p : Addr} (n : H p = none) {dep : List Nat} : Pm O ρ σ dep p :=
  .of_not (fun o => R.od p o n) fun o => R.ow_dom o n
end
end
/-- what an expression's value is -/
def Res (K : PySem.W.Frag) (O : Addr → Prop) (ρ : REnv) (σ : L2.St) (H H' : Hp) (k : Kd) (dep : List Nat) (d : D) (v : V) : Prop := match k with
  | .fresh => ∃ p xs ds, d = .list ds ∧ v = .ref p ∧ H p = none ∧ H' p = some (.lst xs) ∧ RepL K H' (fun a => Pm O ρ σ dep a ∧ a ≠ p) ds xs
  | .own i => ∃ a xs ds, d = .list ds ∧ ρ[i]? = some (.own ds) ∧ v = .ref a ∧ σ[i]? = some (some (.ref a)) ∧ H' a = some (.lst xs) ∧ RepL K H' (Pm O ρ σ dep) ds xs
  | .via _ => False
  | .plain => Rep K H' (Pm O ρ σ dep) d v
theorem Pm.own {K : PySem.W.Frag} {cur : Cur} {O : Addr → Prop} {ρ : REnv} {σ : L2.St} {H : Hp} (R : StRel K cur O ρ σ H) {i : Nat} {ds : List D} {a : Addr} {dep : List Nat} (e : ρ[i]? = some (.own ds)) (e1 : σ[i]? = some (some (.ref a))) (hi : i ∈ dep) : Pm O ρ σ dep a := by
  obtain ⟨b, xs, e2, e3, n, r⟩ := R.own i ds e
  rw [e1] at e2
  cases e2
  refine ⟨n, fun j es e4 e5 => ?_⟩
  rw [R.sep j i es ds a e4 e e5 e1]
  exact hi
theorem Res.rep {K : PySem.W.Frag} {cur : Cur} {O : Addr → Prop} {ρ : REnv} {σ : L2.St} {H H' : Hp} {k : Kd} {dep : List Nat} {d : D} {v : V} (R : StRel K cur O ρ σ H) (s : Same H H') (h : Res K O ρ σ H H' k dep d v) : Rep K H' (Pm O ρ σ (k.tot dep)) d v := by
  cases k with
  | fresh =>
    obtain ⟨p, xs, ds, rfl, rfl, n, e, r⟩ := h
    exact .lst (.inl ⟨R.new n, .inl e⟩) (RepL.stay (fun a u p r => ⟨p.1, r⟩) _ r)
  | own i =>
    obtain ⟨a, xs, ds, rfl, e0, rfl, e1, e, r⟩ := h
    exact .lst (.inl ⟨Pm.own R e0 e1 (List.mem_cons_self ..), .inl e⟩) (RepL.stay (fun b u p q => ⟨p.mono fun j z => List.mem_append_right _ z, q⟩) _ r)
  | via l => exact h.elim
  | plain => exact h
/-- the items -/
theorem Res.list {K : PySem.W.Frag} {cur : Cur} {O : Addr → Prop} {ρ : REnv} {σ : L2.St} {H H' : Hp} {k : Kd} {dep : List Nat} {ds : List D} {v : V} (R : StRel K cur O ρ σ H) (s : Same H H') (h : Res K O ρ σ H H' k dep (.list ds) v) :
    ∃ a xs, v = .ref a ∧ SqL K H' a xs ∧ RepL K H' (Pm O ρ σ dep) ds xs := by
  cases k with
  | fresh =>
    obtain ⟨p, xs, ds, e0, rfl, n, e, r⟩ := h
    cases e0
    exact ⟨p, xs, rfl, .inl (.inl e), RepL.stay (fun a u p r => ⟨p.1, r⟩) _ r⟩
  | own i =>
    obtain ⟨a, xs, ds, e0, e2, rfl, e1, e, r⟩ := h
    cases e0
    exact ⟨a, xs, rfl, .inl (.inl e), r⟩
  | via l => exact h.elim
  | plain =>
    cases (show Rep K H' (Pm O ρ σ dep) (.list ds) v from h) with
    | lst q r => exact ⟨_, _, rfl, q.sql, r⟩
theorem Res.tup {K : PySem.W.Frag} {O : Addr → Prop} {ρ : REnv} {σ : L2.St} {H H' : Hp} {k : Kd} {dep : List Nat} {ds : List D} {v : V} (h : Res K O ρ σ H H' k dep (.tuple ds) v) :
    ∃ a xs, v = .ref a ∧ QT K H' (Pm O ρ σ dep) a xs ∧ RepL K H' (Pm O ρ σ dep) ds xs := by
  cases k with
  | fresh => obtain ⟨p, xs, ds, e0, _⟩ := h; cases e0
  | own i => obtain ⟨a, xs, ds, e0, _⟩ := h; cases e0
  | via l => exact h.elim
  | plain =>
    cases (show Rep K H' (Pm O ρ σ dep) (.tuple ds) v from h) with
    | tup q r => exact ⟨_, _, rfl, q, r⟩
theorem Res.stay {K : PySem.W.Frag} {O : Addr → Prop} {ρ : REnv} {σ : L2.St} {H H' H'' : Hp} {k : Kd} {dep : List Nat} {d : D} {v : V} (s : Same H' H'') (h : Res K O ρ σ H H' k dep d v) : Res K O ρ σ H H'' k dep d v := by
  cases k with
  | fresh =>
    obtain ⟨p, xs, ds, e0, e1, n, e, r⟩ := h
    exact ⟨p, xs, ds, e0, e1, n, s _ _ e, RepL.stay (.same s fun _ z => z) _ r⟩
  | own i =>
    obtain ⟨a, xs, ds, e0, e2, e3, e1, e, r⟩ := h
    exact ⟨a, xs, ds, e0, e2, e3, e1, s _ _ e, RepL.stay (.same s fun _ z => z) _ r⟩
  | via l => exact h.elim
  | plain => exact Rep.stay (.same s fun _ z => z) _ (show Rep K H' (Pm O ρ σ dep) d v from h)
end Vi

set_option maxRecDepth 100000
set_option maxHeartbeats 4000000
namespace Vi
open PySem PySem.Spec PyProof.Rows L2
theorem tup_add0 (l b : Addr) (items items2 : Array Value) (n n2 : Nat) (dd dd2 : Option Addr) (sl sl2 : Array (Option Value)) (hc0 : items.isEmpty = true) :
    Meets (Builtin.«tuple.__add__» ⟨[.ref l, .ref b], []⟩) (fun _ R s => s.heap.get? l = some { cls := .type "tuple", dict := dd, data := .seq items n, slots := sl } ∧ s.heap.get? b = some { cls := .type "tuple", dict := dd2, data := .seq items2 n2, slots := sl2 } ∧ R (.ok (.ret (Value.ref b))) s) :=
  .of_wp fun prog w A R s h => by
    obtain ⟨hp, g, d, tk, os⟩ := s
    obtain ⟨hl, hb, h⟩ := h
    have f1 := AutoSeq1.idx_int
    have f2 := AutoSeq1.sub_tuple_tuple
    wp_walk using wpAny_loadPart' hl, wpAny_loadPart' hb
    exact ⟨_, rfl, h⟩
theorem tup_mul1 (l : Addr) (items : Array Value) (n : Nat) (dd : Option Addr) (sl : Array (Option Value)) (x : Int) (u : Tok) (c0 : (decide (x < -(2 ^ 63)) || decide (x ≥ 2 ^ 63)) = false) (c1 : (items.isEmpty || x == 1) = true) :
    Meets (Builtin.«tuple.__mul__» ⟨[.ref l, .int x u], []⟩) (fun _ R s => s.heap.get? l = some { cls := .type "tuple", dict := dd, data := .seq items n, slots := sl } ∧
      R (.ok (.ret (Value.ref l))) s) :=
  .of_wp fun prog w A R s h => by
    obtain ⟨hp, g, d, tk, os⟩ := s
    obtain ⟨hl, h⟩ := h
    have f1 := AutoSeq1.idx_int
    wp_walk using wpAny_loadPart' hl
    repeat (first
      | (refine wpAny_ite_false (decide_eq_false (by rw [c0]; exact Bool.false_ne_true)) ?_; wp_walk using wpAny_loadPart' hl)
      | (refine wpAny_ite_true (decide_eq_true c1) ?_; wp_walk using wpAny_loadPart' hl))
    exact ⟨_, rfl, h⟩
theorem tup_mul0 (l : Addr) (items : Array Value) (n : Nat) (dd : Option Addr) (sl : Array (Option Value)) (x : Int) (u : Tok) (c0 : (decide (x < -(2 ^ 63)) || decide (x ≥ 2 ^ 63)) = false) (c1 : (items.isEmpty || x == 1) = false) (c2 : (decide (x ≤ 0) || items.isEmpty) = true) :
    Meets (Builtin.«tuple.__mul__» ⟨[.ref l, .int x u], []⟩) (fun _ R s => s.heap.get? l = some { cls := .type "tuple", dict := dd, data := .seq items n, slots := sl } ∧
      R (.ok (.ret (Value.ref s.heap.objs.size))) { s with heap := s.heap.push { cls := Value.type "tuple", data := Data.seq #[] }, toks := s.toks }) :=
  .of_wp fun prog w A R s h => by
    obtain ⟨hp, g, d, tk, os⟩ := s
    obtain ⟨hl, h⟩ := h
    have f1 := AutoSeq1.idx_int
    wp_walk using wpAny_loadPart' hl
    repeat (first
      | (refine wpAny_ite_false (decide_eq_false (by rw [c0]; exact Bool.false_ne_true)) ?_; wp_walk using wpAny_loadPart' hl)
      | (refine wpAny_ite_false (decide_eq_false (by rw [c1]; exact Bool.false_ne_true)) ?_; wp_walk using wpAny_loadPart' hl)
      | (refine wpAny_ite_true (decide_eq_true c2) ?_; wp_walk using wpAny_loadPart' hl))
    exact ⟨_, rfl, h⟩
section
variable {X : Cx}
theorem op_catT0 : OpR X (binaryOp .Add) (fun x y H Q => ∃ a b ys, x = .ref a ∧ y = .ref b ∧ SqT X.K H a [] ∧ SqT X.K H b ys ∧ Q (.ref b) H) := by
  intro pins s σ H x y v u Q I rx ry h
  obtain ⟨a, b, ys, rfl, rfl, ha, hb, q⟩ := h
  cases rx
  cases ry
  obtain ⟨its, r1, p1, _⟩ := I.tuple ha
  obtain ⟨its2, r2, p2, _⟩ := I.tuple hb
  cases r1
  obtain ⟨⟨cls, dd, data, sl⟩, ho, hc, n, hd⟩ := id p1
  obtain ⟨⟨cls2, dd2, data2, sl2⟩, ho2, hc2, n2, hd2⟩ := id p2
  simp only at hc hd hc2 hd2
  subst hc hd hc2 hd2
  exact concat_meets ⟨_, ho, rfl⟩ ⟨_, ho2, rfl⟩ noFill_tuple_add seq_tuple_add PySem.F.slot_tuple_add PySem.F.entry_tuple_add (PySem.F.args_tuple_add_2 _ _)
      (tup_add0 a b _ _ n n2 dd dd2 sl sl2 rfl) ⟨ho, ho2, ⟨.ref b, H, I, rfl, q⟩⟩
theorem op_catLS : OpR X (binaryOp .Add) (fun x y H Q => ∃ a b xs ys, x = .ref a ∧ y = .ref b ∧ SqL X.K H a xs ∧ SqL X.K H b ys ∧ xs.length + ys.length ≤ sizeLine ∧ ∀ p, H p = none → Q (.ref p) (upd H p (.lst (xs ++ ys)))) := by
  intro pins s σ H x y v u Q I rx ry h
  obtain ⟨a, b, xs, ys, rfl, rfl, ha, hb, hz, q⟩ := h
  cases rx
  cases ry
  obtain ⟨its, r1, p1, _⟩ := I.list ha
  obtain ⟨its2, r2, p2, _⟩ := I.list hb
  obtain ⟨⟨cls, dd, data, sl⟩, n, ho, hc, _, hd⟩ := id p1
  obtain ⟨⟨cls2, dd2, data2, sl2⟩, n2, ho2, hc2, _, hd2⟩ := id p2
  simp only at hc hd hc2 hd2
  subst hc hd hc2 hd2
  have e : its.toArray ++ its2.toArray = (its ++ its2).toArray := by simp
  have hz' : its.length + its2.length ≤ sizeLine := by rw [← r1.length, ← r2.length]; exact hz
  refine concat_meets ⟨_, ho, rfl⟩ ⟨_, ho2, rfl⟩ noFill_list_add seq_list_add PySem.F.slot_list_add PySem.F.entry_list_add (PySem.F.args_list_add_2 _ _) (list_addW a b its.toArray its2.toArray n n2 _ _ sl sl2 (by simpa using hz')) ⟨ho, ho2, ?_⟩
  rw [e]
  refine ⟨.ref s.heap.objs.size, _, I.laid (t' := s.toks) (o := .lst (xs ++ ys)) (fun b ob q => Heap.get?_push_of_some _ q) (Nat.le_refl _) ?_, rfl, q _ (I.hok.fresh (Nat.le_refl _))⟩
  exact ⟨by rw [List.length_append]; exact hz, _, 0, r1.append r2, Heap.get?_push_size _ rfl⟩
theorem op_repT1 : OpR X (binaryOp .Mult) (fun x y H Q => ∃ l k xs, x = .ref l ∧ y = .int k ∧ SqT X.K H l xs ∧ -1000 ≤ k ∧ k ≤ 1000 ∧ (xs = [] ∨ k = 1) ∧ Q (.ref l) H) := by
  intro pins s σ H x y v u Q I rx ry h
  obtain ⟨l, k, xs, rfl, rfl, hT, h1, h2, hk, q⟩ := h
  cases rx
  obtain ⟨t, rfl⟩ := ry
  obtain ⟨its, r, ⟨⟨cls, dd, data, sl⟩, ho, hc, n, hd⟩, hs⟩ := I.tuple hT
  simp only at hc hd
  subst hc hd
  have c0 : (decide (k < -(2 ^ 63)) || decide (k ≥ 2 ^ 63)) = false := by
    rw [decide_eq_false (by omega), decide_eq_false (by omega)] <;> rfl
  have c1 : (its.toArray.isEmpty || k == 1) = true := by
    rcases hk with e | e
    · subst e; cases r; rfl
    · subst e; simp
  refine wpAny_binaryOp_repeat_ref (T := "tuple") (U := "int") (by decide) ⟨_, ho, rfl⟩ (fun s' => typeIs_int s' k t) noFill_tuple_mul F.fills_int_mul F.slot_int_rmul repeat_tuple F.slot_int_index.lookup
    (call_meets F.slot_int_rmul (typeIs_int s k t) F.entry_int_rmul (F.args_int_rmul_2 _ _) (int_rmul_tuple k t l its.toArray n dd sl)
      ⟨ho, rfl, ⟨_, ho, rfl⟩, call_meets F.slot_tuple_mul ⟨_, ho, rfl⟩ F.entry_tuple_mul (F.args_tuple_mul_2 _ _) (tup_mul1 l its.toArray n dd sl k t c0 c1) ⟨ho, ?_⟩⟩)
  exact ⟨.ref l, H, I, rfl, q⟩
theorem op_repT0 : OpR X (binaryOp .Mult) (fun x y H Q => ∃ l k xs, x = .ref l ∧ y = .int k ∧ SqT X.K H l xs ∧ -1000 ≤ k ∧ k ≤ 0 ∧ xs ≠ [] ∧ ∀ p, H p = none → Q (.ref p) (upd H p (.tup []))) := by
  intro pins s σ H x y v u Q I rx ry h
  obtain ⟨l, k, xs, rfl, rfl, hT, h1, h2, hne, q⟩ := h
  cases rx
  obtain ⟨t, rfl⟩ := ry
  obtain ⟨its, r, ⟨⟨cls, dd, data, sl⟩, ho, hc, n, hd⟩, hs⟩ := I.tuple hT
  simp only at hc hd
  subst hc hd
  have c0 : (decide (k < -(2 ^ 63)) || decide (k ≥ 2 ^ 63)) = false := by
    rw [decide_eq_false (by omega), decide_eq_false (by omega)] <;> rfl
  have hi : its.toArray.isEmpty = false := by
    cases r with
    | nil => exact absurd rfl hne
    | cons a b => rfl
  have c1 : (its.toArray.isEmpty || k == 1) = false := by
    rw [hi, Bool.false_or]
    exact beq_eq_false_iff_ne.mpr (by omega)
  have c2 : (decide (k ≤ 0) || its.toArray.isEmpty) = true := by
    rw [decide_eq_true h2]; rfl
  refine wpAny_binaryOp_repeat_ref (T := "tuple") (U := "int") (by decide) ⟨_, ho, rfl⟩ (fun s' => typeIs_int s' k t) noFill_tuple_mul F.fills_int_mul F.slot_int_rmul repeat_tuple F.slot_int_index.lookup
    (call_meets F.slot_int_rmul (typeIs_int s k t) F.entry_int_rmul (F.args_int_rmul_2 _ _) (int_rmul_tuple k t l its.toArray n dd sl)
      ⟨ho, rfl, ⟨_, ho, rfl⟩, call_meets F.slot_tuple_mul ⟨_, ho, rfl⟩ F.entry_tuple_mul (F.args_tuple_mul_2 _ _) (tup_mul0 l its.toArray n dd sl k t c0 c1 c2) ⟨ho, ?_⟩⟩)
  refine ⟨.ref s.heap.objs.size, _, I.laid (t' := s.toks) (o := .tup []) (fun b ob q => Heap.get?_push_of_some _ q) (Nat.le_refl _) ?_, rfl, q _ (I.hok.fresh (Nat.le_refl _))⟩
  exact ⟨Nat.zero_le _, _, .nil, IsTup.new _ _⟩
/-- int ** int, by bits -/
theorem op_powB : OpR X (binaryOp .Pow) (rI (fun i j => 0 ≤ j ∧ (Builtin.Int.intBits i : Int) * j ≤ 2 ^ 27) fun i j => .int (i ^ j.toNat)) := opI fun _ _ _ _ _ _ _ hc q => pow_int hc.1 hc.2 q
end
end Vi

set_option maxRecDepth 100000
set_option maxHeartbeats 4000000
namespace Vi
open PySem PySem.Spec PyProof.Rows L2
/-- what a reading asks of a result: Q of the value, W of an exception's class -/
def Fin (K : PySem.W.Frag) (O : Addr → Prop) (ρ : REnv) (σ : L2.St) (H : Hp) (W : WX) (Q : VK) (r : Option Rs) : Prop := match r with
  | none => False
  | some (.ok k dep d) => ∀ v H', Same H H' → Res K O ρ σ H H' k dep d v → Q v H'
  | some (.ex c) => ∀ H', Same H H' → W (.ref (He.ga K c)) none σ H'
def T (K : PySem.W.Frag) (cur : Cur) (g : G) (W : WX) (e : E) : TE := fun σ H Q => ∃ O ρ, StRel K cur O ρ σ H ∧ Fin K O ρ σ H W Q (ev g e ρ)
/-- the truth of it -/
def Tt (K : PySem.W.Frag) (cur : Cur) (g : G) (W : WX) (e : E) : TT := fun σ H Q => ∃ O ρ, StRel K cur O ρ σ H ∧ match ev g e ρ with
  | none => False
  | some (.ok _ _ d) => match truth d with
    | none => False
    | some b => ∀ H', Same H H' → Q b H'
  | some (.ex c) => ∀ H', Same H H' → W (.ref (He.ga K c)) none σ H'
/-- arguments -/
def Ta (K : PySem.W.Frag) (cur : Cur) (g : G) (W : WX) (e : E) : TA := fun σ H Q => ∃ O ρ, StRel K cur O ρ σ H ∧ match ev g e ρ with
  | none => False
  | some (.ok _ dep d) => ∃ ds, d = .tuple ds ∧ ∀ vs H', Same H H' → RepL K H' (Pm O ρ σ dep) ds vs → Q vs H'
  | some (.ex c) => ∀ H', Same H H' → W (.ref (He.ga K c)) none σ H'
section
variable {K : PySem.W.Frag} {cur : Cur} {g : G} {W : WX} {O : Addr → Prop} {ρ : REnv} {σ : L2.St} {H H1 : Hp} {Q : VK} {r : Option Rs}
theorem Res.back {k : Kd} {dep : List Nat} {d : D} {v : V} {H' : Hp} (s : Same H H1) (h : Res K O ρ σ H1 H' k dep d v) : Res K O ρ σ H H' k dep d v := by
  cases k with
  | fresh =>
    obtain ⟨p, xs, ds, e1, e2, n, r⟩ := h
    refine ⟨p, xs, ds, e1, e2, ?_, r⟩
    cases q : H p with
    | none => rfl
    | some u => rw [s p u q] at n; cases n
  | own i => exact h
  | via l => exact h
  | plain => exact h
theorem Fin.same (s : Same H H1) (h : Fin K O ρ σ H W Q r) : Fin K O ρ σ H1 W Q r := by
  cases r with
  | none => exact h
  | some x =>
    cases x with
    | ok fr dep d => exact fun v H' s' q => h v H' (same_trans s s') (q.back s)
    | ex c => exact fun H' s' => h H' (same_trans s s')
theorem Fin.val {dep : List Nat} {d : D} {v : V} (h : Fin K O ρ σ H W Q (some (.ok .plain dep d))) (q : Rep K H (Pm O ρ σ dep) d v) : Q v H := h v H same_refl q
/-- a new list -/
theorem Fin.lst {dep : List Nat} {ds : List D} {xs : List V} (R : StRel K cur O ρ σ H) (h : Fin K O ρ σ H W Q (some (.ok .fresh dep (.list ds)))) (q : RepL K H (Pm O ρ σ dep) ds xs) {p : Addr} (n : H p = none) : Q (.ref p) (upd H p (.lst xs)) := by
  refine h (.ref p) _ (same_upd n) ?_
  refine ⟨p, xs, ds, rfl, rfl, n, upd_same, RepL.stay (fun a u z r => ⟨⟨z, fun e => ?_⟩, Rd.same (same_upd n) r⟩) _ q⟩
  subst e
  exact Rd.dom r n
/-- a new tuple -/
theorem Fin.tup {dep : List Nat} {ds : List D} {xs : List V} (R : StRel K cur O ρ σ H) (h : Fin K O ρ σ H W Q (some (.ok .plain dep (.tuple ds)))) (q : RepL K H (Pm O ρ σ dep) ds xs) {p : Addr} (n : H p = none) : Q (.ref p) (upd H p (.tup xs)) :=
  h (.ref p) _ (same_upd n) (Rep.tup (.inl ⟨R.new n, .inl upd_same⟩) (RepL.stay (.same (same_upd n) fun _ z => z) _ q))
/-- first one part, then what follows -/
theorem T.bind {a : E} {k : Kd → List Nat → D → Option Rs} {Gl : VK} (R : StRel K cur O ρ σ H) (h : Fin K O ρ σ H W Q (Rs.map2 (ev g a ρ) k))
    (hk : ∀ fr dep d v H1, StRel K cur O ρ σ H1 → Same H H1 → Res K O ρ σ H H1 fr dep d v → Fin K O ρ σ H1 W Q (k fr dep d) → Gl v H1) : T K cur g W a σ H Gl := by
  refine ⟨O, ρ, R, ?_⟩
  cases e : ev g a ρ with
  | none => rw [e] at h; exact h
  | some x =>
    rw [e] at h
    cases x with
    | ok fr dep d => exact fun v H' s q => hk fr dep d v H' (R.same s) s q (Fin.same s h)
    | ex c => exact h
theorem T.imp {X : Cx} {e : Expr} {t t' : TE} (h : PE X e t) (i : ∀ σ H Q, t' σ H Q → t σ H Q) : PE X e t' := ⟨fun pins s σ H Q I w => h.run pins s σ H Q I (i _ _ _ w)⟩
theorem Tt.imp {X : Cx} {e : Expr} {t t' : TT} (h : PT X e t) (i : ∀ σ H Q, t' σ H Q → t σ H Q) : PT X e t' := ⟨fun pins s σ H Q I w => h.run pins s σ H Q I (i _ _ _ w)⟩
theorem Ta.imp {X : Cx} {e : List Expr} {t t' : TA} (h : PA X e t) (i : ∀ σ H Q, t' σ H Q → t σ H Q) : PA X e t' := ⟨fun pos pins s σ H Q I w => h.run pos pins s σ H Q I (i _ _ _ w)⟩
theorem OpR.imp {X : Cx} {f : Value → Value → Sem Value} {r r' : R2} (h : OpR X f r) (i : ∀ x y H Q, r' x y H Q → r x y H Q) : OpR X f r' := fun pins s σ H x y v u Q I rx ry q => h pins s σ H x y v u Q I rx ry (i _ _ _ _ q)
end
/-- what a def of the meaning F promises -/
def spF (K : PySem.W.Frag) (F : Fn) : Sp := fun vs H Q E => ∃ (O : Addr → Prop) (ds : List D) (r : Rf), (∀ a, O a → H a ≠ none) ∧ RepL K H (fun a => ¬ O a) ds vs ∧ F ds = some r ∧ match r with
  | .ret d => ∀ v H', Same H H' → Rep K H' (fun a => ¬ O a) d v → Q v H'
  | .lst l => ∀ v H', Same H H' → (∃ p xs, v = .ref p ∧ H p = none ∧ H' p = some (.lst xs) ∧ RepL K H' (fun a => ¬ O a ∧ a ≠ p) l xs) → Q v H'
  | .ex c => ∀ H', Same H H' → E (.ref (He.ga K c)) none H'
def bltNames : List Str := ["len", "range", "isinstance", "int", "bool", "str", "tuple", "list", "sum", "sorted", "max", "min", "zip", "enumerate", "ValueError"]
/-- a def as a caller finds it -/
structure FnAt (X : Cx) (nm : Str) (F : Fn) : Prop where
  ex : ∃ (a : Addr) (fd : FuncData) (ps : List Str) (j : Nat), FnOk X.prog X.w X.K X.mg X.base (L2.CX X.prog X.w) j a fd ps (spF X.K F) ∧ Room j X.A ∧ X.mg nm = some (.ref a) ∧ PySem.W.keepIn X.K (.ref a) = true ∧ Binds X.K fd ps []
/-- what the code runs in -/
structure Cxt (X : Cx) (N : List Str) (sc : Scope) (cm : Bool) (cur : Cur) (g : G) (W : WX) : Prop where
  hN : X.N = N
  nd : N.Nodup
  hsc : X.env.scope = sc
  calm : cm = true → X.calm = true
  tk : Takes X W
  hu : X.A.units + 65 < cLine
  fns : cm = true → ∀ (k : Nat) (nm : Str) (F : Fn), g.fns[k]? = some (nm, F) → FnAt X nm F
  blt : ∀ x ∈ bltNames, X.mg x = none
  consts : ∀ (x : Str) (d : D), g.consts.lookup x = some d → ∃ v u, X.mg x = some u ∧ RelV v u ∧ ∀ H P, Rep X.K H P d v
  isx : ∀ (a : Addr) (x c : Str) (b : Bool), cur = some (a, x) → g.isx.lookup (x, c) = some b → CallR X (.builtin "isinstance") (rIsE X.K (He.ga X.K x) a)
  isk : ∀ (x c : Str) (b : Bool), g.isx.lookup (x, c) = some b → ∃ (v : V) (u : Value), ((X.mg c = some u) ∨ (X.mg c = none ∧ bootBuiltins c = some u ∧ c ≠ "__name__")) ∧ RelV v u ∧ (∀ z, RelV v z → z = u) ∧ PySem.W.kitOne X.K (.ref (He.ga X.K x)) u = some b
section
variable {X : Cx} {N : List Str} {sc : Scope} {cm : Bool} {cur : Cur} {g : G} {W : WX}
theorem t_var {i : Nat} {x : Str} {pos : Pos} (C : Cxt X N sc cm cur g W) (hi : N[i]? = some x) (hv : Vis sc x) (hd : (x == ("__debug__" : Str)) = false) (hcd : (x == ("__classdict__" : Str)) = false) :
    PE X (.Name x pos) (T X.K cur g W (.var i)) := by
  refine T.imp (pe_var (i := i) (by rw [C.hN]; exact hi) (by rw [C.hsc]; exact hv) hd hcd) ?_
  rintro σ H Q ⟨O, ρ, R, h⟩
  have h' : Fin X.K O ρ σ H W Q (match ρ[i]? with
    | some (.val d) => some (.ok .plain [] d)
    | some (.own ds) => some (.ok (.own i) [] (.list ds))
    | _ => none) := h
  split at h'
  · rename_i d e
    obtain ⟨v, e1, r⟩ := R.val i d e
    exact ⟨v, e1, h'.val r⟩
  · rename_i ds e
    obtain ⟨a, xs, e1, e2, n, r⟩ := R.own i ds e
    exact ⟨_, e1, h' _ H same_refl ⟨a, xs, ds, rfl, e, rfl, e1, e2, r⟩⟩
  · exact h'.elim
theorem t_int {n : Int} {j : Nat} {pos : Pos} : PE X (.Constant (.int n) j pos) (T X.K cur g W (.int n)) := T.imp pe_int fun σ H Q ⟨O, ρ, R, h⟩ => Fin.val h (.int n)
theorem t_bl {n : Bool} {j : Nat} {pos : Pos} : PE X (.Constant (.bool n) j pos) (T X.K cur g W (.bl n)) := T.imp pe_bl fun σ H Q ⟨O, ρ, R, h⟩ => Fin.val h (.bl n)
theorem t_non {j : Nat} {pos : Pos} : PE X (.Constant .none j pos) (T X.K cur g W .non) := T.imp pe_non fun σ H Q ⟨O, ρ, R, h⟩ => Fin.val h .non
theorem t_str {n : Str} {j : Nat} {pos : Pos} : PE X (.Constant (.str n) j pos) (T X.K cur g W (.str n)) := T.imp pe_str fun σ H Q ⟨O, ρ, R, h⟩ => Fin.val h (.str n)
/-- two parts -/
theorem t_two {a b : E} {k : Kd → List Nat → D → Kd → List Nat → D → Option Rs} {Gl : V → V → Hp → Prop} {K : PySem.W.Frag} {O : Addr → Prop} {ρ : REnv} {σ : L2.St} {H : Hp} {Q : VK} (R : StRel K cur O ρ σ H)
    (h : Fin K O ρ σ H W Q (Rs.map2 (ev g a ρ) fun ka da x => Rs.map2 (ev g b ρ) fun kb db y => k ka da x kb db y))
    (hk : ∀ ka da x kb db y v u H1 H2, StRel K cur O ρ σ H1 → StRel K cur O ρ σ H2 → Same H H1 → Same H1 H2 → Res K O ρ σ H H2 ka da x v → Res K O ρ σ H1 H2 kb db y u → Fin K O ρ σ H2 W Q (k ka da x kb db y) → Gl v u H2) :
    T K cur g W a σ H fun v H1 => T K cur g W b σ H1 fun u H2 => Gl v u H2 :=
  T.bind R h fun ka da x v H1 R1 s1 r1 h1 => T.bind R1 h1 fun kb db y u H2 R2 s2 r2 h2 => hk ka da x kb db y v u H1 H2 R1 R2 s1 s2 (r1.stay s2) r2 h2
end
end Vi

set_option maxRecDepth 100000
set_option maxHeartbeats 4000000
namespace Vi
open PySem PySem.Spec PyProof.Rows L2
section
variable {K : PySem.W.Frag} {cur : Cur} {g : G} {W : WX} {O : Addr → Prop} {ρ : REnv} {σ : L2.St} {H H' : Hp} {Q : VK} {k : Kd} {dep : List Nat} {v : V}
theorem Res.int (h : Res K O ρ σ H H' k dep (.int i) v) : v = .int i := by
  cases k with
  | fresh => obtain ⟨p, xs, ds, e0, _⟩ := h; cases e0
  | own i => obtain ⟨a, xs, ds, e0, _⟩ := h; cases e0
  | via l => exact h.elim
  | plain => cases (show Rep K H' (Pm O ρ σ dep) (.int _) v from h); rfl
theorem Res.bool {b : Bool} (h : Res K O ρ σ H H' k dep (.bool b) v) : v = .bl b := by
  cases k with
  | fresh => obtain ⟨p, xs, ds, e0, _⟩ := h; cases e0
  | own i => obtain ⟨a, xs, ds, e0, _⟩ := h; cases e0
  | via l => exact h.elim
  | plain => cases (show Rep K H' (Pm O ρ σ dep) (.bool _) v from h); rfl
theorem Res.str {z : Str} (h : Res K O ρ σ H H' k dep (.str z) v) : v = .str z := by
  cases k with
  | fresh => obtain ⟨p, xs, ds, e0, _⟩ := h; cases e0
  | own i => obtain ⟨a, xs, ds, e0, _⟩ := h; cases e0
  | via l => exact h.elim
  | plain => cases (show Rep K H' (Pm O ρ σ dep) (.str _) v from h); rfl
theorem Res.non (h : Res K O ρ σ H H' k dep .none v) : v = .non := by
  cases k with
  | fresh => obtain ⟨p, xs, ds, e0, _⟩ := h; cases e0
  | own i => obtain ⟨a, xs, ds, e0, _⟩ := h; cases e0
  | via l => exact h.elim
  | plain => cases (show Rep K H' (Pm O ρ σ dep) .none v from h); rfl
theorem Fin.ite {c : Prop} [Decidable c] {r : Rs} (h : Fin K O ρ σ H W Q ((if c then some x else none).map f)) : c ∧ Fin K O ρ σ H W Q (some (f x)) := by
  by_cases q : c
  · rw [if_pos q] at h; exact ⟨q, h⟩
  · rw [if_neg q] at h; exact h.elim
theorem RepL.lr {P : Addr → Prop} {da db : List Nat} {ds es : List D} {vs ws : List V} (h : RepL K H (Pm O ρ σ da) ds vs) (h' : RepL K H (Pm O ρ σ db) es ws) : RepL K H (Pm O ρ σ (da ++ db)) (ds ++ es) (vs ++ ws) :=
  (RepL.stay (fun a u p r => ⟨p.mono fun i z => List.mem_append_left _ z, r⟩) _ h).append (RepL.stay (fun a u p r => ⟨p.mono fun i z => List.mem_append_right _ z, r⟩) _ h')
end
section
variable {X : Cx} {N : List Str} {sc : Scope} {cm : Bool} {cur : Cur} {g : G} {W : WX} {a b : Expr} {ea eb : E} {pos : Pos}
theorem t_add (ha : PE X a (T X.K cur g W ea)) (hb : PE X b (T X.K cur g W eb)) : PE X (.BinOp a .Add b pos) (T X.K cur g W (.bin .add ea eb)) := by
  refine T.imp (pe_op (op_add.or (op_catT0.or (op_catT.or (op_catLS.or op_add_str)))) ha hb) ?_
  rintro σ H Q ⟨O, ρ, R, h⟩
  refine t_two (k := fun ka da x _ db y => (binop ka .add x y).map fun r => .ok r.1 (depOf r.2 (da ++ db)) r.2) R h fun ka da x kb db y v u H1 H2 R1 R2 s1 s2 r1 r2 q => ?_
  cases x with
  | int i =>
    cases y with
    | int j =>
      obtain rfl := r1.int
      obtain rfl := r2.int
      exact .inl ⟨i, j, rfl, rfl, Fin.val q (.int _)⟩
    | _ => exact q.elim
  | tuple l =>
    cases y with
    | tuple m =>
      obtain ⟨hz, q⟩ := Fin.ite (r := .ex "") q
      obtain ⟨pa, xs, rfl, qa, la⟩ := r1.tup
      obtain ⟨pb, ys, rfl, qb, lb⟩ := r2.tup
      have e1 := la.length
      have e2 := lb.length
      by_cases hx : xs = []
      · subst hx
        cases l with
        | cons _ _ => cases la
        | nil =>
          refine .inr (.inl ⟨pa, pb, ys, rfl, rfl, qa.sqt, qb.sqt, Fin.val q (.tup (qb.stay fun a u p r => ⟨p.mono fun i z => List.mem_append_right _ z, r⟩) (RepL.stay (fun a u p r => ⟨p.mono fun i z => List.mem_append_right _ z, r⟩) _ lb))⟩)
      · refine .inr (.inr (.inl ⟨pa, pb, xs, ys, rfl, rfl, qa.sqt, qb.sqt, hx, by omega, fun z => ?_, fun z p n => ?_⟩))
        · subst z
          cases m with
          | cons _ _ => cases lb
          | nil =>
            refine Fin.val q ?_
            rw [List.append_nil]
            exact .tup (qa.stay fun a u p r => ⟨p.mono fun i z => List.mem_append_left _ z, r⟩) (RepL.stay (fun a u p r => ⟨p.mono fun i z => List.mem_append_left _ z, r⟩) _ la)
        · exact Fin.tup R2 q (RepL.lr (P := fun _ => True) la lb) n
    | _ => exact q.elim
  | list l =>
    cases y with
    | list m =>
      obtain ⟨hz, q⟩ := Fin.ite (r := .ex "") q
      obtain ⟨pa, xs, rfl, qa, la⟩ := r1.list R (same_trans s1 s2)
      obtain ⟨pb, ys, rfl, qb, lb⟩ := r2.list R1 s2
      have e1 := la.length
      have e2 := lb.length
      exact .inr (.inr (.inr (.inl ⟨pa, pb, xs, ys, rfl, rfl, qa, qb, by omega, fun p n => Fin.lst R2 q (RepL.lr (P := fun _ => True) la lb) n⟩)))
    | _ => exact q.elim
  | str l =>
    cases y with
    | str m =>
      obtain ⟨hz, q⟩ := Fin.ite (r := .ex "") q
      obtain rfl := r1.str
      obtain rfl := r2.str
      exact .inr (.inr (.inr (.inr ⟨l, m, rfl, rfl, hz, Fin.val q (.str _)⟩)))
    | _ => exact q.elim
  | _ => exact q.elim
end
end Vi

set_option maxRecDepth 100000
set_option maxHeartbeats 4000000
namespace Vi
open PySem PySem.Spec PyProof.Rows L2
section
variable {X : Cx}
theorem op_inTD (hu : X.A.units + 65 < cLine) : OpR X (compareOp .In) (fun x y H Q => ∃ d ds, Dp X.K H x d ∧ Dp X.K H y (.tuple ds) ∧ SeqAt.shaped d = true ∧ SeqAt.shaped (.tuple ds) = true ∧ Q (.bl (ds.any fun z => PyData.eqv z d)) H) := by
  intro pins s σ H x y v u Q I rx ry h
  obtain ⟨d, ds, hd, he, sd, se, q⟩ := h
  obtain ⟨as, r1⟩ := Dp.reads I d x v hd rx
  obtain ⟨bs, r2⟩ := Dp.reads I (.tuple ds) y u he ry
  exact SeqAt.in_tuple_reads r2 r1 (SeqAt.canLay_of_shaped se) (SeqAt.canLay_of_shaped sd) (room_in_shaped sd hu) ⟨.bl _, H, I, rfl, q⟩
theorem op_notInTD (hu : X.A.units + 65 < cLine) : OpR X (compareOp .NotIn) (fun x y H Q => ∃ d ds, Dp X.K H x d ∧ Dp X.K H y (.tuple ds) ∧ SeqAt.shaped d = true ∧ SeqAt.shaped (.tuple ds) = true ∧ Q (.bl (!ds.any fun z => PyData.eqv z d)) H) := by
  intro pins s σ H x y v u Q I rx ry h
  obtain ⟨d, ds, hd, he, sd, se, q⟩ := h
  obtain ⟨as, r1⟩ := Dp.reads I d x v hd rx
  obtain ⟨bs, r2⟩ := Dp.reads I (.tuple ds) y u he ry
  exact SeqAt.notIn_tuple_reads r2 r1 (SeqAt.canLay_of_shaped se) (SeqAt.canLay_of_shaped sd) (room_in_shaped sd hu) ⟨.bl _, H, I, rfl, q⟩
end
/-! ### arithmetic -/
section
variable {X : Cx} {N : List Str} {sc : Scope} {cm : Bool} {cur : Cur} {g : G} {W : WX} {a b c : Expr} {ea eb ec : E} {pos : Pos}
theorem t_sub (ha : PE X a (T X.K cur g W ea)) (hb : PE X b (T X.K cur g W eb)) : PE X (.BinOp a .Sub b pos) (T X.K cur g W (.bin .sub ea eb)) := by
  refine T.imp (pe_op op_sub ha hb) ?_
  rintro σ H Q ⟨O, ρ, R, h⟩
  refine t_two (k := fun ka da x _ db y => (binop ka .sub x y).map fun r => .ok r.1 (depOf r.2 (da ++ db)) r.2) R h fun ka da x kb db y v u H1 H2 R1 R2 s1 s2 r1 r2 q => ?_
  cases x with
  | int i =>
    cases y with
    | int j =>
      obtain rfl := r1.int
      obtain rfl := r2.int
      exact ⟨i, j, rfl, rfl, Fin.val q (.int _)⟩
    | _ => exact q.elim
  | _ => exact q.elim
theorem t_mod (ha : PE X a (T X.K cur g W ea)) (hb : PE X b (T X.K cur g W eb)) : PE X (.BinOp a .Mod b pos) (T X.K cur g W (.bin .mod ea eb)) := by
  refine T.imp (pe_op op_mod ha hb) ?_
  rintro σ H Q ⟨O, ρ, R, h⟩
  refine t_two (k := fun ka da x _ db y => (binop ka .mod x y).map fun r => .ok r.1 (depOf r.2 (da ++ db)) r.2) R h fun ka da x kb db y v u H1 H2 R1 R2 s1 s2 r1 r2 q => ?_
  cases x with
  | int i =>
    cases y with
    | int j =>
      obtain ⟨hz, q⟩ := Fin.ite (r := .ex "") q
      obtain rfl := r1.int
      obtain rfl := r2.int
      exact ⟨i, j, rfl, rfl, hz, Fin.val q (.int _)⟩
    | _ => exact q.elim
  | _ => exact q.elim
theorem t_fdiv (ha : PE X a (T X.K cur g W ea)) (hb : PE X b (T X.K cur g W eb)) : PE X (.BinOp a .FloorDiv b pos) (T X.K cur g W (.bin .fdiv ea eb)) := by
  refine T.imp (pe_op op_fdiv ha hb) ?_
  rintro σ H Q ⟨O, ρ, R, h⟩
  refine t_two (k := fun ka da x _ db y => (binop ka .fdiv x y).map fun r => .ok r.1 (depOf r.2 (da ++ db)) r.2) R h fun ka da x kb db y v u H1 H2 R1 R2 s1 s2 r1 r2 q => ?_
  cases x with
  | int i =>
    cases y with
    | int j =>
      obtain ⟨hz, q⟩ := Fin.ite (r := .ex "") q
      obtain rfl := r1.int
      obtain rfl := r2.int
      exact ⟨i, j, rfl, rfl, hz, Fin.val q (.int _)⟩
    | _ => exact q.elim
  | _ => exact q.elim
theorem t_pow (ha : PE X a (T X.K cur g W ea)) (hb : PE X b (T X.K cur g W eb)) : PE X (.BinOp a .Pow b pos) (T X.K cur g W (.bin .pow ea eb)) := by
  refine T.imp (pe_op op_powB ha hb) ?_
  rintro σ H Q ⟨O, ρ, R, h⟩
  refine t_two (k := fun ka da x _ db y => (binop ka .pow x y).map fun r => .ok r.1 (depOf r.2 (da ++ db)) r.2) R h fun ka da x kb db y v u H1 H2 R1 R2 s1 s2 r1 r2 q => ?_
  cases x with
  | int i =>
    cases y with
    | int j =>
      obtain ⟨hz, q⟩ := Fin.ite (r := .ex "") q
      obtain rfl := r1.int
      obtain rfl := r2.int
      exact ⟨i, j, rfl, rfl, hz, Fin.val q (.int _)⟩
    | _ => exact q.elim
  | _ => exact q.elim
theorem t_mul (ha : PE X a (T X.K cur g W ea)) (hb : PE X b (T X.K cur g W eb)) : PE X (.BinOp a .Mult b pos) (T X.K cur g W (.bin .mul ea eb)) := by
  refine T.imp (pe_op (op_mul.or (op_repT1.or (op_repT0.or (op_repT.or op_rep)))) ha hb) ?_
  rintro σ H Q ⟨O, ρ, R, h⟩
  refine t_two (k := fun ka da x _ db y => (binop ka .mul x y).map fun r => .ok r.1 (depOf r.2 (da ++ db)) r.2) R h fun ka da x kb db y v u H1 H2 R1 R2 s1 s2 r1 r2 q => ?_
  have up : ∀ {ds : List D} {xs : List V}, RepL X.K H2 (Pm O ρ σ da) ds xs → RepL X.K H2 (Pm O ρ σ (da ++ db)) ds xs := fun h => RepL.stay (fun a u p r => ⟨p.mono fun i z => List.mem_append_left _ z, r⟩) _ h
  cases x with
  | int i =>
    cases y with
    | int j =>
      obtain ⟨hz, q⟩ := Fin.ite (r := .ex "") q
      obtain rfl := r1.int
      obtain rfl := r2.int
      exact .inl ⟨i, j, rfl, rfl, hz, Fin.val q (.int _)⟩
    | _ => exact q.elim
  | tuple l =>
    cases y with
    | int j =>
      obtain ⟨hz, q⟩ := Fin.ite (r := .ex "") q
      obtain ⟨pa, xs, rfl, qa, la⟩ := r1.tup
      obtain rfl := r2.int
      have e1 := la.length
      have fl : RepL X.K H2 (Pm O ρ σ (da ++ db)) (List.replicate j.toNat l).flatten (List.replicate j.toNat xs).flatten := RepL.flat _ (up la)
      have qa' : QT X.K H2 (Pm O ρ σ (da ++ db)) pa xs := qa.stay fun a u p r => ⟨p.mono fun i z => List.mem_append_left _ z, r⟩
      by_cases hx : xs = []
      · subst hx
        cases l with
        | cons _ _ => cases la
        | nil =>
          refine .inr (.inl ⟨pa, j, [], rfl, rfl, qa.sqt, hz.2.2, hz.2.1, .inl rfl, Fin.val q ?_⟩)
          have e : (List.replicate j.toNat ([] : List D)).flatten = [] := by simp
          rw [e]
          exact .tup qa' .nil
      · by_cases h1 : j = 1
        · subst h1
          refine .inr (.inl ⟨pa, 1, xs, rfl, rfl, qa.sqt, hz.2.2, hz.2.1, .inr rfl, Fin.val q ?_⟩)
          have e : (List.replicate (1 : Int).toNat l).flatten = l := by simp
          rw [e]
          exact .tup qa' (up la)
        · by_cases h0 : j ≤ 0
          · refine .inr (.inr (.inl ⟨pa, j, xs, rfl, rfl, qa.sqt, hz.2.2, h0, hx, fun p n => ?_⟩))
            have e : (List.replicate j.toNat l).flatten = [] := by
              rw [show j.toNat = 0 by omega]; rfl
            rw [e] at q
            exact Fin.tup R2 q .nil n
          · exact .inr (.inr (.inr (.inl ⟨pa, j, xs, rfl, rfl, qa.sqt, hx, by omega, hz.2.1, by omega, fun p n => Fin.tup R2 q fl n⟩)))
    | _ => exact q.elim
  | list l =>
    cases y with
    | int j =>
      obtain ⟨hz, q9⟩ := Fin.ite (r := .ex "") q
      clear q
      obtain ⟨hk, hl, hj, hj'⟩ := hz
      subst hk
      obtain ⟨p, xs, ds, e0, rfl, n, e, r⟩ := r1
      cases e0
      obtain rfl := r2.int
      have la : RepL X.K H2 (Pm O ρ σ da) l xs := RepL.stay (fun a u p r => ⟨p.1, r⟩) _ r
      have e1 := la.length
      refine .inr (.inr (.inr (.inr ⟨p, j, xs, rfl, rfl, e, by omega, by omega, ?_, fun p' n' => Fin.lst R2 q9 (RepL.flat _ (up la)) n'⟩)))
      rw [sizeLine_eq]
      have a1 : xs.length * j.toNat ≤ 1000 * 1000 := Nat.mul_le_mul (by omega) (by omega)
      omega
    | _ => exact q.elim
  | _ => exact q.elim
theorem t_neg (ha : PE X a (T X.K cur g W ea)) : PE X (.UnaryOp .USub a pos) (T X.K cur g W (.neg ea)) := by
  refine T.imp (pe_un un_neg ha) ?_
  rintro σ H Q ⟨O, ρ, R, h⟩
  refine T.bind R h fun k dep d v H1 R1 s1 r1 q => ?_
  cases d with
  | int i =>
    obtain rfl := r1.int
    exact ⟨i, rfl, Fin.val q (.int _)⟩
  | _ => exact q.elim
end
end Vi

set_option maxRecDepth 100000
set_option maxHeartbeats 4000000
namespace Vi
open PySem PySem.Spec PyProof.Rows L2
/-- what a test's reading asks -/
def FinT (K : PySem.W.Frag) (σ : L2.St) (H : Hp) (W : WX) (Q : Bool → Hp → Prop) (r : Option Rs) : Prop := match r with
  | none => False
  | some (.ok _ _ d) => match truth d with
    | none => False
    | some b => ∀ H', Same H H' → Q b H'
  | some (.ex c) => ∀ H', Same H H' → W (.ref (He.ga K c)) none σ H'
section
variable {K : PySem.W.Frag} {cur : Cur} {g : G} {W : WX} {O : Addr → Prop} {ρ : REnv} {σ : L2.St} {H H1 H' : Hp} {Q : VK} {QT : Bool → Hp → Prop} {r : Option Rs} {k : Kd} {dep : List Nat} {d : D} {v : V}
theorem FinT.same (s : Same H H1) (h : FinT K σ H W QT r) : FinT K σ H1 W QT r := by
  cases r with
  | none => exact h
  | some x =>
    cases x with
    | ok k dep d =>
      have h : match truth d with
        | none => False
        | some b => ∀ H', Same H H' → QT b H' := h
      show match truth d with
        | none => False
        | some b => ∀ H', Same H1 H' → QT b H'
      cases e : truth d with
      | none => rw [e] at h; exact h
      | some b => rw [e] at h; exact fun H' s' => h H' (same_trans s s')
    | ex c => exact fun H' s' => h H' (same_trans s s')
theorem FinT.bool {b : Bool} (h : FinT K σ H W QT (some (.ok k dep (.bool b)))) : QT b H := h H same_refl
theorem T.bindT {a : E} {f : Kd → List Nat → D → Option Rs} {Gl : VK} (R : StRel K cur O ρ σ H) (h : FinT K σ H W QT (Rs.map2 (ev g a ρ) f))
    (hk : ∀ k dep d v H1, StRel K cur O ρ σ H1 → Same H H1 → Res K O ρ σ H H1 k dep d v → FinT K σ H1 W QT (f k dep d) → Gl v H1) : T K cur g W a σ H Gl := by
  refine ⟨O, ρ, R, ?_⟩
  cases e : ev g a ρ with
  | none => rw [e] at h; exact h
  | some x =>
    rw [e] at h
    cases x with
    | ok k dep d => exact fun v H' s q => hk k dep d v H' (R.same s) s q (FinT.same s h)
    | ex c => exact h
theorem t_twoT {a b : E} {f : Kd → List Nat → D → Kd → List Nat → D → Option Rs} {Gl : V → V → Hp → Prop} (R : StRel K cur O ρ σ H)
    (h : FinT K σ H W QT (Rs.map2 (ev g a ρ) fun ka da x => Rs.map2 (ev g b ρ) fun kb db y => f ka da x kb db y))
    (hk : ∀ ka da x kb db y v u H1 H2, StRel K cur O ρ σ H1 → StRel K cur O ρ σ H2 → Same H H1 → Same H1 H2 → Res K O ρ σ H H2 ka da x v → Res K O ρ σ H1 H2 kb db y u → FinT K σ H2 W QT (f ka da x kb db y) → Gl v u H2) :
    T K cur g W a σ H fun v H1 => T K cur g W b σ H1 fun u H2 => Gl v u H2 :=
  T.bindT R h fun ka da x v H1 R1 s1 r1 h1 => T.bindT R1 h1 fun kb db y u H2 R2 s2 r2 h2 => hk ka da x kb db y v u H1 H2 R1 R2 s1 s2 (r1.stay s2) r2 h2
/-- a value's truth -/
theorem Res.tru (R : StRel K cur O ρ σ H) (s : Same H H') (h : Res K O ρ σ H H' k dep d v) {b : Bool} (e : truth d = some b) : TruV K v H' b := by
  cases d with
  | none => obtain rfl := h.non; cases e; rfl
  | bool x => obtain rfl := h.bool; cases e; rfl
  | int i => obtain rfl := h.int; cases e; rfl
  | str z =>
    obtain rfl := h.str
    have e : (if z.length ≤ sizeLine then some ((z.length : Int) != 0) else none) = some b := e
    by_cases hz : z.length ≤ sizeLine
    · rw [if_pos hz] at e; cases e; exact ⟨hz, rfl⟩
    · rw [if_neg hz] at e; cases e
  | list l =>
    obtain ⟨a, xs, rfl, q, r⟩ := h.list R s
    cases e
    refine .inl ⟨xs, q, ?_⟩
    cases r <;> rfl
  | tuple l =>
    obtain ⟨a, xs, rfl, q, r⟩ := h.tup
    cases e
    refine .inr (.inl ⟨xs, q.sqt, ?_⟩)
    cases r <;> rfl
  | dict _ => cases e
/-- through a value -/
theorem Tt.of_T {e : E} (h : Tt K cur g W e σ H QT) : T K cur g W e σ H fun x H1 => ∃ b, TruV K x H1 b ∧ QT b H1 := by
  obtain ⟨O, ρ, R, h⟩ := h
  refine ⟨O, ρ, R, ?_⟩
  cases e1 : ev g e ρ with
  | none => rw [e1] at h; exact h
  | some x =>
    rw [e1] at h
    cases x with
    | ok k dep d =>
      intro v H' s q
      have h : match truth d with
        | none => False
        | some b => ∀ H', Same H H' → QT b H' := h
      cases e : truth d with
      | none => rw [e] at h; exact h.elim
      | some b => rw [e] at h; exact ⟨b, q.tru R s e, h H' s⟩
    | ex c => exact h
end
section
variable {X : Cx} {N : List Str} {sc : Scope} {cm : Bool} {cur : Cur} {g : G} {W : WX} {a b c : Expr} {ea eb ec : E} {pos : Pos}
/-- which expressions are tests by their value -/
def plainT : Expr → Bool
  | .UnaryOp .Not _ _ => false
  | .BoolOp _ _ _ => false
  | .IfExp _ _ _ _ => false
  | .Compare _ _ _ _ => false
  | _ => true
theorem plainT_eq {a : Expr} (h : plainT a = true) (env : PySem.Env) (whole : Sem Value) : PySem.isTrue a env whole = (do let v ← whole; standAt a.pos; holding [v] (truthy v)) := by
  unfold plainT at h
  split at h
  · cases h
  · cases h
  · cases h
  · cases h
  · rename_i h1 h2 h3 h4
    unfold PySem.isTrue
    split
    · exact absurd rfl (h1 _ _)
    · exact absurd rfl (h2 _ _ _)
    · exact absurd rfl (h3 _ _ _ _)
    · exact absurd rfl (h4 _ _ _ _)
    · rfl
theorem tt_val (ha : PE X a (T X.K cur g W ea)) (hp : plainT a = true) : PT X a (Tt X.K cur g W ea) :=
  Tt.imp (pt_truth ha (fun w => plainT_eq hp _ w)) fun σ H Q h => Tt.of_T h
/-! ### comparisons -/
structure CmpR (X : Cx) (op : CmpOp) (c : Cm) : Prop where
  ex : ∃ r : R2, OpR X (compareOp op) r ∧ ∀ (d e : D) (v u : V) (H : Hp) (P P' : Addr → Prop) (b : Bool) (Q : VK), Rep X.K H P d v → Rep X.K H P' e u → cmpop c d e = some b → Q (.bl b) H → r v u H Q
theorem ite_some {c : Prop} [Decidable c] {x y : Bool} (h : (if c then some x else none) = some y) : c ∧ x = y := by
  by_cases q : c
  · rw [if_pos q] at h; exact ⟨q, Option.some.inj h⟩
  · rw [if_neg q] at h; cases h
theorem bb {a b : Bool} (h : (a && b) = true) : a = true ∧ b = true := Bool.and_eq_true_iff.mp h
theorem cmp_eq (hu : X.A.units + 65 < cLine) : CmpR X .Eq .eq := ⟨_, op_eqD (by omega), fun d e v u H P P' b Q r1 r2 h q => by
  obtain ⟨h1, rfl⟩ := ite_some h
  exact ⟨d, e, r1.dp, r2.dp, (bb h1).1, (bb h1).2, q⟩⟩
theorem cmp_ne (hu : X.A.units + 65 < cLine) : CmpR X .NotEq .ne := ⟨_, op_neD (by omega), fun d e v u H P P' b Q r1 r2 h q => by
  obtain ⟨h1, rfl⟩ := ite_some h
  exact ⟨d, e, r1.dp, r2.dp, (bb h1).1, (bb h1).2, q⟩⟩
theorem cmp_int {op : CmpOp} {c : Cm} {f : Int → Int → Bool} (h0 : OpR X (compareOp op) (rI0 fun i j => .bl (f i j))) (h1 : ∀ d e b, cmpop c d e = some b → ∃ i j, d = .int i ∧ e = .int j ∧ f i j = b) : CmpR X op c := ⟨_, h0, fun d e v u H P P' b Q r1 r2 h q => by
  obtain ⟨i, j, rfl, rfl, rfl⟩ := h1 d e b h
  cases r1
  cases r2
  exact ⟨i, j, rfl, rfl, q⟩⟩
theorem cmp_lt : CmpR X .Lt .lt := cmp_int op_lt fun d e b h => by
  cases d <;> first | cases h | (cases e <;> first | exact ⟨_, _, rfl, rfl, Option.some.inj h⟩ | cases h)
theorem cmp_le : CmpR X .LtE .le := cmp_int op_le fun d e b h => by
  cases d <;> first | cases h | (cases e <;> first | exact ⟨_, _, rfl, rfl, Option.some.inj h⟩ | cases h)
theorem cmp_gt : CmpR X .Gt .gt := cmp_int op_gt fun d e b h => by
  cases d <;> first | cases h | (cases e <;> first | exact ⟨_, _, rfl, rfl, Option.some.inj h⟩ | cases h)
theorem cmp_ge : CmpR X .GtE .ge := cmp_int op_ge fun d e b h => by
  cases d <;> first | cases h | (cases e <;> first | exact ⟨_, _, rfl, rfl, Option.some.inj h⟩ | cases h)
theorem cmp_isn : CmpR X .Is .isn := ⟨_, op_isN, fun d e v u H P P' b Q r1 r2 h q => by
  cases e <;> first | cases h | skip
  cases r2
  refine ⟨rfl, ?_⟩
  cases d <;> cases r1 <;> simpa using q⟩
theorem cmp_notn : CmpR X .IsNot .notn := ⟨_, op_notN, fun d e v u H P P' b Q r1 r2 h q => by
  cases e <;> first | cases h | skip
  cases r2
  refine ⟨rfl, ?_⟩
  cases d <;> cases r1 <;> simpa using q⟩
theorem sign_of {y : Str} (h : y.cps.size = 1) : y = ⟨#[y.cps.getD 0 0]⟩ := by
  obtain ⟨⟨l⟩⟩ := y
  match l, h with
  | [c], _ => rfl
theorem cmp_in (hu : X.A.units + 65 < cLine) : CmpR X .In .inn := ⟨_, (op_inD hu).or ((op_inTD hu).or op_in_sign), fun d e v u H P P' b Q r1 r2 h q => by
  cases e with
  | list l =>
    obtain ⟨h1, rfl⟩ := ite_some h
    exact .inl ⟨d, l, r1.dp, r2.dp, (bb h1).1, (bb h1).2, q⟩
  | tuple l =>
    obtain ⟨h1, rfl⟩ := ite_some h
    exact .inr (.inl ⟨d, l, r1.dp, r2.dp, (bb h1).1, (bb h1).2, q⟩)
  | str z =>
    cases d with
    | str y =>
      obtain ⟨h1, rfl⟩ := ite_some h
      cases r1
      cases r2
      exact .inr (.inr ⟨y.cps.getD 0 0, z, by rw [← sign_of h1], rfl, q⟩)
    | _ => cases h
  | _ => cases h⟩
theorem cmp_nin (hu : X.A.units + 65 < cLine) : CmpR X .NotIn .nin := ⟨_, (op_notInD hu).or ((op_notInTD hu).or op_notIn_sign), fun d e v u H P P' b Q r1 r2 h q => by
  cases e with
  | list l =>
    obtain ⟨h1, rfl⟩ := ite_some h
    exact .inl ⟨d, l, r1.dp, r2.dp, (bb h1).1, (bb h1).2, q⟩
  | tuple l =>
    obtain ⟨h1, rfl⟩ := ite_some h
    exact .inr (.inl ⟨d, l, r1.dp, r2.dp, (bb h1).1, (bb h1).2, q⟩)
  | str z =>
    cases d with
    | str y =>
      obtain ⟨h1, rfl⟩ := ite_some h
      cases r1
      cases r2
      exact .inr (.inr ⟨y.cps.getD 0 0, z, by rw [← sign_of h1], rfl, q⟩)
    | _ => cases h
  | _ => cases h⟩
def opB : Cm → CmpOp
  | .eq => .Eq | .ne => .NotEq | .lt => .Lt | .le => .LtE | .gt => .Gt | .ge => .GtE | .isn => .Is | .notn => .IsNot | .inn => .In | .nin => .NotIn
theorem cmpR (hu : X.A.units + 65 < cLine) : ∀ c, CmpR X (opB c) c
  | .eq => cmp_eq hu | .ne => cmp_ne hu | .lt => cmp_lt | .le => cmp_le | .gt => cmp_gt | .ge => cmp_ge | .isn => cmp_isn | .notn => cmp_notn | .inn => cmp_in hu | .nin => cmp_nin hu
theorem t_cmp {op : CmpOp} {c : Cm} (hc : CmpR X op c) (ha : PE X a (T X.K cur g W ea)) (hb : PE X b (T X.K cur g W eb)) (hm : behindInMarks op b = false) : PE X (.Compare a [op] [b] pos) (T X.K cur g W (.cmp c ea eb)) := by
  obtain ⟨r, ho, hr⟩ := hc.ex
  refine T.imp (pe_cmpR ho ha hb hm) ?_
  rintro σ H Q ⟨O, ρ, R, h⟩
  refine t_two (k := fun _ _ x _ _ y => (cmpop c x y).map fun r => .ok .plain [] (.bool r)) R h fun ka da x kb db y v u H1 H2 R1 R2 s1 s2 r1 r2 q => ?_
  cases e : cmpop c x y with
  | none => rw [e] at q; exact q.elim
  | some b =>
    rw [e] at q
    exact hr x y v u H2 _ _ b Q (r1.rep R (same_trans s1 s2)) (r2.rep R1 s2) e (Fin.val q (.bl b))
theorem tt_cmp {op : CmpOp} {c : Cm} (hc : CmpR X op c) (ha : PE X a (T X.K cur g W ea)) (hb : PE X b (T X.K cur g W eb)) (hm : behindInMarks op b = false) : PT X (.Compare a [op] [b] pos) (Tt X.K cur g W (.cmp c ea eb)) := by
  obtain ⟨r, ho, hr⟩ := hc.ex
  refine Tt.imp (pt_cmpR ho ha hb hm) ?_
  rintro σ H Q ⟨O, ρ, R, h⟩
  refine t_twoT (f := fun _ _ x _ _ y => (cmpop c x y).map fun r => .ok .plain [] (.bool r)) R h fun ka da x kb db y v u H1 H2 R1 R2 s1 s2 r1 r2 q => ?_
  cases e : cmpop c x y with
  | none => rw [e] at q; exact q.elim
  | some b =>
    rw [e] at q
    exact hr x y v u H2 _ _ b _ (r1.rep R (same_trans s1 s2)) (r2.rep R1 s2) e ⟨b, rfl, FinT.bool q⟩
theorem t_cmp2 {op op' : CmpOp} {c c' : Cm} {a b d : Expr} {ea eb ed : E} (hc : CmpR X op c) (hc' : CmpR X op' c') (ha : PE X a (T X.K cur g W ea)) (hb : PE X b (T X.K cur g W eb)) (hd : PE X d (T X.K cur g W ed)) (hm : lastMarks [op, op'] [b, d] = false) :
    PE X (.Compare a [op, op'] [b, d] pos) (T X.K cur g W (.cmp2 c c' ea eb ed)) := by
  obtain ⟨r, ho, hr⟩ := hc.ex
  obtain ⟨r', ho', hr'⟩ := hc'.ex
  refine T.imp (pe_chain ho ho' ha hb hd hm) ?_
  rintro σ H Q ⟨O, ρ, R, h⟩
  refine t_two (k := fun _ _ x _ _ y => (cmpop c x y).bind fun r => if r = true then Rs.map2 (ev g ed ρ) fun _ _ z => (cmpop c' y z).map fun r => .ok .plain [] (.bool r) else some (.ok .plain [] (.bool false))) R h fun ka da x kb db y v u H1 H2 R1 R2 s1 s2 r1 r2 q => ?_
  cases e : cmpop c x y with
  | none => rw [e] at q; exact q.elim
  | some b =>
    rw [e] at q
    refine hr x y v u H2 _ _ b _ (r1.rep R (same_trans s1 s2)) (r2.rep R1 s2) e ⟨b, rfl, ?_⟩
    cases b with
    | false => exact Fin.val q (.bl false)
    | true =>
      rw [if_pos rfl]
      refine T.bind R2 q fun kz dz z w H3 R3 s3 r3 q3 => ?_
      cases e3 : cmpop c' y z with
      | none => rw [e3] at q3; exact q3.elim
      | some b3 =>
        rw [e3] at q3
        exact hr' y z u w H3 _ _ b3 _ ((r2.stay s3).rep R1 (same_trans s2 s3)) (r3.rep R2 s3) e3 (Fin.val q3 (.bl b3))
theorem tt_cmp2 {op op' : CmpOp} {c c' : Cm} {a b d : Expr} {ea eb ed : E} (hc : CmpR X op c) (hc' : CmpR X op' c') (ha : PE X a (T X.K cur g W ea)) (hb : PE X b (T X.K cur g W eb)) (hd : PE X d (T X.K cur g W ed)) (hm : lastMarks [op, op'] [b, d] = false) :
    PT X (.Compare a [op, op'] [b, d] pos) (Tt X.K cur g W (.cmp2 c c' ea eb ed)) := by
  obtain ⟨r, ho, hr⟩ := hc.ex
  obtain ⟨r', ho', hr'⟩ := hc'.ex
  refine Tt.imp (pt_chain ho ho' ha hb hd hm) ?_
  rintro σ H Q ⟨O, ρ, R, h⟩
  refine t_twoT (f := fun _ _ x _ _ y => (cmpop c x y).bind fun r => if r = true then Rs.map2 (ev g ed ρ) fun _ _ z => (cmpop c' y z).map fun r => .ok .plain [] (.bool r) else some (.ok .plain [] (.bool false))) R h fun ka da x kb db y v u H1 H2 R1 R2 s1 s2 r1 r2 q => ?_
  cases e : cmpop c x y with
  | none => rw [e] at q; exact q.elim
  | some b =>
    rw [e] at q
    refine hr x y v u H2 _ _ b _ (r1.rep R (same_trans s1 s2)) (r2.rep R1 s2) e ⟨b, rfl, ?_⟩
    cases b with
    | false => exact ⟨false, rfl, FinT.bool q⟩
    | true =>
      rw [if_pos rfl]
      refine T.bindT R2 q fun kz dz z w H3 R3 s3 r3 q3 => ?_
      cases e3 : cmpop c' y z with
      | none => rw [e3] at q3; exact q3.elim
      | some b3 =>
        rw [e3] at q3
        exact hr' y z u w H3 _ _ b3 _ ((r2.stay s3).rep R1 (same_trans s2 s3)) (r3.rep R2 s3) e3 ⟨b3, rfl, FinT.bool q3⟩
end
end Vi

set_option maxRecDepth 100000
set_option maxHeartbeats 4000000
namespace Vi
open PySem PySem.Spec PyProof.Rows L2 HT
section
variable {prog : Program} {w : World} {A : Around} {E : Value → Shared → Prop} {s : Shared}
theorem fm_congr {α β : Type} {f f' : α → Option β} : ∀ {l : List α}, (∀ x ∈ l, f x = f' x) → l.filterMap f = l.filterMap f'
  | [], _ => rfl
  | a :: l, h => by
    rw [List.filterMap_cons, List.filterMap_cons, h a (List.mem_cons_self ..), fm_congr fun x hx => h x (List.mem_cons_of_mem _ hx)]
theorem pick_rev (xs : Array Value) : ((List.range xs.size).filterMap fun (m : Nat) => xs[(((xs.size : Int) - 1) + (m : Int) * (-1)).toNat]?).toArray = xs.toList.reverse.toArray := by
  have e : (List.range xs.size).filterMap (fun (m : Nat) => xs[(((xs.size : Int) - 1) + (m : Int) * (-1)).toNat]?) = (List.range xs.size).reverse.filterMap (xs[·]?) := by
    rw [← PySem.W.krv_range, List.filterMap_map]
    refine fm_congr fun m hm => ?_
    have hm := List.mem_range.mp hm
    show xs[(((xs.size : Int) - 1) + (m : Int) * (-1)).toNat]? = xs[xs.size - 1 - m]?
    congr 1
    omega
  rw [e, List.filterMap_reverse, PySem.W.krv_all]
theorem applied_rev {sl : Addr} {vk : Value} {n : Nat} {Q : Int × Int × Nat → Shared → Prop} (hs : s.heap.get? sl = some { cls := .type "slice", data := .fields #[.none, .none, vk] }) (pk : IsPart vk (some (-1)))
    (h : Q ((n : Int) - 1, -1, n) s) : wpAny (model prog w) A (Builtin.Slice.sliceApplied (.ref sl) (pure (n : Int))) Q E s := by
  unfold Builtin.Slice.sliceApplied Builtin.Slice.sliceFields
  refine wpAny_bind (wpAny_bind (wpAny_field hs rfl (x := .none) rfl (wpAny_bind (wpAny_field hs rfl (x := .none) rfl (wpAny_bind (wpAny_field hs rfl (x := vk) rfl (wpAny_pure ?_)))))))
  refine wpAny_bind (slicePart_ pk ?_)
  show wpAny _ _ (if ((-1 : Int) == 0) = true then _ else _) _ _ s
  rw [if_neg (by decide)]
  refine wpAny_bind (slicePart_none (wpAny_bind (slicePart_none (wpAny_bind (wpAny_pure ?_)))))
  show wpAny _ _ (match Builtin.Slice.sliceAdjust none none (-1) (n : Int) with | (lo, hi) => pure (lo, (-1 : Int), Builtin.Slice.slicePlaces lo hi (-1))) _ _ s
  show wpAny _ _ (pure ((n : Int) - 1, (-1 : Int), Builtin.Slice.slicePlaces ((n : Int) - 1) (-1) (-1))) _ _ s
  have e : Builtin.Slice.slicePlaces ((n : Int) - 1) (-1) (-1) = n := by
    unfold Builtin.Slice.slicePlaces
    rw [if_neg (by decide)]
    by_cases h0 : n = 0
    · subst h0; rfl
    · rw [if_pos (by omega)]
      have : ((n : Int) - 1 - -1 - 1) / - -1 + 1 = n := by
        rw [show (- -1 : Int) = 1 by rfl, Int.ediv_one]; omega
      rw [this]
      exact Int.toNat_natCast n
  rw [e]
  exact wpAny_pure h
theorem getItem_tuple_rev {t sl : Addr} {items : Array Value} {vk : Value} {Q : Value → Shared → Prop} (ht : IsTup s.heap t items) (hs : s.heap.get? sl = some { cls := .type "slice", data := .fields #[.none, .none, vk] }) (pk : IsPart vk (some (-1)))
    (h : Q (.ref s.heap.objs.size) { s with heap := s.heap.push { cls := .type "tuple", data := .seq items.toList.reverse.toArray } })
    (hsz : items.size ≤ sizeLine) : wpAny (model prog w) A (getItem (.ref t) (.ref sl)) Q E s := by
  have hTs : s.TypeIs (.ref sl) "slice" := ⟨_, hs, rfl⟩
  have htake : sizeOk (.seq items.toList.reverse.toArray) := by
    show items.toList.reverse.toArray.size ≤ sizeLine
    rw [List.size_toArray, List.length_reverse, Array.length_toList]
    exact hsz
  unfold getItem
  try with_reducible refine wpAny_holding ?_
  first | refine wpAny_bind (wpAny_pure ?_) | skip
  refine wpAny_bind (wpAny_sequenceKey ht.typeIs (by decide) ?_)
  refine wpAny_bind (wpAny_callSpecial?_slot (name := Str.ofString "__getitem__") ht.typeIs PyProof.Rows.slot_tuple_getitem
    (wpAny_call_entry PyProof.Rows.slot_tuple_getitem ht.typeIs entry_tuple_getitem ?_ (args_tuple_getitem _ _)))
  show wpAny _ _ (Builtin.Tuple.tupleItemsOf (.ref t) >>= _) _ _ s
  refine wpAny_bind (tupleItemsOf_ ht ?_)
  refine wpAny_bind (wpAny_typeOf hTs ?_)
  rw [if_pos (by decide)]
  refine wpAny_bind (applied_rev hs pk ?_)
  show wpAny _ _ (if (((items.size : Int) - 1) == 0 && (-1 : Int) == 1 && items.size == items.size) = true then _ else _) _ _ s
  rw [if_neg (by simp), pick_rev]
  first
    | exact wpAny_bind (wpAny_bind (wpAny_newObj_type (wpAny_pure ⟨_, rfl, wpAny_pure h⟩) htake))
    | exact wpAny_bind (wpAny_newObj_type (wpAny_pure ⟨_, rfl, wpAny_pure h⟩) htake)
    | exact wpAny_bind (m := Builtin.Tuple.tupleExact _) (wpAny_newObj_type (wpAny_pure ⟨_, rfl, wpAny_pure h⟩) htake)
    | exact wpAny_bind (m := Builtin.Tuple.tupleExact _) (wpAny_newObj_type (wpAny_bind (wpAny_pure (wpAny_pure ⟨_, rfl, wpAny_pure h⟩))) htake)
    | exact wpAny_bind (wpAny_bind (m := Builtin.Tuple.tupleExact _) (wpAny_newObj_type (wpAny_pure (wpAny_pure ⟨_, rfl, wpAny_pure h⟩)) htake))
    | exact wpAny_bind (wpAny_bind (m := Builtin.Tuple.tupleExact _) (wpAny_newObj_type (wpAny_pure ⟨_, rfl, wpAny_pure h⟩) htake))
end
theorem Vals.rev : ∀ {xs : List V} {us : List Value}, Vals xs us → Vals xs.reverse us.reverse
  | _, _, .nil => .nil
  | _, _, .cons r t => by
    rw [List.reverse_cons, List.reverse_cons]
    exact (Vals.rev t).append (.cons r .nil)
/-- a[::-1] -/
def tRev (K : PySem.W.Frag) (te : TE) : TE := fun σ H Q => te σ H fun x H1 => ∃ a xs, x = .ref a ∧
  ((SqL K H1 a xs ∧ ∀ p, H1 p = none → Q (.ref p) (upd H1 p (.lst xs.reverse))) ∨ (SqT K H1 a xs ∧ ∀ p, H1 p = none → Q (.ref p) (upd H1 p (.tup xs.reverse))))
section
variable {X : Cx} {e : Expr} {te : TE} {pos p2 p3 p4 : Pos} {k3 : Nat}
theorem pe_rev (he : PE X e te) : PE X (.Subscript e (.Slice none none (some (.UnaryOp .USub (.Constant (.int 1) k3 p4) p3)) p2) pos) (tRev X.K te) := by
  have hk : PO X (some (.UnaryOp .USub (.Constant (.int 1) k3 p4) p3)) (tPart (tUn (rU fun i => .int (-i)) (tC (.int 1)))) := po_some (pe_un un_neg pe_int)
  refine ⟨fun pins s σ H Q I h => ?_⟩
  refine Subscript_ (thn (he.run pins s σ H _ I h) fun v s1 ⟨x, H1, I1, r1, q1⟩ => ?_)
  refine wpAny_Slice ?_
  rw [evalPart_none]
  refine wpAny_pure ?_
  refine wpAny_pure ?_
  refine thn (hk.run pins s1 σ H1 (fun o H2 => o = some (-1) ∧ H2 = H1) I1 ⟨1, rfl, -1, rfl, rfl, rfl⟩) fun vk s2 ⟨o, H2, I2, pk, e1, e2⟩ => ?_
  subst e1
  subst e2
  obtain ⟨a, xs, rfl, q⟩ := q1
  cases r1
  have I4 : Inv X pins σ H2 { s2 with heap := s2.heap.push { cls := .type "slice", data := .fields #[.none, .none, vk] } } := I2.kept (t' := s2.toks) fun b ob q => Heap.get?_push_of_some _ q
  have hsl : (s2.heap.push { cls := .type "slice", data := .fields #[.none, .none, vk] }).get? s2.heap.objs.size = some { cls := .type "slice", data := .fields #[.none, .none, vk] } := Heap.get?_push_size _ rfl
  rcases q with ⟨hq, q⟩ | ⟨hq, q⟩
  · obtain ⟨its, r, ht, hz⟩ := I4.list hq
    have hlen := r.length
    have hg : wpAny (model X.prog X.w) X.A (getItem (.ref a) (.ref s2.heap.objs.size)) (EP X pins σ Q) X.xe { s2 with heap := s2.heap.push { cls := .type "slice", data := .fields #[.none, .none, vk] } } := by
      refine wpAny_getItem_list_slice ht.isList (Heap.IsSliceOf.new ..) .none .none pk (by decide) ?_ (by rw [List.size_toArray]; omega)
      rw [PySem.W.krv_pick]
      refine ⟨.ref _, _, I4.laid (t' := s2.toks) (o := .lst xs.reverse) (fun b ob q => Heap.get?_push_of_some _ q) (Nat.le_refl _) ?_, rfl, q _ (I4.hok.fresh (Nat.le_refl _))⟩
      refine ⟨by rw [List.length_reverse]; exact hz, its.reverse, 0, ?_, ?_⟩
      · exact Vals.rev r
      · exact Heap.get?_push_size _ rfl
    exact tail_any (ops := [.ref a, .ref s2.heap.objs.size]) ht.isList.typeIs slot_list_getitem.lookup hg (by with_unfolding_all rfl)
  · obtain ⟨its, r, ht, hz⟩ := I4.tuple hq
    have hlen := r.length
    have hg : wpAny (model X.prog X.w) X.A (getItem (.ref a) (.ref s2.heap.objs.size)) (EP X pins σ Q) X.xe { s2 with heap := s2.heap.push { cls := .type "slice", data := .fields #[.none, .none, vk] } } := by
      refine getItem_tuple_rev ht hsl pk ?_ (by rw [List.size_toArray]; omega)
      refine ⟨.ref _, _, I4.laid (t' := s2.toks) (o := .tup xs.reverse) (fun b ob q => Heap.get?_push_of_some _ q) (Nat.le_refl _) ?_, rfl, q _ (I4.hok.fresh (Nat.le_refl _))⟩
      exact ⟨by rw [List.length_reverse]; exact hz, its.reverse, Vals.rev r, IsTup.new _ _⟩
    exact tail_any (ops := [.ref a, .ref s2.heap.objs.size]) ht.typeIs PyProof.Rows.slot_tuple_getitem.lookup hg (by with_unfolding_all rfl)
end
end Vi

set_option maxRecDepth 100000
set_option maxHeartbeats 4000000
namespace Vi
open PySem PySem.Spec PyProof.Rows L2
section
variable {X : Cx} {N : List Str} {sc : Scope} {cm : Bool} {cur : Cur} {g : G} {W : WX} {a b c : Expr} {ea eb ec : E} {pos : Pos} {rest : List Expr}
/-! ### and, or, not, if -/
theorem t_one {op : BoolOp} (ha : PE X a (T X.K cur g W ea)) : PE X (.BoolOp op [a] pos) (T X.K cur g W (.one ea)) := T.imp (pe_one ha) fun _ _ _ h => h
theorem t_land (ha : PE X a (T X.K cur g W ea)) (hb : PE X (.BoolOp .And (b :: rest) pos) (T X.K cur g W eb)) : PE X (.BoolOp .And (a :: b :: rest) pos) (T X.K cur g W (.land ea eb)) := by
  refine T.imp (pe_andT ha hb) ?_
  rintro σ H Q ⟨O, ρ, R, h⟩
  refine T.bind R h fun k dep d v H1 R1 s1 r1 q => ?_
  cases e : truth d with
  | none => rw [e] at q; exact q.elim
  | some t =>
    rw [e] at q
    refine ⟨t, r1.tru R s1 e, ?_⟩
    cases t with
    | true => exact ⟨O, ρ, R1, q⟩
    | false => exact Fin.val q (r1.rep R s1)
theorem t_lor (ha : PE X a (T X.K cur g W ea)) (hb : PE X (.BoolOp .Or (b :: rest) pos) (T X.K cur g W eb)) : PE X (.BoolOp .Or (a :: b :: rest) pos) (T X.K cur g W (.lor ea eb)) := by
  refine T.imp (pe_orT ha hb) ?_
  rintro σ H Q ⟨O, ρ, R, h⟩
  refine T.bind R h fun k dep d v H1 R1 s1 r1 q => ?_
  cases e : truth d with
  | none => rw [e] at q; exact q.elim
  | some t =>
    rw [e] at q
    refine ⟨t, r1.tru R s1 e, ?_⟩
    cases t with
    | false => exact ⟨O, ρ, R1, q⟩
    | true => exact Fin.val q (r1.rep R s1)
theorem t_not (ha : PE X a (T X.K cur g W ea)) : PE X (.UnaryOp .Not a pos) (T X.K cur g W (.not ea)) := by
  refine T.imp (pe_notT ha) ?_
  rintro σ H Q ⟨O, ρ, R, h⟩
  refine T.bind R h fun k dep d v H1 R1 s1 r1 q => ?_
  cases e : truth d with
  | none => rw [e] at q; exact q.elim
  | some t =>
    rw [e] at q
    exact ⟨t, r1.tru R s1 e, Fin.val q (.bl _)⟩
/-- a test first -/
theorem Tt.bind {K : PySem.W.Frag} {O : Addr → Prop} {ρ : REnv} {σ : L2.St} {H : Hp} {QT Gl : Bool → Hp → Prop} {e : E} {f : Bool → Option Rs} (R : StRel K cur O ρ σ H)
    (h : FinT K σ H W QT (Rs.map2 (ev g e ρ) fun _ _ x => (truth x).bind f)) (hk : ∀ t H1, StRel K cur O ρ σ H1 → Same H H1 → FinT K σ H1 W QT (f t) → Gl t H1) : Tt K cur g W e σ H Gl := by
  refine ⟨O, ρ, R, ?_⟩
  cases e1 : ev g e ρ with
  | none => rw [e1] at h; exact h
  | some x =>
    rw [e1] at h
    cases x with
    | ok k dep d =>
      show match truth d with
        | none => False
        | some b => ∀ H', Same H H' → Gl b H'
      have h : FinT K σ H W QT ((truth d).bind f) := h
      cases e : truth d with
      | none => rw [e] at h; exact h
      | some b => rw [e] at h; exact fun H' s => hk b H' (R.same s) s (FinT.same s h)
    | ex c => exact h
theorem Tt.bindV {K : PySem.W.Frag} {O : Addr → Prop} {ρ : REnv} {σ : L2.St} {H : Hp} {Q : VK} {Gl : Bool → Hp → Prop} {e : E} {f : Bool → Option Rs} (R : StRel K cur O ρ σ H)
    (h : Fin K O ρ σ H W Q (Rs.map2 (ev g e ρ) fun _ _ x => (truth x).bind f)) (hk : ∀ t H1, StRel K cur O ρ σ H1 → Same H H1 → Fin K O ρ σ H1 W Q (f t) → Gl t H1) : Tt K cur g W e σ H Gl := by
  refine ⟨O, ρ, R, ?_⟩
  cases e1 : ev g e ρ with
  | none => rw [e1] at h; exact h
  | some x =>
    rw [e1] at h
    cases x with
    | ok k dep d =>
      show match truth d with
        | none => False
        | some b => ∀ H', Same H H' → Gl b H'
      have h : Fin K O ρ σ H W Q ((truth d).bind f) := h
      cases e : truth d with
      | none => rw [e] at h; exact h
      | some b => rw [e] at h; exact fun H' s => hk b H' (R.same s) s (Fin.same s h)
    | ex c => exact h
theorem tt_not (ha : PT X a (Tt X.K cur g W ea)) : PT X (.UnaryOp .Not a pos) (Tt X.K cur g W (.not ea)) := by
  refine Tt.imp (pt_not ha) ?_
  rintro σ H Q ⟨O, ρ, R, h⟩
  refine Tt.bind (f := fun t => some (.ok .plain [] (.bool (!t)))) R (QT := Q) ?_ fun t H1 R1 s1 q => FinT.bool q
  have h : FinT X.K σ H W Q (Rs.map2 (ev g ea ρ) fun _ _ x => (truth x).map fun t => .ok .plain [] (.bool (!t))) := h
  cases e1 : ev g ea ρ with
  | none => rw [e1] at h; exact h
  | some x =>
    rw [e1] at h
    cases x with
    | ok k dep d =>
      have h : FinT X.K σ H W Q ((truth d).map fun t => .ok .plain [] (.bool (!t))) := h
      show FinT X.K σ H W Q ((truth d).bind fun t => some (.ok .plain [] (.bool (!t))))
      cases e : truth d with
      | none => rw [e] at h; exact h
      | some b => rw [e] at h; exact h
    | ex c => exact h
theorem tw_and1 (ha : PT X a (Tt X.K cur g W ea)) : PW X (.BoolOp .And [a] pos) (Tt X.K cur g W (.one ea)) := ⟨fun w pins s σ H Q I h => (pw_and1 ha).run w pins s σ H Q I h⟩
theorem tw_or1 (ha : PT X a (Tt X.K cur g W ea)) : PW X (.BoolOp .Or [a] pos) (Tt X.K cur g W (.one ea)) := ⟨fun w pins s σ H Q I h => (pw_or1 ha).run w pins s σ H Q I h⟩
theorem Fin_lift {K : PySem.W.Frag} {O : Addr → Prop} {ρ : REnv} {σ : L2.St} {H : Hp} {QT : Bool → Hp → Prop} {e : E} {x : D → Kd → List Nat → Option Rs} {y : Bool → Option Rs} (h : FinT K σ H W QT (Rs.map2 (ev g e ρ) fun k dep d => (truth d).bind fun t => x d k dep))
    (hy : ∀ d k dep t, truth d = some t → FinT K σ H W QT (x d k dep) → FinT K σ H W QT (y t)) : FinT K σ H W QT (Rs.map2 (ev g e ρ) fun _ _ d => (truth d).bind y) := by
  cases e1 : ev g e ρ with
  | none => rw [e1] at h; exact h
  | some z =>
    rw [e1] at h
    cases z with
    | ok k dep d =>
      have h : FinT K σ H W QT ((truth d).bind fun t => x d k dep) := h
      show FinT K σ H W QT ((truth d).bind y)
      cases e : truth d with
      | none => rw [e] at h; exact h
      | some b => rw [e] at h; exact hy d k dep b e h
    | ex c => exact h
theorem tw_and (ha : PT X a (Tt X.K cur g W ea)) (hb : PW X (.BoolOp .And (b :: rest) pos) (Tt X.K cur g W eb)) : PW X (.BoolOp .And (a :: b :: rest) pos) (Tt X.K cur g W (.land ea eb)) := by
  refine ⟨fun w pins s σ H Q I h => (pw_and ha hb).run w pins s σ H Q I ?_⟩
  obtain ⟨O, ρ, R, h⟩ := h
  have h : FinT X.K σ H W Q (Rs.map2 (ev g ea ρ) fun ka da x => (truth x).bind fun t => if t = true then ev g eb ρ else some (.ok .plain (ka.tot da) x)) := h
  refine Tt.bind (QT := Q) (f := fun t => if t = true then ev g eb ρ else some (.ok .plain [] (.bool false))) R ?_ fun t H1 R1 s1 q => ?_
  · cases e1 : ev g ea ρ with
    | none => rw [e1] at h; exact h
    | some z =>
      rw [e1] at h
      cases z with
      | ok k dep d =>
        have h : FinT X.K σ H W Q ((truth d).bind fun t => if t = true then ev g eb ρ else some (.ok .plain (k.tot dep) d)) := h
        show FinT X.K σ H W Q ((truth d).bind fun t => if t = true then ev g eb ρ else some (.ok .plain [] (.bool false)))
        cases e : truth d with
        | none => rw [e] at h; exact h
        | some t =>
          rw [e] at h
          cases t with
          | true => exact h
          | false =>
            have h : match truth d with
              | none => False
              | some b => ∀ H', Same H H' → Q b H' := h
            rw [e] at h
            exact h
      | ex c => exact h
  · cases t with
    | true => exact ⟨O, ρ, R1, q⟩
    | false => exact FinT.bool q
theorem tw_or (ha : PT X a (Tt X.K cur g W ea)) (hb : PW X (.BoolOp .Or (b :: rest) pos) (Tt X.K cur g W eb)) : PW X (.BoolOp .Or (a :: b :: rest) pos) (Tt X.K cur g W (.lor ea eb)) := by
  refine ⟨fun w pins s σ H Q I h => (pw_or ha hb).run w pins s σ H Q I ?_⟩
  obtain ⟨O, ρ, R, h⟩ := h
  have h : FinT X.K σ H W Q (Rs.map2 (ev g ea ρ) fun ka da x => (truth x).bind fun t => if t = true then some (.ok .plain (ka.tot da) x) else ev g eb ρ) := h
  refine Tt.bind (QT := Q) (f := fun t => if t = true then some (.ok .plain [] (.bool true)) else ev g eb ρ) R ?_ fun t H1 R1 s1 q => ?_
  · cases e1 : ev g ea ρ with
    | none => rw [e1] at h; exact h
    | some z =>
      rw [e1] at h
      cases z with
      | ok k dep d =>
        have h : FinT X.K σ H W Q ((truth d).bind fun t => if t = true then some (.ok .plain (k.tot dep) d) else ev g eb ρ) := h
        show FinT X.K σ H W Q ((truth d).bind fun t => if t = true then some (.ok .plain [] (.bool true)) else ev g eb ρ)
        cases e : truth d with
        | none => rw [e] at h; exact h
        | some t =>
          rw [e] at h
          cases t with
          | false => exact h
          | true =>
            have h : match truth d with
              | none => False
              | some b => ∀ H', Same H H' → Q b H' := h
            rw [e] at h
            exact h
      | ex c => exact h
  · cases t with
    | false => exact ⟨O, ρ, R1, q⟩
    | true => exact FinT.bool q
theorem t_ife (hc : PT X c (Tt X.K cur g W ec)) (ha : PE X a (T X.K cur g W ea)) (hb : PE X b (T X.K cur g W eb)) : PE X (.IfExp c a b pos) (T X.K cur g W (.ife ec ea eb)) := by
  refine T.imp (pe_ifExp hc ha hb) ?_
  rintro σ H Q ⟨O, ρ, R, h⟩
  refine Tt.bindV (f := fun t => if t = true then ev g ea ρ else ev g eb ρ) R h fun t H1 R1 s1 q => ?_
  cases t with
  | true => exact ⟨O, ρ, R1, q⟩
  | false => exact ⟨O, ρ, R1, q⟩
/-! ### arguments, displays -/
theorem Pm.tup {K : PySem.W.Frag} {cur : Cur} {O : Addr → Prop} {ρ : REnv} {σ : L2.St} {H : Hp} {dep : List Nat} {a : Addr} {xs : List V} (R : StRel K cur O ρ σ H) (p : Pm O ρ σ dep a) (r : Rd H a (.tup xs)) : Pm O ρ σ [] a := .of_not p.1 fun ⟨i, ds, e1, e2⟩ => by
  obtain ⟨b, ys, e3, e4, _⟩ := R.own i ds e1
  rw [e2] at e3
  cases e3
  rcases r with r | ⟨o, r⟩ <;> · rw [e4] at r; cases r
theorem QT.free {K : PySem.W.Frag} {cur : Cur} {O : Addr → Prop} {ρ : REnv} {σ : L2.St} {H : Hp} {dep : List Nat} {a : Addr} {xs : List V} (R : StRel K cur O ρ σ H) (q : QT K H (Pm O ρ σ dep) a xs) : QT K H (Pm O ρ σ []) a xs := q.elim (fun z => .inl ⟨Pm.tup R z.1 z.2, z.2⟩) .inr
theorem RepL.mapR {K : PySem.W.Frag} {H : Hp} {P P' : Addr → Prop} {f : D → Bool} (h : ∀ d v, f d = true → Rep K H P d v → Rep K H P' d v) : ∀ {ds : List D} {vs : List V}, ds.all f = true → RepL K H P ds vs → RepL K H P' ds vs
  | [], _, _, r => by cases r; exact .nil
  | d :: ds, _, a, r => by
    obtain ⟨a1, a2⟩ := bb (show (f d && ds.all f) = true from a)
    cases r with
    | cons x y => exact .cons (h d _ a1 x) (RepL.mapR h a2 y)
theorem Rep.flat1 {K : PySem.W.Frag} {cur : Cur} {O : Addr → Prop} {ρ : REnv} {σ : L2.St} {H : Hp} {dep : List Nat} (R : StRel K cur O ρ σ H) (d : D) (v : V) (f : Vi.flat1 d = true) (h : Rep K H (Pm O ρ σ dep) d v) : Rep K H (Pm O ρ σ []) d v := by
  cases h with
  | non => exact .non
  | bl b => exact .bl b
  | int i => exact .int i
  | str x => exact .str x
  | lst _ _ => cases f
  | tup q r => exact .tup (q.free R) (RepL.mapR (f := atom) (fun d v a r => r.atom_any a) f r)
theorem Rep.flat {K : PySem.W.Frag} {cur : Cur} {O : Addr → Prop} {ρ : REnv} {σ : L2.St} {H : Hp} {dep : List Nat} (R : StRel K cur O ρ σ H) (d : D) (v : V) (f : Vi.flat d = true) (h : Rep K H (Pm O ρ σ dep) d v) : Rep K H (Pm O ρ σ []) d v := by
  cases h with
  | non => exact .non
  | bl b => exact .bl b
  | int i => exact .int i
  | str x => exact .str x
  | lst _ _ => cases f
  | tup q r => exact .tup (q.free R) (RepL.mapR (f := Vi.flat1) (Rep.flat1 R) f r)
theorem Rep.dep {K : PySem.W.Frag} {cur : Cur} {O : Addr → Prop} {ρ : REnv} {σ : L2.St} {H : Hp} {d : D} {v : V} {dep : List Nat} (R : StRel K cur O ρ σ H) (h : Rep K H (Pm O ρ σ dep) d v) : Rep K H (Pm O ρ σ (depF d dep)) d v := by
  unfold depF
  by_cases e : Vi.flat d = true
  · rw [if_pos e]; exact Rep.flat R d v e h
  · rw [if_neg e]; exact h
theorem RepL.dep {K : PySem.W.Frag} {cur : Cur} {O : Addr → Prop} {ρ : REnv} {σ : L2.St} {H : Hp} {d : List D} {v : List V} {dep : List Nat} (R : StRel K cur O ρ σ H) (h : RepL K H (Pm O ρ σ dep) d v) : RepL K H (Pm O ρ σ (depL d dep)) d v := by
  unfold depL
  by_cases e : d.all Vi.flat = true
  · rw [if_pos e]; exact RepL.mapR (f := Vi.flat) (Rep.flat R) e h
  · rw [if_neg e]; exact h
theorem Rep.flat1Z {K : PySem.W.Frag} {cur : Cur} {O : Addr → Prop} {ρ : REnv} {σ : L2.St} {H : Hp} {dep : List Nat} {Z : Addr → Prop} (R : StRel K cur O ρ σ H) (d : D) (v : V) (f : Vi.flat1 d = true) (h : Rep K H (fun a => Pm O ρ σ dep a ∧ Z a) d v) : Rep K H (fun a => Pm O ρ σ [] a ∧ Z a) d v := by
  cases h with
  | non => exact .non
  | bl b => exact .bl b
  | int i => exact .int i
  | str x => exact .str x
  | lst _ _ => cases f
  | tup q r => exact .tup (q.elim (fun z => .inl ⟨⟨Pm.tup R z.1.1 z.2, z.1.2⟩, z.2⟩) .inr) (RepL.mapR (f := atom) (fun d v a r => r.atom_any a) f r)
theorem Rep.flatZ {K : PySem.W.Frag} {cur : Cur} {O : Addr → Prop} {ρ : REnv} {σ : L2.St} {H : Hp} {dep : List Nat} {Z : Addr → Prop} (R : StRel K cur O ρ σ H) (d : D) (v : V) (f : Vi.flat d = true) (h : Rep K H (fun a => Pm O ρ σ dep a ∧ Z a) d v) : Rep K H (fun a => Pm O ρ σ [] a ∧ Z a) d v := by
  cases h with
  | non => exact .non
  | bl b => exact .bl b
  | int i => exact .int i
  | str x => exact .str x
  | lst _ _ => cases f
  | tup q r => exact .tup (q.elim (fun z => .inl ⟨⟨Pm.tup R z.1.1 z.2, z.1.2⟩, z.2⟩) .inr) (RepL.mapR (f := Vi.flat1) (Rep.flat1Z R) f r)
theorem RepL.depZ {K : PySem.W.Frag} {cur : Cur} {O : Addr → Prop} {ρ : REnv} {σ : L2.St} {H : Hp} {d : List D} {v : List V} {dep : List Nat} {Z : Addr → Prop} (R : StRel K cur O ρ σ H) (h : RepL K H (fun a => Pm O ρ σ dep a ∧ Z a) d v) : RepL K H (fun a => Pm O ρ σ (depL d dep) a ∧ Z a) d v := by
  unfold depL
  by_cases e : d.all Vi.flat = true
  · rw [if_pos e]; exact RepL.mapR (f := Vi.flat) (Rep.flatZ R) e h
  · rw [if_neg e]; exact h
theorem ta_nil : PA X [] (Ta X.K cur g W .nil) := Ta.imp pa_nil fun σ H Q ⟨O, ρ, R, ds, e, h⟩ => by
  cases e
  exact h [] H same_refl .nil
def notStar : Expr → Bool
  | .Starred _ _ => false
  | _ => true
theorem notStar_eq {e : Expr} (h : notStar e = true) (es : List Expr) (env : PySem.Env) : starEach (e :: es) env = (false, eval e env) :: starEach es env := by
  cases e <;> first | rfl | cases h
theorem ta_cons {es : List Expr} (hs : notStar a = true) (ha : PE X a (T X.K cur g W ea)) (hb : PA X es (Ta X.K cur g W eb)) : PA X (a :: es) (Ta X.K cur g W (.cons ea eb)) := by
  refine Ta.imp (pa_cons ha hb (notStar_eq hs _ _)) ?_
  rintro σ H Q ⟨O, ρ, R, h⟩
  have h : match Rs.map2 (ev g ea ρ) (fun ka da x => Rs.map2 (ev g eb ρ) fun _ db y => match y with
    | .tuple ys => some (.ok .plain (depF x (ka.tot da) ++ db) (.tuple (x :: ys)))
    | _ => none) with
    | none => False
    | some (.ok _ dep d) => ∃ ds, d = .tuple ds ∧ ∀ vs H', Same H H' → RepL X.K H' (Pm O ρ σ dep) ds vs → Q vs H'
    | some (.ex c) => ∀ H', Same H H' → W (.ref (He.ga X.K c)) none σ H' := h
  refine ⟨O, ρ, R, ?_⟩
  cases e1 : ev g ea ρ with
  | none => rw [e1] at h; exact h
  | some z =>
    rw [e1] at h
    cases z with
    | ex c => exact h
    | ok ka da x =>
      intro v H1 s1 r1
      refine ⟨O, ρ, R.same s1, ?_⟩
      have h : match Rs.map2 (ev g eb ρ) (fun _ db y => match y with
        | .tuple ys => some (.ok .plain (depF x (ka.tot da) ++ db) (.tuple (x :: ys)))
        | _ => none) with
        | none => False
        | some (.ok _ dep d) => ∃ ds, d = .tuple ds ∧ ∀ vs H', Same H H' → RepL X.K H' (Pm O ρ σ dep) ds vs → Q vs H'
        | some (.ex c) => ∀ H', Same H H' → W (.ref (He.ga X.K c)) none σ H' := h
      cases e2 : ev g eb ρ with
      | none => rw [e2] at h; exact h
      | some z =>
        rw [e2] at h
        cases z with
        | ex c => exact fun H' s' => h H' (same_trans s1 s')
        | ok kb db y =>
          cases y with
          | tuple ys =>
            obtain ⟨ds, e3, h⟩ := h
            cases e3
            refine ⟨ys, rfl, fun vs H' s' rs => h (v :: vs) H' (same_trans s1 s') (.cons ?_ ?_)⟩
            · exact Rep.stay (fun a u p r => ⟨p.mono fun i z => List.mem_append_left _ z, r⟩) _ (Rep.dep (R.same (same_trans s1 s')) ((r1.stay s').rep R (same_trans s1 s')))
            · exact RepL.stay (fun a u p r => ⟨p.mono fun i z => List.mem_append_right _ z, r⟩) _ rs
          | _ => exact h.elim
theorem Ta.bind {K : PySem.W.Frag} {O : Addr → Prop} {ρ : REnv} {σ : L2.St} {H : Hp} {Q : VK} {f : Kd → List Nat → D → Option Rs} {Gl : List V → Hp → Prop} (R : StRel K cur O ρ σ H) (h : Fin K O ρ σ H W Q (Rs.map2 (ev g ea ρ) f))
    (ht : ∀ k dep d, ev g ea ρ = some (.ok k dep d) → Fin K O ρ σ H W Q (f k dep d) → ∃ ds, d = .tuple ds)
    (hk : ∀ k dep ds vs H1, StRel K cur O ρ σ H1 → Same H H1 → RepL K H1 (Pm O ρ σ dep) ds vs → Fin K O ρ σ H1 W Q (f k dep (.tuple ds)) → Gl vs H1) : Ta K cur g W ea σ H Gl := by
  refine ⟨O, ρ, R, ?_⟩
  cases e1 : ev g ea ρ with
  | none => rw [e1] at h; exact h
  | some z =>
    rw [e1] at h
    cases z with
    | ex c => exact h
    | ok k dep d =>
      obtain ⟨ds, e2⟩ := ht k dep d e1 h
      subst e2
      exact ⟨ds, rfl, fun vs H' s r => hk k dep ds vs H' (R.same s) s r (Fin.same s h)⟩
theorem t_tup {es : List Expr} {x1 : Nat} (h : PA X es (Ta X.K cur g W ea)) : PE X (.Tuple es x1 pos) (T X.K cur g W (.tup ea)) := by
  refine T.imp (pe_tup h) ?_
  rintro σ H Q ⟨O, ρ, R, h⟩
  refine Ta.bind R h (fun k dep d _ q => ?_) fun k dep ds vs H1 R1 s1 r1 q => ?_
  · cases d with
    | tuple ds => exact ⟨ds, rfl⟩
    | _ => exact q.elim
  · have q : Fin X.K O ρ σ H1 W Q (if ds.length ≤ sizeLine then some (.ok .plain dep (.tuple ds)) else none) := q
    have e1 := r1.length
    by_cases hz : ds.length ≤ sizeLine
    · rw [if_pos hz] at q
      exact ⟨by omega, fun p n => Fin.tup R1 q r1 n⟩
    · rw [if_neg hz] at q; exact q.elim
theorem t_lst {es : List Expr} (h : PA X es (Ta X.K cur g W ea)) : PE X (.List es pos) (T X.K cur g W (.lst ea)) := by
  refine T.imp (pe_lst h) ?_
  rintro σ H Q ⟨O, ρ, R, h⟩
  refine Ta.bind R h (fun k dep d _ q => ?_) fun k dep ds vs H1 R1 s1 r1 q => ?_
  · cases d with
    | tuple ds => exact ⟨ds, rfl⟩
    | _ => exact q.elim
  · have q : Fin X.K O ρ σ H1 W Q (if ds.length ≤ sizeLine then some (.ok .fresh dep (.list ds)) else none) := q
    have e1 := r1.length
    by_cases hz : ds.length ≤ sizeLine
    · rw [if_pos hz] at q
      exact ⟨by omega, fun p n => Fin.lst R1 q r1 n⟩
    · rw [if_neg hz] at q; exact q.elim
end
end Vi

set_option maxRecDepth 100000
set_option maxHeartbeats 4000000
namespace Vi
open PySem PySem.Spec PyProof.Rows L2
theorem RepL.ints_of {K : PySem.W.Frag} {H : Hp} {P : Addr → Prop} : ∀ {ds : List D} {xs : List V} {ns : List Int}, RepL K H P ds xs → intsOf ds = some ns → xs = ns.map V.int
  | [], _, ns, h, e => by
    cases h
    cases e
    rfl
  | .int i :: ds, _, ns, h, e => by
    cases h with
    | cons a b =>
      cases a
      have e : (intsOf ds).map (i :: ·) = some ns := e
      cases e1 : intsOf ds with
      | none => rw [e1] at e; cases e
      | some ms =>
        rw [e1] at e
        cases e
        rw [RepL.ints_of b e1]
        rfl
  | .none :: _, _, _, _, e => by cases e
  | .bool _ :: _, _, _, _, e => by cases e
  | .str _ :: _, _, _, _, e => by cases e
  | .list _ :: _, _, _, _, e => by cases e
  | .tuple _ :: _, _, _, _, e => by cases e
  | .dict _ :: _, _, _, _, e => by cases e
section
variable {X : Cx} {N : List Str} {sc : Scope} {cm : Bool} {cur : Cur} {g : G} {W : WX} {a b c : Expr} {ea eb ec : E} {pos p : Pos} {rest : List Expr}
def glB (sc : Scope) (x : Str) : Bool := match sc.names.lookup x with
  | some .globalImplicit => true
  | _ => false
theorem Cxt.gl (C : Cxt X N sc cm cur g W) {x : Str} (h : glB sc x = true) : Gl X x := by
  show X.env.scope.names.lookup x = some .globalImplicit
  rw [C.hsc]
  unfold glB at h
  split at h
  · assumption
  · cases h
theorem Cxt.bl (C : Cxt X N sc cm cur g W) {x : Str} (h : bltNames.contains x = true) : X.mg x = none := C.blt x (by simpa using h)
theorem star1 (h : notStar a = true) : starEach [a] X.env = (false, eval a X.env) :: starEach [] X.env := notStar_eq h _ _
theorem plain1 {pos : Pos} : (backTo pos (starEach [] X.env)).any (·.1) = false := rfl
/-! ### built-in functions -/
theorem t_len (C : Cxt X N sc cm cur g W) (hg : glB sc "len" = true) (hs : notStar a = true) (ha : PE X a (T X.K cur g W ea)) : PE X (.Call (.Name "len" p) [a] [] pos) (T X.K cur g W (.bf .len ea)) := by
  refine T.imp (pe_callB call_len (C.gl hg) (C.bl (by decide)) boot_len (pa_cons ha pa_nil (star1 hs)) (by decide) (by decide) (star1 hs) plain1) ?_
  rintro σ H Q ⟨O, ρ, R, h⟩
  refine T.bind R h fun k dep d v H1 R1 s1 r1 q => ?_
  cases d with
  | list l =>
    obtain ⟨p, xs, rfl, hq, r⟩ := r1.list R s1
    exact ⟨_, l.length, rfl, .inl ⟨xs, hq, r.length⟩, Fin.val q (.int _)⟩
  | tuple l =>
    obtain ⟨p, xs, rfl, hq, r⟩ := r1.tup
    exact ⟨_, l.length, rfl, .inr ⟨xs, hq.sqt, r.length⟩, Fin.val q (.int _)⟩
  | str z =>
    obtain rfl := r1.str
    have q : Fin X.K O ρ σ H1 W Q ((if z.length ≤ sizeLine then some (Kd.plain, PyData.int z.length) else none).map fun r => Rs.ok r.1 (depOf r.2 dep) r.2) := q
    obtain ⟨hz, q⟩ := Fin.ite (r := .ex "") q
    exact ⟨_, z.length, rfl, ⟨hz, rfl⟩, Fin.val q (.int _)⟩
  | _ => exact q.elim
theorem t_toint (C : Cxt X N sc cm cur g W) (hg : glB sc "int" = true) (hs : notStar a = true) (ha : PE X a (T X.K cur g W ea)) : PE X (.Call (.Name "int" p) [a] [] pos) (T X.K cur g W (.bf .int ea)) := by
  refine T.imp (pe_callTy call_int1 (C.gl hg) (C.bl (by decide)) boot_int (pa_cons ha pa_nil (star1 hs)) (by decide) (by decide) (star1 hs) plain1) ?_
  rintro σ H Q ⟨O, ρ, R, h⟩
  refine T.bind R h fun k dep d v H1 R1 s1 r1 q => ?_
  cases d with
  | int i =>
    obtain rfl := r1.int
    exact .inl ⟨i, rfl, Fin.val q (.int _)⟩
  | bool b =>
    obtain rfl := r1.bool
    exact .inr ⟨b, rfl, Fin.val q (.int _)⟩
  | _ => exact q.elim
theorem t_tostr (C : Cxt X N sc cm cur g W) (hg : glB sc "str" = true) (hs : notStar a = true) (ha : PE X a (T X.K cur g W ea)) : PE X (.Call (.Name "str" p) [a] [] pos) (T X.K cur g W (.bf .str ea)) := by
  refine T.imp (pe_callTy call_str_int (C.gl hg) (C.bl (by decide)) boot_str (pa_cons ha pa_nil (star1 hs)) (by decide) (by decide) (star1 hs) plain1) ?_
  rintro σ H Q ⟨O, ρ, R, h⟩
  refine T.bind R h fun k dep d v H1 R1 s1 r1 q => ?_
  cases d with
  | int i =>
    obtain rfl := r1.int
    have q : Fin X.K O ρ σ H1 W Q ((if i.natAbs.log2 < 1920 then some (Kd.plain, PyData.str (toString i)) else none).map fun r => Rs.ok r.1 (depOf r.2 dep) r.2) := q
    obtain ⟨hz, q⟩ := Fin.ite (r := .ex "") q
    exact ⟨i, rfl, hz, Fin.val q (.str _)⟩
  | _ => exact q.elim
theorem t_totup (C : Cxt X N sc cm cur g W) (hg : glB sc "tuple" = true) (hs : notStar a = true) (ha : PE X a (T X.K cur g W ea)) : PE X (.Call (.Name "tuple" p) [a] [] pos) (T X.K cur g W (.bf .tuple ea)) := by
  refine T.imp (pe_callTy call_tuple_of (C.gl hg) (C.bl (by decide)) boot_tuple (pa_cons ha pa_nil (star1 hs)) (by decide) (by decide) (star1 hs) plain1) ?_
  rintro σ H Q ⟨O, ρ, R, h⟩
  refine T.bind R h fun k dep d v H1 R1 s1 r1 q => ?_
  cases d with
  | list l =>
    obtain ⟨p, xs, rfl, hq, r⟩ := r1.list R s1
    exact ⟨p, xs, rfl, .inl ⟨hq, fun z n => Fin.tup R1 q r n⟩⟩
  | tuple l =>
    obtain ⟨p, xs, rfl, hq, r⟩ := r1.tup
    exact ⟨p, xs, rfl, .inr ⟨hq.sqt, Fin.val q (.tup hq r)⟩⟩
  | _ => exact q.elim
theorem t_tolst (C : Cxt X N sc cm cur g W) (hg : glB sc "list" = true) (hs : notStar a = true) (ha : PE X a (T X.K cur g W ea)) : PE X (.Call (.Name "list" p) [a] [] pos) (T X.K cur g W (.bf .list ea)) := by
  refine T.imp (pe_callTy call_list_of (C.gl hg) (C.bl (by decide)) boot_list (pa_cons ha pa_nil (star1 hs)) (by decide) (by decide) (star1 hs) plain1) ?_
  rintro σ H Q ⟨O, ρ, R, h⟩
  refine T.bind R h fun k dep d v H1 R1 s1 r1 q => ?_
  cases d with
  | list l =>
    obtain ⟨p, xs, rfl, hq, r⟩ := r1.list R s1
    exact ⟨p, xs, rfl, .inl hq, fun z n => Fin.lst R1 q r n⟩
  | tuple l =>
    obtain ⟨p, xs, rfl, hq, r⟩ := r1.tup
    exact ⟨p, xs, rfl, .inr hq.sqt, fun z n => Fin.lst R1 q r n⟩
  | _ => exact q.elim
theorem t_sum (C : Cxt X N sc cm cur g W) (hc : cm = true) (hg : glB sc "sum" = true) (hs : notStar a = true) (ha : PE X a (T X.K cur g W ea)) : PE X (.Call (.Name "sum" p) [a] [] pos) (T X.K cur g W (.bf .sum ea)) := by
  refine T.imp (pe_callB (cr_sum (C.calm hc)) (C.gl hg) (C.bl (by decide)) (by decide +kernel) (pa_cons ha pa_nil (star1 hs)) (by decide) (by decide) (star1 hs) plain1) ?_
  rintro σ H Q ⟨O, ρ, R, h⟩
  refine T.bind R h fun k dep d v H1 R1 s1 r1 q => ?_
  cases d with
  | list l =>
    obtain ⟨p, xs, rfl, hq, r⟩ := r1.list R s1
    have q : Fin X.K O ρ σ H1 W Q (((intsOf l).map fun ns => (Kd.plain, PyData.int ns.sum)).map fun r => Rs.ok r.1 (depOf r.2 dep) r.2) := q
    cases e : intsOf l with
    | none => rw [e] at q; exact q.elim
    | some ns =>
      rw [e] at q
      refine ⟨p, ns, rfl, ?_, Fin.val q (.int _)⟩
      rw [← RepL.ints_of r e]
      exact hq
  | _ => exact q.elim
theorem star2 (ha : notStar a = true) (hb : notStar b = true) : starEach [a, b] X.env = (false, eval a X.env) :: starEach [b] X.env := notStar_eq ha _ _
theorem plain2 (hb : notStar b = true) {pos : Pos} : (backTo pos (starEach [b] X.env)).any (·.1) = false := by
  rw [star1 hb]; rfl
theorem t_max2 (C : Cxt X N sc cm cur g W) (hc : cm = true) (hg : glB sc "max" = true) (hs : notStar a = true) (hs2 : notStar b = true) (ha : PE X a (T X.K cur g W ea)) (hb : PE X b (T X.K cur g W eb)) : PE X (.Call (.Name "max" p) [a, b] [] pos) (T X.K cur g W (.max2 ea eb)) := by
  refine T.imp (pe_callB (call_max2 (C.calm hc)) (C.gl hg) (C.bl (by decide)) boot_max (pa_cons ha (pa_cons hb pa_nil (star1 hs2)) (star2 hs hs2)) (by decide) (by decide) (star2 hs hs2) (plain2 hs2)) ?_
  rintro σ H Q ⟨O, ρ, R, h⟩
  refine t_two (k := fun _ _ x _ _ y => match x, y with
    | .int i, .int j => some (.ok .plain [] (.int (if j > i then j else i)))
    | _, _ => none) R h fun ka da x kb db y v u H1 H2 R1 R2 s1 s2 r1 r2 q => ?_
  cases x with
  | int i =>
    cases y with
    | int j =>
      obtain rfl := r1.int
      obtain rfl := r2.int
      exact ⟨i, j, rfl, Fin.val q (.int _)⟩
    | _ => exact q.elim
  | _ => exact q.elim
theorem t_min2 (C : Cxt X N sc cm cur g W) (hc : cm = true) (hg : glB sc "min" = true) (hs : notStar a = true) (hs2 : notStar b = true) (ha : PE X a (T X.K cur g W ea)) (hb : PE X b (T X.K cur g W eb)) : PE X (.Call (.Name "min" p) [a, b] [] pos) (T X.K cur g W (.min2 ea eb)) := by
  refine T.imp (pe_callB (call_min2 (C.calm hc)) (C.gl hg) (C.bl (by decide)) boot_min (pa_cons ha (pa_cons hb pa_nil (star1 hs2)) (star2 hs hs2)) (by decide) (by decide) (star2 hs hs2) (plain2 hs2)) ?_
  rintro σ H Q ⟨O, ρ, R, h⟩
  refine t_two (k := fun _ _ x _ _ y => match x, y with
    | .int i, .int j => some (.ok .plain [] (.int (if j < i then j else i)))
    | _, _ => none) R h fun ka da x kb db y v u H1 H2 R1 R2 s1 s2 r1 r2 q => ?_
  cases x with
  | int i =>
    cases y with
    | int j =>
      obtain rfl := r1.int
      obtain rfl := r2.int
      exact ⟨i, j, rfl, Fin.val q (.int _)⟩
    | _ => exact q.elim
  | _ => exact q.elim
/-! ### a module's constant -/
theorem t_glob {x : Str} (C : Cxt X N sc cm cur g W) (hg : glB sc x = true) (hd : (x == ("__debug__" : Str)) = false) : PE X (.Name x pos) (T X.K cur g W (.glob x)) := by
  cases e : g.consts.lookup x with
  | none =>
    refine T.imp (t := fun _ _ _ => False) ⟨fun _ _ _ _ _ _ h => h.elim⟩ ?_
    rintro σ H Q ⟨O, ρ, R, h⟩
    have h : Fin X.K O ρ σ H W Q ((g.consts.lookup x).map fun d => Rs.ok .plain [] d) := h
    rw [e] at h
    exact h
  | some d =>
    obtain ⟨v, u, hm, r, hr⟩ := C.consts x d e
    refine T.imp (pe_glob (C.gl hg) hm r hd) ?_
    rintro σ H Q ⟨O, ρ, R, h⟩
    have h : Fin X.K O ρ σ H W Q ((g.consts.lookup x).map fun d => Rs.ok .plain [] d) := h
    rw [e] at h
    exact Fin.val h (hr H _)
/-! ### isinstance -/
def tyName : Ty → String
  | .int => "int" | .bool => "bool" | .tuple => "tuple" | .list => "list" | .str => "str"
def tyOf : D → String
  | .none => "NoneType" | .bool _ => "bool" | .int _ => "int" | .str _ => "str" | .list _ => "list" | .tuple _ => "tuple" | .dict _ => "dict"
theorem Rep.ty {K : PySem.W.Frag} {H : Hp} {P : Addr → Prop} {d : D} {v : V} (h : Rep K H P d v) : TyX K H v (.type (tyOf d)) := by
  cases h with
  | non => exact .base .non
  | bl b => exact .base (.bl b)
  | int i => exact .base (.int i)
  | str x => exact .base (.str x)
  | lst q r =>
    rcases q with ⟨_, q | ⟨o, q⟩⟩ | ⟨o, its, n, q, c, _⟩
    · exact .base (.lst q)
    · exact .base (.frz q)
    · exact .kList q c
  | tup q r =>
    rcases q with ⟨_, q | ⟨o, q⟩⟩ | ⟨o, its, n, q, c, _⟩
    · exact .base (.tup q)
    · exact .fTuple q
    · exact .kTuple q c
def kb (t : Ty) (n : String) : Bool := n == tyName t || (n == "bool" && (match t with | .int => true | _ => false))
theorem kb_ok (t : Ty) : ∀ n ∈ ["NoneType", "bool", "int", "str", "list", "tuple", "dict"], kitB n (tyName t) = some (kb t n) := by
  cases t <;> decide +kernel
theorem isType_kb (t : Ty) (d : D) : isType t d = kb t (tyOf d) := by
  cases t <;> cases d <;> rfl
theorem tyOf_mem (d : D) : tyOf d ∈ ["NoneType", "bool", "int", "str", "list", "tuple", "dict"] := by
  cases d <;> simp [tyOf]
theorem isType_kit {K : PySem.W.Frag} (t : Ty) (d : D) : PySem.W.kitOne K (.type (tyOf d)) (.type (tyName t)) = some (isType t d) := by
  rw [isType_kb]
  exact kit_ty (kb_ok t _ (tyOf_mem d))
theorem boot_ty (t : Ty) : bootBuiltins (Str.ofString (tyName t)) = some (.type (tyName t)) := by
  cases t <;> decide +kernel
theorem t_isi (C : Cxt X N sc cm cur g W) (t : Ty) {p2 : Pos} (hg : glB sc "isinstance" = true) (hg2 : glB sc (Str.ofString (tyName t)) = true) (hs : notStar a = true) (ha : PE X a (T X.K cur g W ea)) :
    PE X (.Call (.Name "isinstance" p) [a, .Name (Str.ofString (tyName t)) p2] [] pos) (T X.K cur g W (.isi t ea)) := by
  have hb : PE X (.Name (Str.ofString (tyName t)) p2) (tC (.ty (tyName t))) := pe_bltn (C.gl hg2) (C.bl (by cases t <;> decide +kernel)) (boot_ty t) rfl (by cases t <;> decide +kernel) (by cases t <;> decide +kernel)
  refine T.imp (pe_callB call_isi (C.gl hg) (C.bl (by decide)) boot_isinstance (pa_cons ha (pa_cons hb pa_nil (star1 rfl)) (star2 hs rfl)) (by decide) (by decide) (star2 hs rfl) (plain2 rfl)) ?_
  rintro σ H Q ⟨O, ρ, R, h⟩
  refine T.bind R h fun k dep d v H1 R1 s1 r1 q => ?_
  exact ⟨v, .ty (tyName t), .type (tyOf d), .type (tyName t), isType t d, rfl, .ty _, (r1.rep R s1).ty, isType_kit t d, Fin.val q (.bl _)⟩
/-- isinstance(e, c), e the exception at hand -/
theorem t_isx (C : Cxt X N sc cm cur g W) {i : Nat} {x c : Str} {p2 p3 : Pos} (hi : N[i]? = some x) (hv : Vis sc x) (hd : (x == ("__debug__" : Str)) = false) (hcd : (x == ("__classdict__" : Str)) = false) (hg : glB sc "isinstance" = true) (hg2 : glB sc c = true) (hdc : (c == ("__debug__" : Str)) = false) :
    PE X (.Call (.Name "isinstance" p) [.Name x p2, .Name c p3] [] pos) (T X.K cur g W (.isx i c)) := by
  refine ⟨fun pins s σ H Q I h => ?_⟩
  obtain ⟨O, ρ, R, h⟩ := h
  have h : Fin X.K O ρ σ H W Q (match ρ[i]? with
    | some (.exc x) => (g.isx.lookup (x, c)).map fun b => .ok .plain [] (.bool b)
    | _ => none) := h
  split at h
  · rename_i y e
    cases e2 : g.isx.lookup (y, c) with
    | none => rw [e2] at h; exact h.elim
    | some b =>
      rw [e2] at h
      obtain ⟨a, ec, es⟩ := R.exc i y e
      obtain ⟨v, u, hm, rv, ru, hk⟩ := C.isk y c b e2
      have ha : PE X (.Name x p2) (tVar i) := pe_var (by rw [C.hN]; exact hi) (by rw [C.hsc]; exact hv) hd hcd
      have hb : PE X (.Name c p3) (tC v) := by
        rcases hm with hm | ⟨hm, hv, hn⟩
        · exact pe_glob (C.gl hg2) hm rv hdc
        · exact pe_bltn (C.gl hg2) hm hv rv hn hdc
      have hp := pe_callB (X := X) (p := p) (pos := pos) (C.isx a y c b ec e2) (C.gl hg) (C.bl (by decide)) boot_isinstance (pa_cons ha (pa_cons hb pa_nil (star1 rfl)) (star2 rfl rfl)) (by decide) (by decide) (star2 rfl rfl) (plain2 rfl)
      exact hp.run pins s σ H Q I ⟨.ref a, es, v, u, b, rfl, ru, hk, Fin.val h (.bl b)⟩
  · exact h.elim
/-! ### the call of a def -/
theorem t_call (C : Cxt X N sc cm cur g W) (hc : cm = true) {k : Nat} {nm : Str} {F : Fn} (hf : g.fns[k]? = some (nm, F)) (hg : glB sc nm = true) (hd : (nm == ("__debug__" : Str)) = false) (hs : notStar a = true) (hpl : (backTo pos (starEach rest X.env)).any (·.1) = false)
    (ha : PA X (a :: rest) (Ta X.K cur g W ea)) : PE X (.Call (.Name nm p) (a :: rest) [] pos) (T X.K cur g W (.call k ea)) := by
  obtain ⟨f, fd, ps, j, hF, hr, hm, hk, hb⟩ := (C.fns hc k nm F hf).ex
  refine T.imp (pe_callS hF hr (C.gl hg) hm hk hb (fun σ => passAt C.tk σ) ha hd (notStar_eq hs _ _) hpl) ?_
  rintro σ H Q ⟨O, ρ, R, h⟩
  refine Ta.bind R h (fun k dep d _ q => ?_) fun kd dep ds vs H1 R1 s1 r1 q => ?_
  · cases d with
    | tuple ds => exact ⟨ds, rfl⟩
    | _ => exact q.elim
  · have q : Fin X.K O ρ σ H1 W Q (match g.fns[k]? with
      | some f => match f.2 ds with
        | some (.ret d) => some (.ok .plain (depF d dep) d)
        | some (.lst l) => some (.ok .fresh (depL l dep) (.list l))
        | some (.ex c) => some (.ex c)
        | none => none
      | none => none) := by
      have q : Fin X.K O ρ σ H1 W Q (match (PyData.tuple ds : D), g.fns[k]? with
        | .tuple xs, some f => match f.2 xs with
          | some (.ret d) => some (.ok .plain (depF d dep) d)
          | some (.lst l) => some (.ok .fresh (depL l dep) (.list l))
          | some (.ex c) => some (.ex c)
          | none => none
        | _, _ => none) := q
      cases e : g.fns[k]? with
      | none => rw [e] at q; exact q
      | some f => rw [e] at q; exact q
    rw [hf] at q
    have q : Fin X.K O ρ σ H1 W Q (match F ds with
      | some (.ret d) => some (.ok .plain (depF d dep) d)
      | some (.lst l) => some (.ok .fresh (depL l dep) (.list l))
      | some (.ex c) => some (.ex c)
      | none => none) := q
    have n2 : ∀ {a : Addr}, (¬ (H1 a ≠ none ∧ ¬ Pm O ρ σ dep a)) → Pm O ρ σ dep a := fun {a} z => Classical.byContradiction fun y => by
      cases e : H1 a with
      | none => exact y (R1.new e)
      | some u => exact z ⟨by rw [e]; simp, y⟩
    refine ⟨fun a => H1 a ≠ none ∧ ¬ Pm O ρ σ dep a, ds, ?_⟩
    cases e : F ds with
    | none => rw [e] at q; exact q.elim
    | some r =>
      rw [e] at q
      refine ⟨r, fun a z => z.1, RepL.stay (fun a u p r => ⟨fun z => z.2 p, r⟩) _ r1, rfl, ?_⟩
      cases r with
      | ret d => exact fun v H' s' rv => q v H' s' (Rep.dep (R1.same s') (Rep.stay (fun a u p r => ⟨n2 p, r⟩) _ rv))
      | lst l =>
        exact fun v H' s' ⟨p, xs, e1, e2, e3, rv⟩ => q v H' s' ⟨p, xs, l, rfl, e1, e2, e3, RepL.depZ (R1.same s') (RepL.stay (fun a u p r => ⟨⟨n2 p.1, p.2⟩, r⟩) _ rv)⟩
      | ex c => exact fun H' s' => q H' s'
end
end Vi

set_option maxRecDepth 100000
set_option maxHeartbeats 4000000
namespace Vi
open PySem PySem.Spec PyProof.Rows L2
theorem meets_enum1 {v : Value} {o : Obj} {H : Heap → Prop} (B : Begins v o H) :
    Meets (Builtin.«enumerate.__new__» ⟨[.type "enumerate", v], []⟩) (fun _ R s => H s.heap ∧
      R (.ok (.ret (.ref (s.heap.push o).objs.size))) { s with heap := (s.heap.push o).push { cls := .type "enumerate", data := .fields #[.none, .bool false, .ref s.heap.objs.size, rawInt 0, .none, .none] } }) :=
  .of_wp fun prog w A R s h => by
    obtain ⟨hp, g, d, tk, os⟩ := s; obtain ⟨h1, h⟩ := h
    have hsub := sub_enumerate
    have q1 : ∀ {A' : Around} {E : Value → Shared → Prop} {Q : Value → Shared → Prop}, Q (.ref hp.objs.size) ⟨hp.push o, g, d, tk, os⟩ → wpAny (model prog w) A' (pyIter v) Q E ⟨hp, g, d, tk, os⟩ :=
      fun q => B.iter prog w _ _ ⟨hp, g, d, tk, os⟩ _ h1 q
    wp_walk using q1
    refine wpAny_stack_any fun st => wpAny_pure ?_
    split
    · rename_i c _ _ _ _ _
      cases (c == Value.type "enumerate")
      · wp_walk using q1
        exact ⟨_, rfl, h⟩
      · wp_walk using q1
        exact ⟨_, rfl, h⟩
    · wp_walk using q1
      exact ⟨_, rfl, h⟩
section
variable {prog : Program} {w : World} {A : Around} {E : Value → Shared → Prop} {s : Shared}
theorem call_enum1 {v : Value} {o : Obj} {H : Heap → Prop} {Q : Value → Shared → Prop} (B : Begins v o H) (h1 : H s.heap)
    (h : ∀ h', IsEnum h' (s.heap.objs.size + 1) s.heap.objs.size 0 .none → h'.get? s.heap.objs.size = some o → h'.objs.size = s.heap.objs.size + 2 →
      (∀ b o, s.heap.get? b = some o → h'.get? b = some o) → Q (.ref (s.heap.objs.size + 1)) { s with heap := h' }) :
    wpAny (model prog w) A (call (.type "enumerate") [v]) Q E s := by
  refine callType_new F.called_enumerate (by decide) (F.typeCall_enumerate_1 _) (F.newCall_enumerate_1 _) (fun obj => F.args_object_init_2 obj _) F.entry_enumerate_new
    (meets_enum1 B) ⟨h1, ?_⟩
  have hz : (s.heap.push o).objs.size = s.heap.objs.size + 1 := Heap.size_push ..
  show _ ∧ _
  rw [hz]
  have he : IsEnum ((s.heap.push o).push { cls := .type "enumerate", data := .fields #[.none, .bool false, .ref s.heap.objs.size, rawInt 0, .none, .none] }) (s.heap.objs.size + 1) s.heap.objs.size 0 .none := by
    have := Heap.get?_push_size (s.heap.push o) (o := { cls := .type "enumerate", data := .fields #[.none, .bool false, .ref s.heap.objs.size, rawInt 0, .none, .none] }) rfl
    rw [hz] at this; exact this
  refine ⟨⟨_, he, rfl⟩, h _ he (Heap.get?_push_of_some _ (Heap.get?_push_size _ B.free)) (by rw [Heap.size_push, hz]) fun b o x => Heap.get?_push_of_some _ (Heap.get?_push_of_some _ x)⟩
end
/-- the tuple at a, each item in a new pair -/
def IteT (K : PySem.W.Frag) (a : Addr) : It :=
  ⟨fun i H => ∃ (xs : List V) (x : V), SqT K H a xs ∧ xs[i]? = some x, fun i H v H' => ∃ T x, v = .ref T ∧ H T = none ∧ H' = upd H T (.tup [.int (i : Nat), x]) ∧ ∀ xs, SqT K H a xs → xs[i]? = some x, fun i H => ∃ xs : List V, SqT K H a xs ∧ xs.length ≤ i⟩
theorem tupit_ne {h : Heap} {a it : Addr} {items : Array Value} {i : Nat} (p : IsTup h a items) (q : h.IsTupleIter it a i) : a ≠ it := by
  rintro rfl
  obtain ⟨o, e, c, _⟩ := p
  obtain ⟨o', e', c', _⟩ := q
  rw [e] at e'
  cases e'
  rw [c] at c'
  injection c' with c'
  exact absurd c' (by decide)
theorem turn_enumT {P : Program} {w : World} {K : PySem.W.Frag} {elts : List Expr} {kk : Nat} {tpos : Pos} (a e it : Addr) :
    Turn P w K (.Tuple elts kk tpos) (IteT K a) [e, it] e (fun i h => (∃ old, IsEnum h e it ((i : Nat) : Int) old) ∧ h.IsTupleIter it a i ∧ e ≠ it) where
  mem := by simp
  obj := fun i h st b hb => by
    obtain ⟨⟨old, he⟩, ⟨o, ho, hc, hd⟩, _⟩ := st
    have e' : b = e ∨ b = it := by simpa using hb
    rcases e' with z | z
    · rw [z]; exact ⟨_, he, fun v q => nomatch q⟩
    · rw [z]; exact ⟨o, ho, fun v q => by rw [hd] at q; cases q⟩
  keep := fun i h h' st k => let ⟨⟨old, he⟩, hi, hne⟩ := st; ⟨⟨old, k e (by simp) _ he⟩, hi.at fun o q => k it (by simp) o q, hne⟩
  item := by
    intro X hP hw hK hc i pins s σ H E I hf st hg
    subst hP hw hK
    obtain ⟨⟨old, he⟩, hit, hne⟩ := st
    obtain ⟨xs, x, hq, hx⟩ := hg
    obtain ⟨its, rv, p, hz⟩ := I.tuple hq
    obtain ⟨u, hu, ru⟩ := rv.get hx
    have hel : e < s.heap.objs.size := Heap.lt_size he
    have hil : it < s.heap.objs.size := by obtain ⟨_, q, _⟩ := hit; exact Heap.lt_size q
    have hta : a ≠ it := tupit_ne p hit
    have hea : e ≠ a := by
      rintro rfl
      obtain ⟨o, q, c, _⟩ := p
      rw [show s.heap.get? e = _ from he] at q
      cases q
      injection c with c
      exact absurd c (by decide)
    have lt : i < its.toArray.size := by
      have := (List.getElem?_eq_some_iff.mp hu).1
      simpa using this
    have D := Draws.tuple (prog := X.prog) (w := X.w) (A := X.A.in1) (show X.A.in1.handled = none from I.ok.hd hc) it a hta its.toArray
    refine wpAny_pyNext_enum_itemD D he ⟨hit, (show s.heap.IsTuple a its.toArray from p)⟩ lt hne (by simp; exact ⟨hne, hea⟩) fun y h' tk hy ho hit' hT hsz hk => ?_
    have ey : y = u := by
      have hy : its.toArray[i]? = some y := hy
      rw [show its.toArray[i]? = its[i]? by simp] at hy
      rw [hu] at hy
      exact (Option.some.inj hy).symm
    subst ey
    refine ⟨_, rfl, wpAny_letOwnedTupleGo_enum (s := { s with heap := h', toks := tk + 1 }) ho fun h'' he' sb => ?_⟩
    have hT2 : h''.get? s.heap.objs.size = some { cls := .type "tuple", data := .seq #[.int i tk, y] } := (sb.2 _ (Nat.ne_of_gt hel)).trans hT
    have new : ObjOk X.prog X.w (upd H s.heap.objs.size (.tup [.int (i : Nat), x])) h'' s.heap.objs.size (.tup [.int (i : Nat), x]) :=
      ⟨by show 2 ≤ sizeLine; decide, [.int i tk, y], .cons ⟨_, rfl⟩ (.cons ru .nil), ⟨_, hT2, rfl, _, rfl⟩⟩
    have I1 : Inv X pins σ (upd H s.heap.objs.size (.tup [.int (i : Nat), x])) { s with heap := h'', toks := tk + 1 } :=
      I.turnedNew (ch := [e, it]) (fun b ob hb q => (sb.2 b (fun z => hb (by simp [z]))).trans (hk b ob (fun z => hb (by simp [z])) (fun z => hb (by simp [z])) q)) hf (Nat.le_refl _) new
    refine ⟨.ref s.heap.objs.size, _, I1, rfl, ⟨_, x, rfl, I.hok.fresh (Nat.le_refl _), rfl, fun ys hy => by rw [I.tuple_inj hy hq]; exact hx⟩, ⟨⟨y, ?_⟩, hit'.1.at fun o q => (sb.2 it (Ne.symm hne)).trans q, hne⟩, fun b hb => ?_⟩
    · have e1 : ((i + 1 : Nat) : Int) = (i : Int) + 1 := by omega
      rw [e1]; exact he'
    · have hb' : b < s.heap.objs.size := by
        have e' : b = e ∨ b = it := by simpa using hb
        rcases e' with z | z
        · rw [z]; exact hel
        · rw [z]; exact hil
      rw [upd_ne (Nat.ne_of_lt hb')]
      exact (hf b hb).1
  done := by
    intro X hP hw hK hc i pins s σ H E I hf st hg
    subst hP hw hK
    obtain ⟨⟨old, he⟩, hit, hne⟩ := st
    obtain ⟨xs, hq, hx⟩ := hg
    obtain ⟨its, rv, p, hz⟩ := I.tuple hq
    obtain ⟨f0, f1, f2, f3, f4, f5⟩ := hf it (by simp)
    have hl := rv.length
    have hta : a ≠ it := tupit_ne p hit
    have hT : s.TypeIs (.ref e) "enumerate" := ⟨_, he, rfl⟩
    unfold pyNext
    refine wpAny_bind (wpAny_attempt (wpAny_callSpecial?_slot (name := Str.ofString "__next__") hT F.slot_enumerate_next
      (wpAny_call_entry F.slot_enumerate_next hT F.entry_enumerate_next ?_ (F.args_enumerate_next_1 _))))
    show wpAny _ _ (field (.ref e) 2 >>= _) _ _ _
    refine wpAny_bind (wpAny_field he rfl (x := .ref it) rfl ?_)
    refine wpAny_bind (wpAny_nextOf_tuple_end (show X.A.in1.in1.handled = none from I.ok.hd hc) hit (show s.heap.IsTuple a its.toArray from p) (by simp; omega) fun h' x he' hx' => ?_)
    obtain ⟨o, ho, hc'⟩ := hx'
    refine wpAny_bind (wpAny_isInstance (T := "StopIteration") (b := true) ⟨o, ho, hc'⟩ isSubtype_stop ?_)
    exact wpAny_pure ⟨rfl, I.turned (t' := s.toks) (fun b o hb q => he' b o hb q) f0 f1 f3 f4 f5⟩
  self := fun A i s Q E st h => let ⟨⟨_, he⟩, _⟩ := st; wpAny_pyIter_enum he h
def iEnumT (K : PySem.W.Frag) (ta : TA) : TI := fun σ H R => ta σ H fun vs H1 => ∃ a xs, vs = [.ref a] ∧ ((SqL K H1 a xs ∧ R (Ite K a) H1) ∨ (SqT K H1 a xs ∧ R (IteT K a) H1))
theorem pi_enumA {X : Cx} {e : Expr} {ta : TA} {p pos tpos : Pos} {elts : List Expr} {kk : Nat} (hg : Gl X "enumerate") (hm : X.mg "enumerate" = none) (ha : PA X [e] ta) (hs : starEach [e] X.env = [(false, eval e X.env)]) :
    PI X (.Tuple elts kk tpos) (.Call (.Name "enumerate" p) [e] [] pos) (iEnumT X.K ta) := by
  refine ⟨fun pins s σ H R I h => ?_⟩
  refine Call_ (ld_blt I hg hm boot_enumerate (PyProof.Rows.callWith_type1 (thn (ha.run pos pins s σ H _ I h) fun us s1 ⟨vs, H1, I1, r1, q1⟩ => ?_) hs rfl))
  obtain ⟨a, xs, ex, q1⟩ := q1
  subst ex
  cases r1 with
  | cons r rr =>
    cases rr
    cases r
    have fresh2 : ∀ b, b ∈ [s1.heap.objs.size + 1, s1.heap.objs.size] → FpOk X pins H1 b := fun b hb => by
      have e' : b = s1.heap.objs.size + 1 ∨ b = s1.heap.objs.size := by simpa using hb
      have hle : s1.heap.objs.size ≤ b := by
        rcases e' with z | z
        · rw [z]; exact Nat.le_add_right _ _
        · rw [z]; exact Nat.le_refl _
      exact I1.fpOk hle (I1.hok.fresh hle)
    rcases q1 with ⟨hq, q⟩ | ⟨hq, q⟩
    · obtain ⟨its, rv, p', hz⟩ := I1.list hq
      refine call_enumerate_list p'.isList fun h' he hit hsz hk => wpAny_pyIter_enum he ?_
      have I2 : Inv X pins σ H1 { s1 with heap := h' } := I1.kept (t' := s1.toks) hk
      exact ⟨s1.heap.objs.size + 1, [s1.heap.objs.size + 1, s1.heap.objs.size], _, _, H1, rfl, I2, turn_enum a (s1.heap.objs.size + 1) s1.heap.objs.size, ⟨⟨.none, he⟩, hit, Nat.succ_ne_self _⟩, fresh2, q⟩
    · obtain ⟨its, rv, p', hz⟩ := I1.tuple hq
      refine call_enum1 (begins_tuple a its.toArray) (show s1.heap.IsTuple a its.toArray from p') fun h' he hit hsz hk => wpAny_pyIter_enum he ?_
      have I2 : Inv X pins σ H1 { s1 with heap := h' } := I1.kept (t' := s1.toks) hk
      exact ⟨s1.heap.objs.size + 1, [s1.heap.objs.size + 1, s1.heap.objs.size], _, _, H1, rfl, I2, turn_enumT a (s1.heap.objs.size + 1) s1.heap.objs.size, ⟨⟨.none, he⟩, ⟨_, hit, rfl, rfl⟩, Nat.succ_ne_self _⟩, fresh2, q⟩
end Vi

set_option maxRecDepth 100000
set_option maxHeartbeats 4000000
namespace Vi
open PySem PySem.Spec PyProof.Rows L2
theorem place_ix {n : Nat} {i : Int} {j : Nat} (h : place n i = some j) : ixN n i = some j := by
  unfold place at h
  unfold ixN
  split at h
  · rename_i h0
    rw [if_pos h0]
    exact h
  · rename_i h0
    rw [if_neg h0]
    split at h
    · rename_i h1
      rw [if_pos (by omega)]
      exact h
    · cases h
theorem atI_of {α : Type} {l : List α} {i : Int} {x : α} (h : (place l.length i).bind (l[·]?) = some x) : atI l i = some x := by
  unfold atI
  cases e : place l.length i with
  | none => rw [e] at h; cases h
  | some j =>
    rw [e] at h
    rw [place_ix e]
    exact h
theorem RepL.atI {K : PySem.W.Frag} {H : Hp} {P : Addr → Prop} {ds : List D} {xs : List V} {i : Int} {d : D} (r : RepL K H P ds xs) (h : (place ds.length i).bind (ds[·]?) = some d) : ∃ v, L2.atI xs i = some v ∧ Rep K H P d v := by
  cases e : place ds.length i with
  | none => rw [e] at h; cases h
  | some j =>
    rw [e] at h
    obtain ⟨v, h1, h2⟩ := r.get (show ds[j]? = some d from h)
    refine ⟨v, ?_, h2⟩
    unfold L2.atI
    rw [← r.length, place_ix e]
    exact h1
section
variable {X : Cx} {N : List Str} {sc : Scope} {cm : Bool} {cur : Cur} {g : G} {W : WX} {a b c : Expr} {ea eb ec : E} {pos p : Pos} {rest : List Expr}
def plainIx : Expr → Bool
  | .Slice _ _ _ _ => false
  | _ => true
theorem plainIx_eq {b : Expr} (h : plainIx b = true) : PlainIx b := fun o i => by
  cases b <;> first | rfl | cases h
theorem t_idx (hi : plainIx b = true) (ha : PE X a (T X.K cur g W ea)) (hb : PE X b (T X.K cur g W eb)) : PE X (.Subscript a b pos) (T X.K cur g W (.idx ea eb)) := by
  refine T.imp (pe_ix ix_seq ha hb (plainIx_eq hi)) ?_
  rintro σ H Q ⟨O, ρ, R, h⟩
  refine t_two (k := fun _ da x _ _ y => match y with
    | .int k => (getAt x k).map fun d => .ok .plain (depF d da) d
    | _ => none) R h fun ka da x kb db y v u H1 H2 R1 R2 s1 s2 r1 r2 q => ?_
  cases y with
  | int i =>
    obtain rfl := r2.int
    have q : Fin X.K O ρ σ H2 W Q ((getAt x i).map fun d => Rs.ok .plain (depF d da) d) := q
    cases x with
    | list l =>
      obtain ⟨pa, xs, rfl, hq, r⟩ := r1.list R (same_trans s1 s2)
      cases e : (place l.length i).bind (l[·]?) with
      | none => rw [show getAt (.list l) i = (place l.length i).bind (l[·]?) from rfl, e] at q; exact q.elim
      | some d =>
        rw [show getAt (.list l) i = (place l.length i).bind (l[·]?) from rfl, e] at q
        obtain ⟨v, e1, r3⟩ := RepL.atI r e
        exact .inl ⟨pa, xs, i, v, rfl, rfl, hq, e1, Fin.val q (Rep.dep R2 r3)⟩
    | tuple l =>
      obtain ⟨pa, xs, rfl, hq, r⟩ := r1.tup
      cases e : (place l.length i).bind (l[·]?) with
      | none => rw [show getAt (.tuple l) i = (place l.length i).bind (l[·]?) from rfl, e] at q; exact q.elim
      | some d =>
        rw [show getAt (.tuple l) i = (place l.length i).bind (l[·]?) from rfl, e] at q
        obtain ⟨v, e1, r3⟩ := RepL.atI r e
        exact .inr (.inl ⟨pa, xs, i, v, rfl, rfl, hq.sqt, e1, Fin.val q (Rep.dep R2 r3)⟩)
    | str z =>
      obtain rfl := r1.str
      have q : Fin X.K O ρ σ H2 W Q ((if z.length ≤ sizeLine then (place z.length i).bind fun k => (z.cps.toList[k]?).map fun c => PyData.str ⟨#[c]⟩ else none).map fun d => Rs.ok .plain (depF d da) d) := q
      by_cases hz : z.length ≤ sizeLine
      · rw [if_pos hz] at q
        have el : z.cps.toList.length = z.length := by simp [Str.length]
        cases e : (place z.length i).bind fun k => (z.cps.toList[k]?).map fun c => PyData.str ⟨#[c]⟩ with
        | none => rw [e] at q; exact q.elim
        | some d =>
          rw [e] at q
          cases e2 : place z.length i with
          | none => rw [e2] at e; cases e
          | some j =>
            rw [e2] at e
            cases e3 : z.cps.toList[j]? with
            | none =>
              have e : (z.cps.toList[j]?).map (fun c => PyData.str ⟨#[c]⟩) = some d := e
              rw [e3] at e; cases e
            | some c =>
              have e : (z.cps.toList[j]?).map (fun c => PyData.str ⟨#[c]⟩) = some d := e
              rw [e3] at e
              cases e
              refine .inr (.inr ⟨z, i, c, rfl, rfl, hz, ?_, Fin.val q (.str _)⟩)
              unfold L2.atI
              rw [el, place_ix e2]
              exact e3
      · rw [if_neg hz] at q; exact q.elim
    | _ => exact q.elim
  | _ => exact q.elim
/-! ### slices -/
/-- a slice's part -/
def To (K : PySem.W.Frag) (cur : Cur) (g : G) (W : WX) (e : E) : TO := fun σ H Q => ∃ O ρ, StRel K cur O ρ σ H ∧ (if isMiss e = true then ∀ H', Same H H' → Q none H' else match ev g e ρ with
  | none => False
  | some (.ok _ _ (.int i)) => ∀ H', Same H H' → Q (some i) H'
  | some (.ok _ _ _) => False
  | some (.ex c) => ∀ H', Same H H' → W (.ref (He.ga K c)) none σ H')
theorem to_miss : PO X none (To X.K cur g W .miss) := ⟨fun pins s σ H Q I h => (po_none).run pins s σ H Q I (by
  obtain ⟨O, ρ, R, h⟩ := h
  rw [if_pos (show isMiss .miss = true from rfl)] at h
  exact h H same_refl)⟩
theorem to_some (hm : isMiss ea = false) (ha : PE X a (T X.K cur g W ea)) : PO X (some a) (To X.K cur g W ea) := ⟨fun pins s σ H Q I h => (po_some ha).run pins s σ H Q I (by
  obtain ⟨O, ρ, R, h⟩ := h
  rw [if_neg (by rw [hm]; exact Bool.false_ne_true)] at h
  refine ⟨O, ρ, R, ?_⟩
  cases e : ev g ea ρ with
  | none => rw [e] at h; exact h
  | some z =>
    rw [e] at h
    cases z with
    | ex c => exact h
    | ok k dep d =>
      cases d with
      | int i => exact fun v H' s' r => ⟨i, r.int, h H' s'⟩
      | _ => exact h.elim)⟩
theorem To.bind {K : PySem.W.Frag} {O : Addr → Prop} {ρ : REnv} {σ : L2.St} {H : Hp} {Q : VK} {e : E} {f : Option Int → Option Rs} {Gl : Option Int → Hp → Prop} (R : StRel K cur O ρ σ H)
    (h : Fin K O ρ σ H W Q (if isMiss e = true then f none else part (ev g e ρ) f)) (hk : ∀ o H1, StRel K cur O ρ σ H1 → Same H H1 → Fin K O ρ σ H1 W Q (f o) → Gl o H1) : To K cur g W e σ H Gl := by
  refine ⟨O, ρ, R, ?_⟩
  by_cases hm : isMiss e = true
  · rw [if_pos hm] at h ⊢
    exact fun H' s => hk none H' (R.same s) s (Fin.same s h)
  · rw [if_neg hm] at h ⊢
    cases e1 : ev g e ρ with
    | none => rw [e1] at h; exact h
    | some z =>
      rw [e1] at h
      cases z with
      | ex c => exact h
      | ok k dep d =>
        cases d with
        | int i => exact fun H' s => hk (some i) H' (R.same s) s (Fin.same s h)
        | _ => exact h.elim
theorem cut_cutV (xs : List V) (lo hi : Option Int) : cutV xs lo hi = cut xs lo hi := rfl
theorem RepL.cut {K : PySem.W.Frag} {H : Hp} {P : Addr → Prop} {ds : List D} {xs : List V} (r : RepL K H P ds xs) (lo hi : Option Int) : RepL K H P (Vi.cut ds lo hi) (cutV xs lo hi) := by
  have e := r.length
  show RepL K H P ((ds.drop (sBound ds.length 0 lo)).take (sBound ds.length ds.length hi - sBound ds.length 0 lo)) ((xs.drop (sBound xs.length 0 lo)).take (sBound xs.length xs.length hi - sBound xs.length 0 lo))
  rw [← e]
  exact (r.drop _).take _
theorem cut_whole {α : Type} {l : List α} {lo hi : Option Int} (h1 : sBound l.length 0 lo = 0) (h2 : sBound l.length l.length hi = l.length) : Vi.cut l lo hi = l := by
  unfold Vi.cut
  rw [h1, h2]
  simp
theorem t_slc {lo hi : Option Expr} {el eh : E} {p2 : Pos} (ha : PE X a (T X.K cur g W ea)) (hl : PO X lo (To X.K cur g W el)) (hh : PO X hi (To X.K cur g W eh)) : PE X (.Subscript a (.Slice lo hi none p2) pos) (T X.K cur g W (.slc ea el eh)) := by
  refine T.imp (pe_slice (sl_list.or (sl_tupA.or sl_str)) ha hl hh) ?_
  rintro σ H Q ⟨O, ρ, R, h⟩
  refine T.bind R h fun k dep d v H1 R1 s1 r1 q => ?_
  refine To.bind (f := fun l => if isMiss eh = true then (cutD d l none).map fun r => .ok r.1 (depOf r.2 dep) r.2 else part (ev g eh ρ) fun h => (cutD d l h).map fun r => .ok r.1 (depOf r.2 dep) r.2) R1 q fun l H2 R2 s2 q => ?_
  refine To.bind (f := fun h => (cutD d l h).map fun r => .ok r.1 (depOf r.2 dep) r.2) R2 q fun u H3 R3 s3 q => ?_
  have s13 := same_trans s2 s3
  have r3 := r1.stay s13
  cases d with
  | list ds =>
    obtain ⟨pa, xs, rfl, hq, r⟩ := r3.list R (same_trans s1 s13)
    exact .inl ⟨pa, xs, rfl, hq, fun p n => Fin.lst R3 q (r.cut l u) n⟩
  | tuple ds =>
    obtain ⟨pa, xs, rfl, hq, r⟩ := r3.tup
    have e := r.length
    refine .inr (.inl ⟨pa, xs, rfl, hq.sqt, fun w => ?_, fun _ p n => Fin.tup R3 q (r.cut l u) n⟩)
    have e2 : Vi.cut ds l u = ds := by
      refine cut_whole ?_ ?_
      · rw [e]; exact w.1
      · rw [e]; exact w.2
    have q : Fin X.K O ρ σ H3 W Q (some (.ok .plain dep (.tuple (Vi.cut ds l u)))) := q
    rw [e2] at q
    exact Fin.val q (.tup hq r)
  | str z =>
    obtain rfl := r3.str
    have q : Fin X.K O ρ σ H3 W Q ((if z.length ≤ sizeLine then some (Kd.plain, PyData.str ⟨(Vi.cut z.cps.toList l u).toArray⟩) else none).map fun r => Rs.ok r.1 (depOf r.2 dep) r.2) := q
    obtain ⟨hz, q⟩ := Fin.ite (r := .ex "") q
    refine .inr (.inr ⟨z, rfl, hz, ?_⟩)
    have e : cutS z l u = ⟨(Vi.cut z.cps.toList l u).toArray⟩ := by
      have el : z.cps.toList.length = z.length := by simp [Str.length]
      show (⟨((z.cps.toList.drop (sBound z.length 0 l)).take (sBound z.length z.length u - sBound z.length 0 l)).toArray⟩ : Str) = ⟨((z.cps.toList.drop (sBound z.cps.toList.length 0 l)).take (sBound z.cps.toList.length z.cps.toList.length u - sBound z.cps.toList.length 0 l)).toArray⟩
      rw [el]
    rw [e]
    exact Fin.val q (.str _)
  | _ => exact q.elim
theorem t_rev {p2 p3 p4 : Pos} {k3 : Nat} (ha : PE X a (T X.K cur g W ea)) : PE X (.Subscript a (.Slice none none (some (.UnaryOp .USub (.Constant (.int 1) k3 p4) p3)) p2) pos) (T X.K cur g W (.rev ea)) := by
  refine T.imp (pe_rev ha) ?_
  rintro σ H Q ⟨O, ρ, R, h⟩
  refine T.bind R h fun k dep d v H1 R1 s1 r1 q => ?_
  cases d with
  | list ds =>
    obtain ⟨pa, xs, rfl, hq, r⟩ := r1.list R s1
    exact ⟨pa, xs, rfl, .inl ⟨hq, fun p n => Fin.lst R1 q r.reverse n⟩⟩
  | tuple ds =>
    obtain ⟨pa, xs, rfl, hq, r⟩ := r1.tup
    exact ⟨pa, xs, rfl, .inr ⟨hq.sqt, fun p n => Fin.tup R1 q r.reverse n⟩⟩
  | _ => exact q.elim
end
end Vi

set_option maxRecDepth 100000
set_option maxHeartbeats 4000000
namespace Vi
open PySem PySem.Spec PyProof.Rows L2
section
variable {K : PySem.W.Frag} {cur : Cur} {O : Addr → Prop} {ρ ρ' : REnv} {σ σ' : L2.St} {H H' : Hp}
theorem set_cases {α : Type} {l : List α} {i j : Nat} {x y : α} (h : (l.set i x)[j]? = some y) : (j = i ∧ y = x) ∨ (j ≠ i ∧ l[j]? = some y) := by
  by_cases e : j = i
  · subst e
    by_cases hl : j < l.length
    · rw [List.getElem?_set_self hl] at h
      exact .inl ⟨rfl, (Option.some.inj h).symm⟩
    · rw [List.getElem?_eq_none (by simpa using hl)] at h
      cases h
  · rw [List.getElem?_set_ne (Ne.symm e)] at h
    exact .inr ⟨e, h⟩
theorem set_at {α : Type} {l : List α} {i : Nat} {x : α} (h : i < l.length) : (l.set i x)[i]? = some x := List.getElem?_set_self h
theorem set_ne {α : Type} {l : List α} {i j : Nat} {x : α} (h : j ≠ i) : (l.set i x)[j]? = l[j]? := List.getElem?_set_ne (Ne.symm h)
/-- no slot but i changes, and slot i owns nothing behind it -/
theorem Pm.set {s : Slot} {v : Option V} {i : Nat} {dep : List Nat} {a : Addr} (hs : ∀ ds, s ≠ .own ds) (h : Pm O ρ σ dep a) (hd : ∀ j ∈ dep, j = i) : Pm O (ρ.set i s) (σ.set i v) [] a := by
  refine ⟨h.1, fun j ds e1 e2 => ?_⟩
  rcases set_cases e1 with ⟨_, e⟩ | ⟨n, e1⟩
  · exact absurd e.symm (hs ds)
  · rw [set_ne n] at e2
    exact absurd (hd j (h.2 j ds e1 e2)) n
theorem Ow.set {s : Slot} {v : Option V} {i : Nat} {a : Addr} (hs : ∀ ds, s ≠ .own ds) (h : Ow (ρ.set i s) (σ.set i v) a) : Ow ρ σ a := by
  obtain ⟨j, ds, e1, e2⟩ := h
  rcases set_cases e1 with ⟨_, e⟩ | ⟨n, e1⟩
  · exact absurd e.symm (hs ds)
  · rw [set_ne n] at e2
    exact ⟨j, ds, e1, e2⟩
/-- a slot is stored that owns nothing -/
theorem StRel.put (R : StRel K cur O ρ σ H) {s : Slot} {v : Option V} {i : Nat} (hs : ∀ ds, s ≠ .own ds) (h1 : ∀ d, s = .val d → ∃ u, v = some u ∧ Rep K H (Pm O (ρ.set i s) (σ.set i v) []) d u)
    (h2 : ∀ c, s = .exc c → ∃ a, cur = some (a, c) ∧ v = some (.ref a)) (hi : i < ρ.length) : StRel K cur O (ρ.set i s) (σ.set i v) H := by
  have up : ∀ a, Pm O ρ σ [] a → Pm O (ρ.set i s) (σ.set i v) [] a := fun a p => p.set hs (fun j z => by simp at z)
  have hiσ : i < σ.length := by rw [← R.len]; exact hi
  refine ⟨by simp [R.len], R.od, fun j d e => ?_, fun j ds e => ?_, fun j k ds es a e1 e2 e3 e4 => ?_, fun j c e => ?_⟩
  · rcases set_cases e with ⟨rfl, e9⟩ | ⟨n, e⟩
    · obtain ⟨u, e1, r⟩ := h1 d e9.symm
      exact ⟨u, by rw [set_at hiσ, e1], r⟩
    · obtain ⟨u, e1, r⟩ := R.val j d e
      exact ⟨u, by rw [set_ne n]; exact e1, Rep.stay (.same same_refl up) _ r⟩
  · rcases set_cases e with ⟨_, e⟩ | ⟨n, e⟩
    · exact absurd e.symm (hs ds)
    · obtain ⟨a, xs, e1, e2, no, r⟩ := R.own j ds e
      exact ⟨a, xs, by rw [set_ne n]; exact e1, e2, no, RepL.stay (.same same_refl up) _ r⟩
  · rcases set_cases e1 with ⟨_, e⟩ | ⟨n, e1⟩
    · exact absurd e.symm (hs ds)
    · rcases set_cases e2 with ⟨_, e⟩ | ⟨n2, e2⟩
      · exact absurd e.symm (hs es)
      · rw [set_ne n] at e3
        rw [set_ne n2] at e4
        exact R.sep j k ds es a e1 e2 e3 e4
  · rcases set_cases e with ⟨rfl, e9⟩ | ⟨n, e⟩
    · obtain ⟨a, e1, e2⟩ := h2 c e9.symm
      exact ⟨a, e1, by rw [set_at hiσ, e2]⟩
    · obtain ⟨a, e1, e2⟩ := R.exc j c e
      exact ⟨a, e1, by rw [set_ne n]; exact e2⟩
theorem StRel.set_val (R : StRel K cur O ρ σ H) {i : Nat} {d : D} {v : V} (hi : i < ρ.length) (r : Rep K H (Pm O ρ σ []) d v) : StRel K cur O (ρ.set i (.val d)) (σ.set i (some v)) H :=
  R.put (fun _ e => nomatch e) (fun d' e => by
    cases e
    exact ⟨v, rfl, Rep.stay (.same same_refl fun a p => p.set (fun _ e => nomatch e) fun j z => by simp at z) _ r⟩) (fun _ e => nomatch e) hi
theorem Step.set_val {i : Nat} {s : Slot} {v : Option V} (hs : ∀ ds, s ≠ .own ds) : Step ρ σ H (ρ.set i s) (σ.set i v) H := ⟨fun a u e _ => e, fun a o => .inl (o.set hs), fun _ h => h⟩
theorem StRel.set_un (R : StRel K cur O ρ σ H) {i : Nat} {v : Option V} (hi : i < ρ.length) : StRel K cur O (ρ.set i .un) (σ.set i v) H :=
  R.put (fun _ e => nomatch e) (fun _ e => nomatch e) (fun _ e => nomatch e) hi
/-- a list is owned: one just made -/
theorem StRel.set_own (R : StRel K cur O ρ σ H) {i : Nat} {ds : List D} {xs : List V} {p : Addr} {H0 : Hp} (hi : i < ρ.length) (s : Same H0 H) (R0 : StRel K cur O ρ σ H0) (n : H0 p = none) (e : H p = some (.lst xs)) (r : RepL K H (fun a => Pm O ρ σ [] a ∧ a ≠ p) ds xs) :
    StRel K cur O (ρ.set i (.own ds)) (σ.set i (some (.ref p))) H := by
  have hiσ : i < σ.length := by rw [← R.len]; exact hi
  have up : ∀ a, Pm O ρ σ [] a → a ≠ p → Pm O (ρ.set i (.own ds)) (σ.set i (some (.ref p))) [] a := fun a q ne => ⟨q.1, fun j es e1 e2 => by
    rcases set_cases e1 with ⟨rfl, _⟩ | ⟨nj, e1⟩
    · rw [set_at hiσ] at e2
      cases e2
      exact absurd rfl ne
    · rw [set_ne nj] at e2
      exact q.2 j es e1 e2⟩
  -- what the slots hold is older than p
  have old : ∀ {d : D} {v : V}, Rep K H0 (Pm O ρ σ []) d v → Rep K H (Pm O (ρ.set i (.own ds)) (σ.set i (some (.ref p))) []) d v := fun r => Rep.stay (fun a u q z => ⟨up a q (fun e => by subst e; exact Rd.dom z n), Rd.same s z⟩) _ r
  have oldL : ∀ {d : List D} {v : List V}, RepL K H0 (Pm O ρ σ []) d v → RepL K H (Pm O (ρ.set i (.own ds)) (σ.set i (some (.ref p))) []) d v := fun r => RepL.stay (fun a u q z => ⟨up a q (fun e => by subst e; exact Rd.dom z n), Rd.same s z⟩) _ r
  have nop : ∀ (j : Nat) (es : List D), ρ[j]? = some (Slot.own es) → σ[j]? ≠ some (some (V.ref p)) := fun j es e1 e2 => by
    obtain ⟨a, ys, e3, e4, _⟩ := R0.own j es e1
    rw [e2] at e3
    cases e3
    rw [n] at e4
    cases e4
  refine ⟨by simp [R.len], R.od, fun j d e1 => ?_, fun j es e1 => ?_, fun j k es fs a e1 e2 e3 e4 => ?_, fun j c e1 => ?_⟩
  · rcases set_cases e1 with ⟨_, e1⟩ | ⟨nj, e1⟩
    · cases e1
    · obtain ⟨u, e2, q⟩ := R0.val j d e1
      exact ⟨u, by rw [set_ne nj]; exact e2, old q⟩
  · rcases set_cases e1 with ⟨rfl, e9⟩ | ⟨nj, e1⟩
    · cases e9
      exact ⟨p, xs, set_at hiσ, e, fun o => R0.od p o n, RepL.stay (fun a u q z => ⟨up a q.1 q.2, z⟩) _ r⟩
    · obtain ⟨a, ys, e2, e3, no, q⟩ := R0.own j es e1
      exact ⟨a, ys, by rw [set_ne nj]; exact e2, s _ _ e3, no, oldL q⟩
  · rcases set_cases e1 with ⟨hj, e1⟩ | ⟨nj, e1⟩
    · rcases set_cases e2 with ⟨hk, e2⟩ | ⟨nk, e2⟩
      · rw [hj, hk]
      · rw [hj, set_at hiσ] at e3
        cases e3
        rw [set_ne nk] at e4
        exact absurd e4 (nop k fs e2)
    · rcases set_cases e2 with ⟨hk, e2⟩ | ⟨nk, e2⟩
      · rw [hk, set_at hiσ] at e4
        cases e4
        rw [set_ne nj] at e3
        exact absurd e3 (nop j es e1)
      · rw [set_ne nj] at e3
        rw [set_ne nk] at e4
        exact R.sep j k es fs a e1 e2 e3 e4
  · rcases set_cases e1 with ⟨_, e1⟩ | ⟨nj, e1⟩
    · cases e1
    · obtain ⟨a, e2, e3⟩ := R.exc j c e1
      exact ⟨a, e2, by rw [set_ne nj]; exact e3⟩
theorem Step.set_own {i : Nat} {ds : List D} {p : Addr} (hi : i < σ.length) (n : H p = none) (s : Same H H') : Step ρ σ H (ρ.set i (.own ds)) (σ.set i (some (.ref p))) H' := by
  refine ⟨fun a u e _ => s a u e, fun a o => ?_, (Step.of_same (ρ := ρ) (σ := σ) s).dom⟩
  obtain ⟨j, es, e1, e2⟩ := o
  rcases set_cases e1 with ⟨rfl, _⟩ | ⟨nj, e1⟩
  · rw [set_at hi] at e2
    cases e2
    exact .inr n
  · rw [set_ne nj] at e2
    exact .inl ⟨j, es, e1, e2⟩
/-! ### lists are owned no more -/
theorem disown_length (dep : List Nat) (ρ : REnv) : (disown dep ρ).length = ρ.length := by simp [disown]
theorem disown_get (dep : List Nat) (ρ : REnv) (i : Nat) : (disown dep ρ)[i]? = (ρ[i]?).map fun s => match s with
    | .own ds => if dep.contains i then .val (.list ds) else .own ds
    | s => s := by
  unfold disown
  rw [List.getElem?_mapIdx] <;> (cases ρ[i]? with
  | none => rfl
  | some s => cases s <;> rfl)
theorem disown_own {dep : List Nat} {ρ : REnv} {i : Nat} {ds : List D} (h : (disown dep ρ)[i]? = some (.own ds)) : ρ[i]? = some (.own ds) ∧ i ∉ dep := by
  rw [disown_get] at h
  cases e : ρ[i]? with
  | none => rw [e] at h; cases h
  | some s =>
    rw [e] at h
    cases s with
    | own es =>
      have h : some (if dep.contains i then Slot.val (.list es) else .own es) = some (.own ds) := h
      by_cases c : dep.contains i = true
      · rw [if_pos c] at h; cases h
      · rw [if_neg c] at h
        cases h
        exact ⟨rfl, by simpa using c⟩
    | _ => cases h
theorem Pm.disown {dep : List Nat} {a : Addr} (h : Pm O ρ σ dep a) : Pm O (Vi.disown dep ρ) σ [] a := ⟨h.1, fun i ds e1 e2 => by
  obtain ⟨e3, n⟩ := disown_own e1
  exact absurd (h.2 i ds e3 e2) n⟩
theorem Ow.disown {dep : List Nat} {a : Addr} (h : Ow (Vi.disown dep ρ) σ a) : Ow ρ σ a := by
  obtain ⟨i, ds, e1, e2⟩ := h
  exact ⟨i, ds, (disown_own e1).1, e2⟩
theorem StRel.disown (R : StRel K cur O ρ σ H) (dep : List Nat) : StRel K cur O (Vi.disown dep ρ) σ H := by
  have up : ∀ a, Pm O ρ σ [] a → Pm O (Vi.disown dep ρ) σ [] a := fun a p => Pm.disown (p.mono fun i z => by simp at z)
  refine ⟨by rw [disown_length]; exact R.len, R.od, fun i d e => ?_, fun i ds e => ?_, fun i j ds es a e1 e2 e3 e4 => R.sep i j ds es a (disown_own e1).1 (disown_own e2).1 e3 e4, fun i c e => ?_⟩
  · rw [disown_get] at e
    cases e1 : ρ[i]? with
    | none => rw [e1] at e; cases e
    | some s =>
      rw [e1] at e
      cases s with
      | own es =>
        have e : some (if dep.contains i then Slot.val (.list es) else .own es) = some (.val d) := e
        by_cases c : dep.contains i = true
        · rw [if_pos c] at e
          cases e
          obtain ⟨a, xs, e2, e3, no, r⟩ := R.own i es e1
          refine ⟨_, e2, .lst (.inl ⟨⟨no, fun j fs e4 e5 => ?_⟩, .inl e3⟩) (RepL.stay (.same same_refl up) _ r)⟩
          obtain ⟨e6, n⟩ := disown_own e4
          have := R.sep j i fs es a e6 e1 e5 e2
          subst this
          exact absurd (by simpa using c) n
        · rw [if_neg c] at e; cases e
      | val d9 =>
        have e : some (Slot.val d9) = some (Slot.val d) := e
        cases e
        obtain ⟨v, e2, r⟩ := R.val i d e1
        exact ⟨v, e2, Rep.stay (.same same_refl up) _ r⟩
      | _ => cases e
  · obtain ⟨e1, n⟩ := disown_own e
    obtain ⟨a, xs, e2, e3, no, r⟩ := R.own i ds e1
    exact ⟨a, xs, e2, e3, no, RepL.stay (.same same_refl up) _ r⟩
  · rw [disown_get] at e
    cases e1 : ρ[i]? with
    | none => rw [e1] at e; cases e
    | some s =>
      rw [e1] at e
      cases s with
      | own es =>
        have e : some (if dep.contains i then Slot.val (.list es) else .own es) = some (.exc c) := e
        by_cases q : dep.contains i = true
        · rw [if_pos q] at e; cases e
        · rw [if_neg q] at e; cases e
      | exc c9 =>
        have e : some (Slot.exc c9) = some (Slot.exc c) := e
        cases e
        exact R.exc i c e1
      | _ => cases e
theorem Step.disown (dep : List Nat) : Step ρ σ H (Vi.disown dep ρ) σ H := ⟨fun a u e _ => e, fun a o => .inl o.disown, fun _ h => h⟩
/-! ### targets -/
def gT (K : PySem.W.Frag) : Tg → TG
  | .one i => gName i
  | .two i j => gTup K 2 (gCons (gName i) (gCons (gName j) gNil))
theorem RepL.two {P : Addr → Prop} {x y : D} {xs : List V} (h : RepL K H P [x, y] xs) : ∃ u v, xs = [u, v] ∧ Rep K H P x u ∧ Rep K H P y v := by
  cases h with
  | cons a b =>
    cases b with
    | cons c d =>
      cases d
      exact ⟨_, _, rfl, a, c⟩
theorem bind_ok {tg : Tg} {d : D} {x : V} {ρ1 : REnv} {Gl : L2.St → Hp → Prop} (R : StRel K cur O ρ σ H) (r : Rep K H (Pm O ρ σ []) d x) (e : bindT tg d ρ = some ρ1)
    (h : ∀ σ1, StRel K cur O ρ1 σ1 H → Step ρ σ H ρ1 σ1 H → (∀ l : List Nat, (∀ i, (match tg with | .one j => i = j | .two j k => i = j ∨ i = k) → i ∈ l) → wipe σ1 l = wipe σ l) → Gl σ1 H) : gT K tg x σ H Gl := by
  have wset : ∀ (l : List Nat) (i : Nat) (v : Option V) (τ : L2.St), i ∈ l → wipe (τ.set i v) l = wipe τ l := by
    intro l
    induction l with
    | nil => intro i v τ h; simp at h
    | cons a l ih =>
      intro i v τ h
      unfold wipe
      by_cases hi : i ∈ l
      · rw [ih i v τ hi]
      · have hia : i = a := by simpa [hi] using h
        subst hia
        have : ∀ (m : List Nat), i ∉ m → (wipe (τ.set i v) m) = (wipe τ m).set i v := by
          intro m
          induction m with
          | nil => intro _; rfl
          | cons b m ihm =>
            intro hm
            unfold wipe
            have hb : i ≠ b := fun e => hm (by simp [e])
            rw [ihm (fun z => hm (List.mem_cons_of_mem _ z)), List.set_comm _ _ hb]
        rw [this l hi, List.set_set]
  cases tg with
  | one i =>
    have e : (if i < ρ.length then some (ρ.set i (.val d)) else none) = some ρ1 := e
    by_cases hi : i < ρ.length
    · rw [if_pos hi] at e
      cases e
      exact h _ (R.set_val hi r) (Step.set_val fun _ e => nomatch e) fun l hl => wset l i _ σ (hl i rfl)
    · rw [if_neg hi] at e; cases e
  | two i j =>
    cases d with
    | tuple l =>
      match l, e, r with
      | [], e, _ => cases e
      | [_], e, _ => cases e
      | _ :: _ :: _ :: _, e, _ => cases e
      | [a, b], e, r =>
        have e : (if i < ρ.length ∧ j < ρ.length then some ((ρ.set i (.val a)).set j (.val b)) else none) = some ρ1 := e
        by_cases hi : i < ρ.length ∧ j < ρ.length
        · rw [if_pos hi] at e
          cases e
          cases r with
          | tup q rl =>
            obtain ⟨u, v, rfl, ra, rb⟩ := rl.two
            refine ⟨_, _, rfl, q.sqt, rfl, u, [v], rfl, v, [], rfl, rfl, ?_⟩
            have R1 := R.set_val hi.1 ra
            have rb1 : Rep K H (Pm O (ρ.set i (.val a)) (σ.set i (some u)) []) b v := Rep.stay (.same same_refl fun a p => p.set (fun _ e => nomatch e) fun j z => by simp at z) _ rb
            refine h _ (R1.set_val (by simpa using hi.2) rb1) ((Step.set_val (s := .val a) fun _ e => nomatch e).trans (Step.set_val (s := .val b) fun _ e => nomatch e)) fun l hl => ?_
            rw [wset l j _ _ (hl j (.inr rfl)), wset l i _ _ (hl i (.inl rfl))]
        · rw [if_neg hi] at e; cases e
    | _ => cases e
end
end Vi

set_option maxRecDepth 100000
set_option maxHeartbeats 4000000
namespace Vi
open PySem PySem.Spec PyProof.Rows L2
/-- what a walk J draws: the items xs, its container within P0, the items within P1 -/
structure Yl (K : PySem.W.Frag) (J : It) (H0 : Hp) (P0 P1 : Addr → Prop) (xs : List D) : Prop where
  stop : ∀ (i : Nat) (H' : Hp) (P' : Addr → Prop), Stay H0 H' P0 P' → xs.length ≤ i → J.stop i H'
  go : ∀ (i : Nat) (H' : Hp) (P' : Addr → Prop), Stay H0 H' P0 P' → i < xs.length → J.go i H'
  yld : ∀ (i : Nat) (H' : Hp) (P' P1' : Addr → Prop) (d : D) (x : V) (H'' : Hp), Stay H0 H' P0 P' → Stay H0 H' P1 P1' → (∀ p, H' p = none → P1' p) → xs[i]? = some d → J.yld i H' x H'' → Same H' H'' ∧ Rep K H'' P1' d x
/-- a walk's reading -/
def FinI (K : PySem.W.Frag) (O : Addr → Prop) (ρ : REnv) (σ : L2.St) (H : Hp) (W : WX) (R : It → Hp → Prop) (r : Option Rs) : Prop := match r with
  | none => False
  | some (.ok k dep d) => match items d with
    | none => False
    | some xs => ∀ J H', Same H H' → Yl K J H' (Pm O ρ σ (k.tot dep)) (Pm O ρ σ dep) xs → R J H'
  | some (.ex c) => ∀ H', Same H H' → W (.ref (He.ga K c)) none σ H'
def Ti (K : PySem.W.Frag) (cur : Cur) (g : G) (W : WX) (e : E) : TI := fun σ H R => ∃ O ρ, StRel K cur O ρ σ H ∧ FinI K O ρ σ H W R (ev g e ρ)
theorem FinI.same {K : PySem.W.Frag} {O : Addr → Prop} {ρ : REnv} {σ : L2.St} {H H1 : Hp} {W : WX} {R : It → Hp → Prop} {r : Option Rs} (s : Same H H1) (h : FinI K O ρ σ H W R r) : FinI K O ρ σ H1 W R r := by
  cases r with
  | none => exact h
  | some z =>
    cases z with
    | ex c => exact fun H2 s2 => h H2 (same_trans s s2)
    | ok k dep d =>
      have h : match items d with
        | none => False
        | some xs => ∀ J H', Same H H' → Yl K J H' (Pm O ρ σ (k.tot dep)) (Pm O ρ σ dep) xs → R J H' := h
      show match items d with
        | none => False
        | some xs => ∀ J H2, Same H1 H2 → Yl K J H2 (Pm O ρ σ (k.tot dep)) (Pm O ρ σ dep) xs → R J H2
      cases e3 : items d with
      | none => rw [e3] at h; exact h
      | some xs => rw [e3] at h; exact fun J H2 s2 => h J H2 (same_trans s s2)
section
variable {K : PySem.W.Frag} {H : Hp} {P0 P1 : Addr → Prop}
theorem stay_refl : Stay H H P0 P0 := fun a u p r => ⟨p, r⟩
theorem yl_list {a : Addr} {vs : List V} {ds : List D} (q : QL K H P0 a vs) (r : RepL K H P1 ds vs) : Yl K (Itl K a) H P0 P1 ds where
  stop := fun i H' P' s h => ⟨vs, (q.stay s).sql, by rw [← r.length]; exact h⟩
  go := fun i H' P' s h => ⟨vs, vs[i]'(by rw [← r.length]; exact h), (q.stay s).sql, by simp⟩
  yld := fun i H' P' P1' d x H'' s s1 _ e y => by
    obtain ⟨rfl, y⟩ := y
    obtain ⟨v, e1, r1⟩ := (RepL.stay s1 _ r).get e
    have := y vs (q.stay s).sql
    rw [e1] at this
    cases this
    exact ⟨same_refl, r1⟩
theorem yl_tup {a : Addr} {vs : List V} {ds : List D} (q : QT K H P0 a vs) (r : RepL K H P1 ds vs) : Yl K (Itt K a) H P0 P1 ds where
  stop := fun i H' P' s h => ⟨vs, (q.stay s).sqt, by rw [← r.length]; exact h⟩
  go := fun i H' P' s h => ⟨vs, vs[i]'(by rw [← r.length]; exact h), (q.stay s).sqt, by simp⟩
  yld := fun i H' P' P1' d x H'' s s1 _ e y => by
    obtain ⟨rfl, y⟩ := y
    obtain ⟨v, e1, r1⟩ := (RepL.stay s1 _ r).get e
    have := y vs (q.stay s).sqt
    rw [e1] at this
    cases this
    exact ⟨same_refl, r1⟩
theorem yl_str {z : Str} : Yl K (Its z) H P0 P1 (chars z) := by
  have el : (chars z).length = z.cps.size := by simp [chars]
  refine ⟨fun i H' P' s h => ?_, fun i H' P' s h => ?_, fun i H' P' P1' d x H'' s s1 _ e y => ?_⟩
  · show z.cps.size ≤ i
    omega
  · show i < z.cps.size
    omega
  · obtain ⟨rfl, c, ec, rfl⟩ := y
    have e : (z.cps.toList.map fun c => PyData.str ⟨#[c]⟩)[i]? = some d := e
    rw [List.getElem?_map, Array.getElem?_toList, ec] at e
    cases e
    exact ⟨same_refl, .str _⟩
theorem yl_rng {lo : Int} {n : Nat} : Yl K (Itr lo n) H P0 P1 (rangeD lo n) := by
  have el : (rangeD lo n).length = n := by simp [rangeD]
  refine ⟨fun i H' P' s h => ?_, fun i H' P' s h => ?_, fun i H' P' P1' d x H'' s s1 _ e y => ?_⟩
  · show n ≤ i
    omega
  · show i < n
    omega
  · obtain ⟨rfl, rfl⟩ := y
    have hi : i < n := by
      have := (List.getElem?_eq_some_iff.mp e).1
      omega
    have e : ((List.range n).map fun (k : Nat) => PyData.int (lo + k))[i]? = some d := e
    rw [List.getElem?_map, List.getElem?_range hi] at e
    cases e
    exact ⟨same_refl, .int _⟩
theorem yl_down {lo : Int} {n : Nat} : Yl K (Itc lo (-1) n) H P0 P1 (rangeDown lo n) := by
  have el : (rangeDown lo n).length = n := by simp [rangeDown]
  refine ⟨fun i H' P' s h => ?_, fun i H' P' s h => ?_, fun i H' P' P1' d x H'' s s1 _ e y => ?_⟩
  · show n ≤ i
    omega
  · show i < n
    omega
  · obtain ⟨rfl, rfl⟩ := y
    have hi : i < n := by
      have := (List.getElem?_eq_some_iff.mp e).1
      omega
    have e : ((List.range n).map fun (k : Nat) => PyData.int (lo - k))[i]? = some d := e
    rw [List.getElem?_map, List.getElem?_range hi] at e
    cases e
    refine ⟨same_refl, ?_⟩
    have : lo + (i : Int) * -1 = lo - i := by omega
    rw [this]
    exact .int _
theorem rep_pair {H' : Hp} {P : Addr → Prop} {T : Addr} {a b : D} {x y : V} (n : H' T = none) (p : P T) (ra : Rep K H' P a x) (rb : Rep K H' P b y) : Same H' (upd H' T (.tup [x, y])) ∧ Rep K (upd H' T (.tup [x, y])) P (.tuple [a, b]) (.ref T) :=
  ⟨same_upd n, .tup (.inl ⟨p, .inl upd_same⟩) (.cons (Rep.stay (.same (same_upd n) fun _ z => z) _ ra) (.cons (Rep.stay (.same (same_upd n) fun _ z => z) _ rb) .nil))⟩
theorem enumD_length : ∀ (xs : List D) (k : Nat), (enumD xs k).length = xs.length
  | [], _ => rfl
  | x :: r, k => by simp [enumD, enumD_length r]
theorem enumD_get : ∀ (xs : List D) (k i : Nat) (d : D), (enumD xs k)[i]? = some d → ∃ x, xs[i]? = some x ∧ d = .tuple [.int ((k + i : Nat) : Int), x]
  | [], _, _, _, h => by simp [enumD] at h
  | x :: r, k, 0, d, h => by
    have h : some (PyData.tuple [.int k, x]) = some d := h
    cases h
    exact ⟨x, rfl, rfl⟩
  | x :: r, k, i + 1, d, h => by
    obtain ⟨y, e1, e2⟩ := enumD_get r (k + 1) i d h
    refine ⟨y, e1, ?_⟩
    rw [e2]
    have : k + 1 + i = k + (i + 1) := by omega
    rw [this]
theorem yl_enum {a : Addr} {vs : List V} {ds : List D} (q : QL K H P0 a vs) (r : RepL K H P1 ds vs) : Yl K (Ite K a) H P0 P1 (enumD ds 0) where
  stop := fun i H' P' s h => ⟨vs, (q.stay s).sql, by rw [enumD_length] at h; rw [← r.length]; exact h⟩
  go := fun i H' P' s h => ⟨vs, vs[i]'(by rw [enumD_length] at h; rw [← r.length]; exact h), (q.stay s).sql, by simp⟩
  yld := fun i H' P' P1' d x H'' s s1 hn e y => by
    obtain ⟨T, v, rfl, n, rfl, y⟩ := y
    obtain ⟨b, e1, rfl⟩ := enumD_get _ _ _ _ e
    obtain ⟨v', e2, r1⟩ := (RepL.stay s1 _ r).get e1
    have := y vs (q.stay s).sql
    rw [e2] at this
    cases this
    rw [Nat.zero_add]
    exact rep_pair n (hn T n) (.int _) r1
theorem yl_enumT {a : Addr} {vs : List V} {ds : List D} (q : QT K H P0 a vs) (r : RepL K H P1 ds vs) : Yl K (IteT K a) H P0 P1 (enumD ds 0) where
  stop := fun i H' P' s h => ⟨vs, (q.stay s).sqt, by rw [enumD_length] at h; rw [← r.length]; exact h⟩
  go := fun i H' P' s h => ⟨vs, vs[i]'(by rw [enumD_length] at h; rw [← r.length]; exact h), (q.stay s).sqt, by simp⟩
  yld := fun i H' P' P1' d x H'' s s1 hn e y => by
    obtain ⟨T, v, rfl, n, rfl, y⟩ := y
    obtain ⟨b, e1, rfl⟩ := enumD_get _ _ _ _ e
    obtain ⟨v', e2, r1⟩ := (RepL.stay s1 _ r).get e1
    have := y vs (q.stay s).sqt
    rw [e2] at this
    cases this
    rw [Nat.zero_add]
    exact rep_pair n (hn T n) (.int _) r1
theorem pairs_length : ∀ (xs ys : List D), (pairs xs ys).length = min xs.length ys.length
  | [], ys => by simp [pairs]
  | _ :: _, [] => by simp [pairs]
  | x :: xs, y :: ys => by simp [pairs, pairs_length xs ys]
theorem pairs_get : ∀ (xs ys : List D) (i : Nat) (d : D), (pairs xs ys)[i]? = some d → ∃ x y, xs[i]? = some x ∧ ys[i]? = some y ∧ d = .tuple [x, y]
  | [], _, _, _, h => by simp [pairs] at h
  | _ :: _, [], _, _, h => by simp [pairs] at h
  | x :: xs, y :: ys, 0, d, h => by
    have h : some (PyData.tuple [x, y]) = some d := h
    cases h
    exact ⟨x, y, rfl, rfl, rfl⟩
  | x :: xs, y :: ys, i + 1, d, h => pairs_get xs ys i d h
theorem yl_zip {a b : Addr} {vs ws : List V} {ds es : List D} (q : QL K H P0 a vs) (q2 : QL K H P0 b ws) (r : RepL K H P1 ds vs) (r2 : RepL K H P1 es ws) : Yl K (Itz K a b) H P0 P1 (pairs ds es) where
  stop := fun i H' P' s h => by
    have l1 := r.length
    have l2 := r2.length
    rw [pairs_length] at h
    exact ⟨vs, ws, (q.stay s).sql, (q2.stay s).sql, by omega⟩
  go := fun i H' P' s h => by
    have l1 := r.length
    have l2 := r2.length
    rw [pairs_length] at h
    exact ⟨vs, ws, vs[i]'(by omega), ws[i]'(by omega), (q.stay s).sql, (q2.stay s).sql, by simp, by simp⟩
  yld := fun i H' P' P1' d x H'' s s1 hn e y => by
    obtain ⟨T, u, v, rfl, n, rfl, y1, y2⟩ := y
    obtain ⟨c, c2, e1, e2, rfl⟩ := pairs_get _ _ _ _ e
    obtain ⟨v1, e3, r3⟩ := (RepL.stay s1 _ r).get e1
    obtain ⟨v2, e4, r4⟩ := (RepL.stay s1 _ r2).get e2
    have z1 := y1 vs (q.stay s).sql
    have z2 := y2 ws (q2.stay s).sql
    rw [e3] at z1
    rw [e4] at z2
    cases z1
    cases z2
    exact rep_pair n (hn T n) r3 r4
theorem yl_zipT {a b : Addr} {vs ws : List V} {ds es : List D} (q : QT K H P0 a vs) (q2 : QT K H P0 b ws) (r : RepL K H P1 ds vs) (r2 : RepL K H P1 es ws) : Yl K (RZ.ItzT K a b) H P0 P1 (pairs ds es) where
  stop := fun i H' P' s h => by
    have l1 := r.length
    have l2 := r2.length
    rw [pairs_length] at h
    exact ⟨vs, ws, (q.stay s).sqt, (q2.stay s).sqt, by omega⟩
  go := fun i H' P' s h => by
    have l1 := r.length
    have l2 := r2.length
    rw [pairs_length] at h
    exact ⟨vs, ws, vs[i]'(by omega), ws[i]'(by omega), (q.stay s).sqt, (q2.stay s).sqt, by simp, by simp⟩
  yld := fun i H' P' P1' d x H'' s s1 hn e y => by
    obtain ⟨T, u, v, rfl, n, rfl, y1, y2⟩ := y
    obtain ⟨c, c2, e1, e2, rfl⟩ := pairs_get _ _ _ _ e
    obtain ⟨v1, e3, r3⟩ := (RepL.stay s1 _ r).get e1
    obtain ⟨v2, e4, r4⟩ := (RepL.stay s1 _ r2).get e2
    have z1 := y1 vs (q.stay s).sqt
    have z2 := y2 ws (q2.stay s).sqt
    rw [e3] at z1
    rw [e4] at z2
    cases z1
    cases z2
    exact rep_pair n (hn T n) r3 r4
/-- the container of a list that an expression gave -/
theorem Res.listQ {cur : Cur} {O : Addr → Prop} {ρ : REnv} {σ : L2.St} {H' : Hp} {k : Kd} {dep : List Nat} {ds : List D} {v : V} (R : StRel K cur O ρ σ H) (h : Res K O ρ σ H H' k dep (.list ds) v) :
    ∃ a xs, v = .ref a ∧ QL K H' (Pm O ρ σ (k.tot dep)) a xs ∧ RepL K H' (Pm O ρ σ dep) ds xs := by
  cases k with
  | fresh =>
    obtain ⟨p, xs, ds, e0, rfl, n, e, r⟩ := h
    cases e0
    exact ⟨p, xs, rfl, .inl ⟨R.new n, .inl e⟩, RepL.stay (fun a u p r => ⟨p.1, r⟩) _ r⟩
  | own i =>
    obtain ⟨a, xs, ds, e0, e2, rfl, e1, e, r⟩ := h
    cases e0
    exact ⟨a, xs, rfl, .inl ⟨Pm.own R e2 e1 (List.mem_cons_self ..), .inl e⟩, r⟩
  | via l => exact h.elim
  | plain =>
    cases (show Rep K H' (Pm O ρ σ dep) (.list ds) v from h) with
    | lst q r => exact ⟨_, _, rfl, q, r⟩
theorem Res.tupQ {O : Addr → Prop} {ρ : REnv} {σ : L2.St} {H' : Hp} {k : Kd} {dep : List Nat} {ds : List D} {v : V} (h : Res K O ρ σ H H' k dep (.tuple ds) v) :
    ∃ a xs, v = .ref a ∧ QT K H' (Pm O ρ σ (k.tot dep)) a xs ∧ RepL K H' (Pm O ρ σ dep) ds xs := by
  cases k with
  | fresh => obtain ⟨p, xs, ds, e0, _⟩ := h; cases e0
  | own i => obtain ⟨a, xs, ds, e0, _⟩ := h; cases e0
  | via l => exact h.elim
  | plain =>
    cases (show Rep K H' (Pm O ρ σ dep) (.tuple ds) v from h) with
    | tup q r => exact ⟨_, _, rfl, q, r⟩
end
section
variable {X : Cx} {N : List Str} {sc : Scope} {cm : Bool} {cur : Cur} {g : G} {W : WX} {a b c : Expr} {ea eb ec : E} {pos p : Pos} {tg : Expr}
theorem PI.imp {X : Cx} {e : Expr} {t t' : TI} (h : PI X tg e t) (i : ∀ σ H Q, t' σ H Q → t σ H Q) : PI X tg e t' := ⟨fun pins s σ H Q I w => h.run pins s σ H Q I (i _ _ _ w)⟩
/-- a walk over a value: lists, tuples, texts -/
theorem PI.or {e : Expr} {t t' : TE} {f f' : TE → TI} : True := trivial
theorem Ti.bind {K : PySem.W.Frag} {O : Addr → Prop} {ρ : REnv} {σ : L2.St} {H : Hp} {R : It → Hp → Prop} {Gl : VK} {e : E} {f : Kd → List Nat → D → Option Rs} (S : StRel K cur O ρ σ H) (h : FinI K O ρ σ H W R (Rs.map2 (ev g e ρ) f))
    (hk : ∀ k dep d v H1, StRel K cur O ρ σ H1 → Same H H1 → Res K O ρ σ H H1 k dep d v → FinI K O ρ σ H1 W R (f k dep d) → Gl v H1) : T K cur g W e σ H Gl := by
  refine ⟨O, ρ, S, ?_⟩
  cases e1 : ev g e ρ with
  | none => rw [e1] at h; exact h
  | some z =>
    rw [e1] at h
    cases z with
    | ex c => exact h
    | ok k dep d => exact fun v H' s r => hk k dep d v H' (S.same s) s r (FinI.same s h)
theorem ti_val (ha : PE X a (T X.K cur g W ea)) : PI X tg a (Ti X.K cur g W ea) := by
  refine ⟨fun pins s σ H R I h => ?_⟩
  obtain ⟨O, ρ, S, h⟩ := h
  cases e1 : ev g ea ρ with
  | none => rw [e1] at h; exact h.elim
  | some z =>
    cases z with
    | ex c =>
      rw [e1] at h
      refine (pi_list (tg := tg) ha).run pins s σ H R I ⟨O, ρ, S, ?_⟩
      rw [e1]
      exact h
    | ok k dep d =>
      rw [e1] at h
      have h : match items d with
        | none => False
        | some xs => ∀ J H', Same H H' → Yl X.K J H' (Pm O ρ σ (k.tot dep)) (Pm O ρ σ dep) xs → R J H' := h
      cases d with
      | list l =>
        refine (pi_list (tg := tg) ha).run pins s σ H R I ⟨O, ρ, S, ?_⟩
        rw [e1]
        intro v H' s' r
        obtain ⟨pa, xs, rfl, q, rl⟩ := r.listQ S
        exact ⟨pa, rfl, ⟨xs, q.sql⟩, h _ H' s' (yl_list q rl)⟩
      | tuple l =>
        refine (pi_tup (tg := tg) ha).run pins s σ H R I ⟨O, ρ, S, ?_⟩
        rw [e1]
        intro v H' s' r
        obtain ⟨pa, xs, rfl, q, rl⟩ := r.tupQ
        exact ⟨pa, rfl, ⟨xs, q.sqt⟩, h _ H' s' (yl_tup q rl)⟩
      | str z =>
        refine (pi_str (tg := tg) ha).run pins s σ H R I ⟨O, ρ, S, ?_⟩
        rw [e1]
        intro v H' s' r
        obtain rfl := r.str
        exact ⟨z, rfl, h _ H' s' yl_str⟩
      | _ => exact h.elim
theorem star1' (h : notStar a = true) : starEach [a] X.env = [(false, eval a X.env)] := notStar_eq h _ _
theorem star2' (ha : notStar a = true) (hb : notStar b = true) : starEach [a, b] X.env = [(false, eval a X.env), (false, eval b X.env)] := by
  rw [notStar_eq ha, star1' hb]
theorem ti_range1 (C : Cxt X N sc cm cur g W) (hg : glB sc "range" = true) (hs : notStar a = true) (ha : PE X a (T X.K cur g W ea)) : PI X tg (.Call (.Name "range" p) [a] [] pos) (Ti X.K cur g W (.range1 ea)) := by
  refine PI.imp (pi_range1 (C.gl hg) (C.bl (by decide)) (pa_cons ha pa_nil (star1 hs)) (star1' hs)) ?_
  rintro σ H R ⟨O, ρ, S, h⟩
  refine Ti.bind (f := fun _ _ x => rng1 x) S h fun k dep d v H1 S1 s1 r1 q => ?_
  cases d with
  | int n =>
    obtain rfl := r1.int
    have q : FinI X.K O ρ σ H1 W R (if small n then some (Rs.ok .plain [] (.list (rangeD 0 n.toNat))) else none) := q
    by_cases hz : small n = true
    · rw [if_pos hz] at q
      obtain ⟨h1, h2⟩ := bb hz
      exact ⟨n, rfl, of_decide_eq_true h1, of_decide_eq_true h2, q _ H1 same_refl yl_rng⟩
    · rw [if_neg hz] at q; exact q.elim
  | _ => exact q.elim
theorem ti_range2 (C : Cxt X N sc cm cur g W) (hg : glB sc "range" = true) (hs : notStar a = true) (hs2 : notStar b = true) (ha : PE X a (T X.K cur g W ea)) (hb : PE X b (T X.K cur g W eb)) : PI X tg (.Call (.Name "range" p) [a, b] [] pos) (Ti X.K cur g W (.range2 ea eb)) := by
  refine PI.imp (pi_range2 (C.gl hg) (C.bl (by decide)) (pa_cons ha (pa_cons hb pa_nil (star1 hs2)) (star2 hs hs2)) (star2' hs hs2) (star1' hs2)) ?_
  rintro σ H R ⟨O, ρ, S, h⟩
  refine Ti.bind (f := fun _ _ x => Rs.map2 (ev g eb ρ) fun _ _ y => rng2 x y) S h fun k dep x v H1 S1 s1 r1 q => ?_
  refine Ti.bind (f := fun _ _ y => rng2 x y) S1 q fun k2 dep2 y u H2 S2 s2 r2 q => ?_
  cases x with
  | int m =>
    cases y with
    | int n =>
      obtain rfl := r1.int
      obtain rfl := r2.int
      have q : FinI X.K O ρ σ H2 W R (if small m && small n then some (Rs.ok .plain [] (.list (rangeD m (n - m).toNat))) else none) := q
      by_cases hz : (small m && small n) = true
      · rw [if_pos hz] at q
        obtain ⟨hm, hn⟩ := bb hz
        obtain ⟨h1, h2⟩ := bb hm
        obtain ⟨h3, h4⟩ := bb hn
        exact ⟨m, n, rfl, ⟨of_decide_eq_true h1, of_decide_eq_true h2, of_decide_eq_true h3, of_decide_eq_true h4⟩, q _ H2 same_refl yl_rng⟩
      · rw [if_neg hz] at q; exact q.elim
    | _ => exact q.elim
  | _ => exact q.elim
theorem star3 (ha : notStar a = true) : starEach [a, b, c] X.env = (false, eval a X.env) :: starEach [b, c] X.env := notStar_eq ha _ _
theorem plain3 (hb : notStar b = true) (hc : notStar c = true) {pos : Pos} : (backTo pos (starEach [b, c] X.env)).any (·.1) = false := by
  rw [star2' hb hc]; rfl
theorem ti_range3 (C : Cxt X N sc cm cur g W) (hg : glB sc "range" = true) (hs : notStar a = true) (hs2 : notStar b = true) (hs3 : notStar c = true) (ha : PE X a (T X.K cur g W ea)) (hb : PE X b (T X.K cur g W eb)) (hc : PE X c (T X.K cur g W ec)) : PI X tg (.Call (.Name "range" p) [a, b, c] [] pos) (Ti X.K cur g W (.range3 ea eb ec)) := by
  refine PI.imp (pi_range3 (C.gl hg) (C.bl (by decide)) (pa_cons ha (pa_cons hb (pa_cons hc pa_nil (star1 hs3)) (star2 hs2 hs3)) (star3 hs)) (star3 hs) (plain3 hs2 hs3)) ?_
  rintro σ H R ⟨O, ρ, S, h⟩
  refine Ti.bind (f := fun _ _ x => Rs.map2 (ev g eb ρ) fun _ _ y => Rs.map2 (ev g ec ρ) fun _ _ z => rng3 x y z) S h fun k dep x v H1 S1 s1 r1 q => ?_
  refine Ti.bind (f := fun _ _ y => Rs.map2 (ev g ec ρ) fun _ _ z => rng3 x y z) S1 q fun k2 dep2 y u H2 S2 s2 r2 q => ?_
  refine Ti.bind (f := fun _ _ z => rng3 x y z) S2 q fun k3 dep3 z w H3 S3 s3 r3 q => ?_
  cases x with
  | int m =>
    cases y with
    | int n =>
      cases z with
      | int k =>
        obtain rfl := r1.int
        obtain rfl := r2.int
        obtain rfl := r3.int
        have q : FinI X.K O ρ σ H3 W R (if k = -1 ∧ (small m && small n) = true then some (Rs.ok .plain [] (.list (rangeDown m (m - n).toNat))) else none) := q
        by_cases hz : k = -1 ∧ (small m && small n) = true
        · have q9 := q
          rw [if_pos hz] at q9
          obtain ⟨e9, hz⟩ := hz
          subst e9
          obtain ⟨hm, hn⟩ := bb hz
          obtain ⟨h1, h2⟩ := bb hm
          obtain ⟨h3, h4⟩ := bb hn
          exact ⟨m, n, -1, (m - n).toNat, rfl, RgC.neg (of_decide_eq_true h1) (of_decide_eq_true h2) (of_decide_eq_true h3) (of_decide_eq_true h4), q9 _ H3 same_refl yl_down⟩
        · rw [if_neg hz] at q; exact q.elim
      | _ => exact q.elim
    | _ => exact q.elim
  | _ => exact q.elim
theorem tot_mono {O : Addr → Prop} {ρ : REnv} {σ : L2.St} {H : Hp} {p q : List Nat} (h : ∀ i, i ∈ p → i ∈ q) : Stay H H (Pm O ρ σ p) (Pm O ρ σ q) := fun a u z r => ⟨z.mono h, r⟩
theorem ti_enum {elts : List Expr} {kk : Nat} {tpos : Pos} (C : Cxt X N sc cm cur g W) (hg : glB sc "enumerate" = true) (hs : notStar a = true) (ha : PE X a (T X.K cur g W ea)) : PI X (.Tuple elts kk tpos) (.Call (.Name "enumerate" p) [a] [] pos) (Ti X.K cur g W (.enum ea)) := by
  refine PI.imp (pi_enumA (C.gl hg) (C.bl (by decide)) (pa_cons ha pa_nil (star1 hs)) (star1' hs)) ?_
  rintro σ H R ⟨O, ρ, S, h⟩
  refine Ti.bind (f := fun ka da x => enumR ka da x) S h fun k dep d v H1 S1 s1 r1 q => ?_
  cases d with
  | list l =>
    obtain ⟨pa, xs, rfl, hq, rl⟩ := r1.listQ S
    exact ⟨pa, xs, rfl, .inl ⟨hq.sql, q _ H1 same_refl (yl_enum hq rl)⟩⟩
  | tuple l =>
    obtain ⟨pa, xs, rfl, hq, rl⟩ := r1.tupQ
    exact ⟨pa, xs, rfl, .inr ⟨hq.sqt, q _ H1 same_refl (yl_enumT hq rl)⟩⟩
  | _ => exact q.elim
theorem ti_zip {elts : List Expr} {kk : Nat} {tpos : Pos} (C : Cxt X N sc cm cur g W) (hg : glB sc "zip" = true) (hs : notStar a = true) (hs2 : notStar b = true) (ha : PE X a (T X.K cur g W ea)) (hb : PE X b (T X.K cur g W eb)) : PI X (.Tuple elts kk tpos) (.Call (.Name "zip" p) [a, b] [] pos) (Ti X.K cur g W (.zip ea eb)) := by
  refine PI.imp (RZ.pi_zipA (C.gl hg) (C.bl (by decide)) (pa_cons ha (pa_cons hb pa_nil (star1 hs2)) (star2 hs hs2)) (star2 hs hs2) (plain2 hs2)) ?_
  rintro σ H R ⟨O, ρ, S, h⟩
  refine Ti.bind (f := fun ka da x => Rs.map2 (ev g eb ρ) fun kb db y => zipR ka da x kb db y) S h fun ka da x v H1 S1 s1 r1 q => ?_
  refine Ti.bind (f := fun kb db y => zipR ka da x kb db y) S1 q fun kb db y u H2 S2 s2 r2 q => ?_
  have r1 := r1.stay s2
  have m1 : ∀ i, i ∈ da → i ∈ da ++ db := fun i z => List.mem_append_left _ z
  have m2 : ∀ i, i ∈ db → i ∈ da ++ db := fun i z => List.mem_append_right _ z
  cases x with
  | list l =>
    cases y with
    | list m =>
      obtain ⟨pa, xs, rfl, hq, rl⟩ := r1.listQ S
      obtain ⟨pb, ys, rfl, hq2, rl2⟩ := r2.listQ S1
      have t1 : ∀ i, i ∈ ka.tot da → i ∈ (Kd.via (ka.cont ++ kb.cont)).tot (da ++ db) := fun i z => by
        simp only [Kd.tot, Kd.cont, List.mem_append] at z ⊢
        rcases z with z | z
        · exact .inl (.inl z)
        · exact .inr (.inl z)
      have t2 : ∀ i, i ∈ kb.tot db → i ∈ (Kd.via (ka.cont ++ kb.cont)).tot (da ++ db) := fun i z => by
        simp only [Kd.tot, Kd.cont, List.mem_append] at z ⊢
        rcases z with z | z
        · exact .inl (.inr z)
        · exact .inr (.inr z)
      exact ⟨pa, pb, xs, ys, rfl, .inl ⟨hq.sql, hq2.sql, q _ H2 same_refl (yl_zip (hq.stay (tot_mono t1)) (hq2.stay (tot_mono t2)) (RepL.stay (tot_mono m1) _ rl) (RepL.stay (tot_mono m2) _ rl2))⟩⟩
    | _ => exact q.elim
  | tuple l =>
    cases y with
    | tuple m =>
      obtain ⟨pa, xs, rfl, hq, rl⟩ := r1.tup
      obtain ⟨pb, ys, rfl, hq2, rl2⟩ := r2.tup
      exact ⟨pa, pb, xs, ys, rfl, .inr ⟨hq.sqt, hq2.sqt, q _ H2 same_refl (yl_zipT (hq.stay (tot_mono m1)) (hq2.stay (tot_mono m2)) (RepL.stay (tot_mono m1) _ rl) (RepL.stay (tot_mono m2) _ rl2))⟩⟩
    | _ => exact q.elim
  | _ => exact q.elim
end
end Vi

set_option maxRecDepth 100000
set_option maxHeartbeats 4000000
namespace Vi
open PySem PySem.Spec PyProof.Rows L2
theorem none_back {H H1 : Hp} {D : Addr} (s : Same H H1) (n : H1 D = none) : H D = none := by
  cases q : H D with
  | none => rfl
  | some u => rw [s _ _ q] at n; cases n
def Tg.slots : Tg → List Nat
  | .one i => [i]
  | .two i j => [i, j]
theorem set_len {α : Type} {l : List α} {i : Nat} {x : α} : (l.set i x).length = l.length := List.length_set
theorem Tg.wipe_len (tg : Tg) (ρ : REnv) : (tg.wipe ρ).length = ρ.length := by cases tg <;> simp [Tg.wipe]
theorem Tg.wipe_ne {tg : Tg} {ρ : REnv} {j : Nat} (h : j ∉ tg.slots) : (tg.wipe ρ)[j]? = ρ[j]? := by
  cases tg with
  | one i =>
    show (ρ.set i .un)[j]? = _
    rw [set_ne (fun e => h (by simp [Tg.slots, e]))]
  | two i k =>
    show ((ρ.set k .un).set i .un)[j]? = _
    rw [set_ne (fun e => h (by simp [Tg.slots, e])), set_ne (fun e => h (by simp [Tg.slots, e]))]
theorem bindT_ne {tg : Tg} {d : D} {ρ ρ1 : REnv} {j : Nat} (e : bindT tg d ρ = some ρ1) (h : j ∉ tg.slots) : ρ1[j]? = ρ[j]? := by
  cases tg with
  | one i =>
    have e : (if i < ρ.length then some (ρ.set i (.val d)) else none) = some ρ1 := e
    by_cases hi : i < ρ.length
    · rw [if_pos hi] at e
      cases e
      rw [set_ne (fun e => h (by simp [Tg.slots, e]))]
    · rw [if_neg hi] at e; cases e
  | two i k =>
    match d, e with
    | .tuple [x, y], e =>
      have e : (if i < ρ.length ∧ k < ρ.length then some ((ρ.set i (.val x)).set k (.val y)) else none) = some ρ1 := e
      by_cases hi : i < ρ.length ∧ k < ρ.length
      · rw [if_pos hi] at e
        cases e
        rw [set_ne (fun e => h (by simp [Tg.slots, e])), set_ne (fun e => h (by simp [Tg.slots, e]))]
      · rw [if_neg hi] at e; cases e
theorem tgFree_own {tg : Tg} {ρ : REnv} {j : Nat} {ds : List D} (f : tgFree tg ρ = true) (e : ρ[j]? = some (.own ds)) : j ∉ tg.slots := by
  have no : ∀ i, notOwn ρ i = true → j ≠ i := fun i hi ei => by
    subst ei
    unfold notOwn at hi
    rw [e] at hi
    cases hi
  cases tg with
  | one i => simpa [Tg.slots] using no i f
  | two i k =>
    have f : (notOwn ρ i && notOwn ρ k) = true := f
    obtain ⟨f1, f2⟩ := bb f
    simp only [Tg.slots, List.mem_cons, List.not_mem_nil, or_false, not_or]
    exact ⟨no i f1, no k f2⟩
theorem wipe_wipe1 (σ : L2.St) (tg : Tg) : wipe (wipe σ tg.slots) tg.slots = wipe σ tg.slots := by
  cases tg with
  | one i =>
    show ((σ.set i none).set i none) = σ.set i none
    rw [List.set_set]
  | two i j =>
    show ((((σ.set j none).set i none).set j none).set i none) = (σ.set j none).set i none
    by_cases h : i = j
    · subst h; simp [List.set_set]
    · rw [List.set_comm none none (l := (σ.set j none)) h, List.set_set, List.set_set]
section
variable {K : PySem.W.Frag} {cur : Cur} {O O' : Addr → Prop} {ρ ρ' : REnv} {σ σ' : L2.St} {H H' : Hp}
/-- fewer slots known, more kept from us -/
theorem StRel.less (R : StRel K cur O ρ σ H) (hl : ρ'.length = ρ.length) (hσ : σ'.length = σ.length) (od : ∀ a, O' a → H' a ≠ none) (s : Same H H') (dO : ∀ a, O a → O' a) (nO : ∀ a, H a ≠ none → O' a → O a)
    (he : ∀ (i : Nat) (c : Str), ρ'[i]? ≠ some (.exc c)) (hv : ∀ (i : Nat) (x : Slot), ρ'[i]? = some x → x ≠ .un → ρ[i]? = some x ∧ σ'[i]? = σ[i]?) : StRel K none O' ρ' σ' H' := by
  have up : ∀ a u, Pm O ρ σ [] a → Rd H a u → Pm O' ρ' σ' [] a ∧ Rd H' a u := fun a u p r => ⟨⟨fun o => p.1 (nO a (Rd.dom r) o), fun i ds e1 e2 => by
    obtain ⟨e3, e4⟩ := hv i _ e1 (fun z => nomatch z)
    exact p.2 i ds e3 (by rw [← e4]; exact e2)⟩, Rd.same s r⟩
  refine ⟨by rw [hl, hσ, R.len], od, fun i d e => ?_, fun i ds e => ?_, fun i j ds es a e1 e2 e3 e4 => ?_, fun i c e => absurd e (he i c)⟩
  · obtain ⟨e3, e4⟩ := hv i _ e (fun z => nomatch z)
    obtain ⟨v, e5, r⟩ := R.val i d e3
    exact ⟨v, by rw [e4]; exact e5, Rep.stay up _ r⟩
  · obtain ⟨e3, e4⟩ := hv i _ e (fun z => nomatch z)
    obtain ⟨a, xs, e5, e6, no, r⟩ := R.own i ds e3
    exact ⟨a, xs, by rw [e4]; exact e5, s _ _ e6, fun o => no (nO a (by rw [e6]; simp) o), RepL.stay up _ r⟩
  · obtain ⟨e5, e6⟩ := hv i _ e1 (fun z => nomatch z)
    obtain ⟨e7, e8⟩ := hv j _ e2 (fun z => nomatch z)
    exact R.sep i j ds es a e5 e7 (by rw [← e6]; exact e3) (by rw [← e8]; exact e4)
theorem noExc_get {i : Nat} {c : Str} (h : noExc ρ = true) : ρ[i]? ≠ some (.exc c) := fun e => by
  unfold noExc at h
  rw [List.all_eq_true] at h
  have := h _ (List.mem_of_getElem? e)
  cases this
theorem Tg.wipe_get {tg : Tg} {i : Nat} {x : Slot} (h : (tg.wipe ρ)[i]? = some x) (n : x ≠ .un) : ρ[i]? = some x ∧ i ∉ tg.slots := by
  by_cases hi : i ∈ tg.slots
  · exfalso
    have w1 : ∀ {r : REnv} {j : Nat}, (r.set j .un)[j]? = some x → False := fun {r j} e => by
      rcases set_cases e with ⟨_, e⟩ | ⟨z, _⟩
      · exact n e
      · exact z rfl
    cases tg with
    | one j =>
      simp only [Tg.slots, List.mem_cons, List.not_mem_nil, or_false] at hi
      subst hi
      exact w1 h
    | two j k =>
      have h : ((ρ.set k .un).set j .un)[i]? = some x := h
      simp only [Tg.slots, List.mem_cons, List.not_mem_nil, or_false] at hi
      by_cases ej : i = j
      · subst ej; exact w1 h
      · rw [set_ne ej] at h
        rcases hi with z | z
        · exact ej z
        · subst z; exact w1 h
  · rw [Tg.wipe_ne hi] at h
    exact ⟨h, hi⟩
theorem compL_cons {f : D → Option (Option D)} {d : D} {r zs : List D} (h : compL f (d :: r) = some zs) : (f d = some none ∧ compL f r = some zs) ∨ ∃ y ys, f d = some (some y) ∧ compL f r = some ys ∧ zs = y :: ys := by
  have h : (match f d with
    | none => none
    | some none => compL f r
    | some (some y) => (compL f r).map (y :: ·)) = some zs := h
  cases e : f d with
  | none => rw [e] at h; cases h
  | some o =>
    cases o with
    | none => rw [e] at h; exact .inl ⟨rfl, h⟩
    | some y =>
      rw [e] at h
      have h : (compL f r).map (y :: ·) = some zs := h
      cases e2 : compL f r with
      | none => rw [e2] at h; cases h
      | some ys =>
        rw [e2] at h
        exact .inr ⟨y, ys, rfl, rfl, (Option.some.inj h).symm⟩
end
/-- a block's tests -/
def tTs (K : PySem.W.Frag) (g : G) (e : E) : TT := if isMiss e = true then tYes else Tt K none g (fun _ _ _ _ => False) e
theorem lc_of {K : PySem.W.Frag} {cur : Cur} {g : G} {W : WX} {tg : Tg} {it c el : E} {σ : L2.St} {H : Hp} {Q : VK} (h : T K cur g W (.comp tg it c el) σ H Q) :
    tLc (Ti K cur g W it) (gT K tg) (tTs K g c) (T K none g (fun _ _ _ _ => False) el) tg.slots σ H Q := by
  obtain ⟨O, ρ, R, h⟩ := h
  have h : Fin K O ρ σ H W Q (Rs.map2 (ev g it ρ) fun _ di x => match items x, di with
    | some xs, [] => if (tgFree tg ρ && noExc ρ) = true then (compL (compF (ev g c) (ev g el) (isMiss c) tg ρ) xs).bind fun ys => if ys.length ≤ sizeLine then some (.ok .fresh [] (.list ys)) else none else none
    | _, _ => none) := h
  refine ⟨O, ρ, R, ?_⟩
  cases e1 : ev g it ρ with
  | none => rw [e1] at h; exact h
  | some z =>
    rw [e1] at h
    cases z with
    | ex cc => exact h
    | ok k dep d =>
      show match items d with
        | none => False
        | some xs => _
      have h : Fin K O ρ σ H W Q (match (generalizing := false) items d, dep with
        | some xs, [] => if (tgFree tg ρ && noExc ρ) = true then (compL (compF (ev g c) (ev g el) (isMiss c) tg ρ) xs).bind fun ys => if ys.length ≤ sizeLine then some (.ok .fresh [] (.list ys)) else none else none
        | _, _ => none) := h
      cases e2 : items d with
      | none => rw [e2] at h; cases dep <;> exact h.elim
      | some xs =>
        rw [e2] at h
        cases dep with
        | cons a b => exact h.elim
        | nil =>
          have h : Fin K O ρ σ H W Q (if (tgFree tg ρ && noExc ρ) = true then (compL (compF (ev g c) (ev g el) (isMiss c) tg ρ) xs).bind fun ys => if ys.length ≤ sizeLine then some (.ok .fresh [] (.list ys)) else none else none) := h
          by_cases hf : (tgFree tg ρ && noExc ρ) = true
          · rw [if_pos hf] at h
            obtain ⟨hf, hx⟩ := bb hf
            cases e3 : compL (compF (ev g c) (ev g el) (isMiss c) tg ρ) xs with
            | none => rw [e3] at h; exact h.elim
            | some ys =>
              rw [e3] at h
              have h : Fin K O ρ σ H W Q (if ys.length ≤ sizeLine then some (.ok .fresh [] (.list ys)) else none) := h
              by_cases hz : ys.length ≤ sizeLine
              · rw [if_pos hz] at h
                intro J H1 s1 hy D nD
                -- the block's context
                have nowR : ∀ H2, Same H1 H2 → H2 D ≠ none → StRel K none (fun a => O a ∨ a = D) (tg.wipe ρ) (wipe σ tg.slots) H2 := fun H2 s2 d2 => by
                  have R1 := R.same s1
                  refine R1.less (Tg.wipe_len _ _) (wipe_length _ _) (fun a o => ?_) s2 (fun a o => .inl o) (fun a na o => ?_) (fun i c9 e9 => ?_) fun i x e9 n9 => ?_
                  · rcases o with o | rfl
                    · exact (R1.same s2).od a o
                    · exact d2
                  · rcases o with o | rfl
                    · exact o
                    · exact absurd nD na
                  · exact noExc_get hx (Tg.wipe_get e9 (fun z => nomatch z)).1
                  · obtain ⟨e3, e4⟩ := Tg.wipe_get e9 n9
                    exact ⟨e3, wipe_out e4⟩
                refine ⟨fun i m H2 => m = xs.length - i ∧ i ≤ xs.length ∧ Same H1 H2 ∧ ∃ acc zs ws, H2 D = some (.lst acc) ∧ RepL K H2 (fun a => Pm O ρ σ [] a ∧ a ≠ D) zs acc ∧ compL (compF (ev g c) (ev g el) (isMiss c) tg ρ) (xs.drop i) = some ws ∧ ys = zs ++ ws, ⟨xs.length, by simp, Nat.zero_le _, same_upd nD, [], [], ys, upd_same, .nil, e3, rfl⟩, ?_⟩
                rintro i m H2 ⟨rfl, hi, s2, acc, zs, ws, hD, rz, hw, hys⟩
                have st0 : Stay H1 H2 (Pm O ρ σ (k.tot [])) (Pm O ρ σ (k.tot [])) := .same s2 fun _ p => p
                by_cases hlt : i < xs.length
                · refine .inr ⟨hy.go i H2 _ st0 hlt, fun H3 => i + 1 ≤ xs.length ∧ Same H1 H3 ∧ ∃ acc zs ws, H3 D = some (.lst acc) ∧ RepL K H3 (fun a => Pm O ρ σ [] a ∧ a ≠ D) zs acc ∧ compL (compF (ev g c) (ev g el) (isMiss c) tg ρ) (xs.drop (i + 1)) = some ws ∧ ys = zs ++ ws, fun H3 ⟨a1, a2, a3⟩ => ⟨xs.length - (i + 1), by omega, rfl, a1, a2, a3⟩, fun x H3 yl => ?_⟩
                  have RB := nowR H2 s2 (by rw [hD]; simp)
                  have st1 : Stay H1 H2 (Pm O ρ σ []) (Pm (fun a => O a ∨ a = D) (tg.wipe ρ) (wipe σ tg.slots) []) := fun a u p r => by
                    refine ⟨⟨fun o => ?_, fun j ds e5 e6 => ?_⟩, Rd.same s2 r⟩
                    · rcases o with o | rfl
                      · exact p.1 o
                      · exact Rd.dom r nD
                    · obtain ⟨e7, e8⟩ := Tg.wipe_get e5 (fun z => nomatch z)
                      rw [wipe_out e8] at e6
                      exact p.2 j ds e7 e6
                  obtain ⟨s3, rx⟩ := hy.yld i H2 _ _ (xs[i]) x H3 st0 st1 (fun p n => RB.new n) (by simp) yl
                  have RB3 := RB.same s3
                  have hw : compL (compF (ev g c) (ev g el) (isMiss c) tg ρ) (xs[i] :: xs.drop (i + 1)) = some ws := by
                    rw [← List.drop_eq_getElem_cons hlt]; exact hw
                  -- what the turn does
                  have turn : ∃ o, compF (ev g c) (ev g el) (isMiss c) tg ρ (xs[i]) = some o ∧ ∃ w2, compL (compF (ev g c) (ev g el) (isMiss c) tg ρ) (xs.drop (i + 1)) = some w2 ∧ ws = (match o with | none => w2 | some y => y :: w2) := by
                    rcases compL_cons hw with ⟨a1, a2⟩ | ⟨y, w2, a1, a2, a3⟩
                    · exact ⟨none, a1, ws, a2, rfl⟩
                    · exact ⟨some y, a1, w2, a2, a3⟩
                  obtain ⟨o, ho, w2, hw2, hws⟩ := turn
                  have ho : (match bindT tg (xs[i]) (tg.wipe ρ) with
                    | none => none
                    | some ρ1 => if isMiss c then compE (ev g el) ρ1 else match ev g c ρ1 with
                      | some (.ok _ _ t) => match truth t with
                        | some true => compE (ev g el) ρ1
                        | some false => some none
                        | none => none
                      | _ => none) = some o := ho
                  cases eb : bindT tg (xs[i]) (tg.wipe ρ) with
                  | none => rw [eb] at ho; cases ho
                  | some ρ1 =>
                    rw [eb] at ho
                    have ho : (if isMiss c then compE (ev g el) ρ1 else match ev g c ρ1 with
                      | some (.ok _ _ t) => match truth t with
                        | some true => compE (ev g el) ρ1
                        | some false => some none
                        | none => none
                      | _ => none) = some o := ho
                    refine bind_ok RB3 rx eb fun σ2 R2 _ hwp => ?_
                    have hwp : wipe σ2 tg.slots = wipe σ tg.slots := by
                      rw [hwp tg.slots (fun j hj => by cases tg <;> simpa [Tg.slots] using hj), wipe_wipe1]
                    refine ⟨hwp, ?_⟩
                    have sD : ∀ {H4 : Hp}, Same H3 H4 → H4 D = some (.lst acc) := fun s4 => s4 _ _ (s3 _ _ hD)
                    -- the element
                    have elm : ∀ H4, Same H3 H4 → compE (ev g el) ρ1 = some o → T K none g (fun _ _ _ _ => False) el σ2 H4 fun y H5 => ∃ acc, H5 D = some (.lst acc) ∧ acc.length < sizeLine ∧ (i + 1 ≤ xs.length ∧ Same H1 (upd H5 D (.lst (acc ++ [y]))) ∧ ∃ acc' zs ws, (upd H5 D (.lst (acc ++ [y]))) D = some (.lst acc') ∧ RepL K (upd H5 D (.lst (acc ++ [y]))) (fun a => Pm O ρ σ [] a ∧ a ≠ D) zs acc' ∧ compL (compF (ev g c) (ev g el) (isMiss c) tg ρ) (xs.drop (i + 1)) = some ws ∧ ys = zs ++ ws) := by
                      intro H4 s4 ho
                      refine ⟨_, ρ1, R2.same s4, ?_⟩
                      have ho : (match ev g el ρ1 with
                        | some (.ok k p y) => if k.tot p = [] then some (some y) else none
                        | _ => none) = some o := ho
                      cases ee : ev g el ρ1 with
                      | none => rw [ee] at ho; cases ho
                      | some z =>
                        rw [ee] at ho
                        cases z with
                        | ex _ => cases ho
                        | ok k2 p2 y2 =>
                          have ho : (if k2.tot p2 = [] then some (some y2) else none) = some o := ho
                          by_cases hk : k2.tot p2 = []
                          · rw [if_pos hk] at ho
                            cases ho
                            intro v H5 s5 r5
                            have r6 := r5.rep (R2.same s4) s5
                            rw [hk] at r6
                            have d5 : H5 D = some (.lst acc) := s5 _ _ (sD s4)
                            have la : zs.length = acc.length := rz.length
                            have lz : zs.length + (w2.length + 1) ≤ sizeLine := by
                              rw [hys, hws, List.length_append] at hz
                              exact hz
                            have s15 : Same H1 H5 := same_trans s2 (same_trans s3 (same_trans s4 s5))
                            have upS : ∀ a u, (Pm O ρ σ [] a ∧ a ≠ D) → Rd H5 a u → (Pm O ρ σ [] a ∧ a ≠ D) ∧ Rd (upd H5 D (.lst (acc ++ [v]))) a u := fun a u p r => ⟨p, r.elim (fun e => .inl (by rw [upd_ne p.2]; exact e)) fun ⟨ob, e⟩ => .inr ⟨ob, by rw [upd_ne p.2]; exact e⟩⟩
                            refine ⟨acc, d5, by omega, hlt, fun a u e => ?_, acc ++ [v], zs ++ [y2], w2, upd_same, ?_, hw2, by rw [hys, hws]; simp⟩
                            · rw [upd_ne (ne_of_none e nD)]
                              exact s15 a u e
                            · refine RepL.append (RepL.stay upS _ (RepL.stay (.same (same_trans s3 (same_trans s4 s5)) fun _ p => p) _ rz)) (.cons ?_ .nil)
                              refine Rep.stay (fun a u p r => ?_) _ r6
                              have q : Pm O ρ σ [] a ∧ a ≠ D := by
                                refine ⟨⟨fun o => p.1 (.inl o), fun j ds e5 e6 => ?_⟩, fun e => p.1 (.inr e)⟩
                                have nj := tgFree_own hf e5
                                refine p.2 j ds ?_ ?_
                                · rw [bindT_ne eb nj, Tg.wipe_ne nj]; exact e5
                                · have := wipe_out (σ := σ2) nj
                                  rw [hwp, wipe_out nj] at this
                                  rw [← this]; exact e6
                              exact upS a u q r
                          · rw [if_neg hk] at ho; cases ho
                    unfold tTs
                    by_cases hm : isMiss c = true
                    · rw [if_pos hm] at ho ⊢
                      exact elm H3 same_refl ho
                    · rw [if_neg hm] at ho ⊢
                      refine ⟨_, ρ1, R2, ?_⟩
                      cases ec : ev g c ρ1 with
                      | none => rw [ec] at ho; cases ho
                      | some z =>
                        rw [ec] at ho
                        cases z with
                        | ex _ => cases ho
                        | ok k2 p2 t =>
                          have ho : (match truth t with
                            | some true => compE (ev g el) ρ1
                            | some false => some none
                            | none => none) = some o := ho
                          show match truth t with
                            | none => False
                            | some b => _
                          cases et : truth t with
                          | none => rw [et] at ho; cases ho
                          | some b =>
                            rw [et] at ho
                            intro H4 s4
                            cases b with
                            | true => exact elm H4 s4 ho
                            | false =>
                              cases ho
                              show i + 1 ≤ xs.length ∧ Same H1 H4 ∧ _
                              exact ⟨hlt, same_trans s2 (same_trans s3 s4), acc, zs, w2, sD s4, RepL.stay (.same (same_trans s3 s4) fun _ p => p) _ rz, hw2, by rw [hys, hws]⟩
                · have ei : i = xs.length := by omega
                  subst ei
                  rw [List.drop_length] at hw
                  have hw : some [] = some ws := hw
                  cases hw
                  rw [List.append_nil] at hys
                  subst hys
                  exact .inl ⟨hy.stop _ H2 _ st0 (Nat.le_refl _), h (.ref D) H2 (same_trans s1 s2) ⟨D, acc, _, rfl, rfl, none_back s1 nD, hD, rz⟩⟩
              · rw [if_neg hz] at h; exact h.elim
          · rw [if_neg hf] at h; exact h.elim
end Vi

set_option maxRecDepth 100000
set_option maxHeartbeats 4000000
namespace Vi
open PySem PySem.Spec PyProof.Rows L2
section
variable {X : Cx} {N : List Str} {sc : Scope} {cm : Bool} {cur : Cur} {g : G} {W : WX}
theorem Cxt.blk (C : Cxt X N sc cm cur g W) (s : Shared) (H : Hp) (scope : Scope) (c : Addr) (cl : List (Str × Addr)) (fp : List Addr) :
    Cxt (X.blk s H scope (compEnvC scope cl c X.env) fp) N (relS scope sc) cm none g (fun _ _ _ _ => False) where
  hN := C.hN
  nd := C.nd
  hsc := by
    show relS scope X.env.scope = _
    rw [C.hsc]
  calm := C.calm
  tk := fun u s' ⟨a, B, sI, pins, σ, H, cls, d, e, I, nb, up, sky, na, os, ag, w⟩ => w.elim
  hu := C.hu
  fns := fun hc k nm F e => ⟨(C.fns hc k nm F e).ex⟩
  blt := C.blt
  consts := C.consts
  isx := fun a x c b e => nomatch e
  isk := C.isk
variable {elt iter tgE : Expr} {ifs : List Expr} {scope : Scope} {own : List (Str × Nat)} {pos spos : Pos} {tg : Tg} {it c el : E}
theorem t_comp (C : Cxt X N sc cm cur g W) (hc : cm = true) (hown : own.map (·.2) = tg.slots) (hi : PI X tgE iter (Ti X.K cur g W it)) (ok : BlkOk N sc scope own)
    (hg : ∀ (s : Shared) (H : Hp) (C : Addr) (cl : List (Str × Addr)) (fp : List Addr), PG (X.blk s H scope (compEnvC scope cl C X.env) fp) tgE (gT X.K tg))
    (ht : ∀ (s : Shared) (H : Hp) (C : Addr) (cl : List (Str × Addr)) (fp : List Addr), PTs (X.blk s H scope (compEnvC scope cl C X.env) fp) ifs (tTs X.K g c))
    (he : ∀ (s : Shared) (H : Hp) (C : Addr) (cl : List (Str × Addr)) (fp : List Addr), PE (X.blk s H scope (compEnvC scope cl C X.env) fp) elt (T X.K none g (fun _ _ _ _ => False) el))
    (hs : ∀ x, foldedSetIterable iter X.env x = pure x) : PE X (.ListComp elt [⟨tgE, iter, ifs, 0⟩] scope pos) (T X.K cur g W (.comp tg it c el)) := by
  refine T.imp (pe_lc (own := own) (C.calm hc) (by rw [C.hN]; exact C.nd) hi (by rw [C.hN, C.hsc]; exact ok) hg ht he hs) ?_
  intro σ H Q h
  rw [hown]
  exact lc_of h
theorem p_setLc {i : Nat} {y : Str} {py : Pos} (C : Cxt X N sc cm cur g W) (hc : cm = true) (hown : own.map (·.2) = tg.slots) (hy : N[i]? = some y) (hyl : sc.names.lookup y = some .local)
    (hsw : swapsWith (.ListComp elt [⟨tgE, iter, ifs, 0⟩] scope pos) (some (.Name y py)) spos.line X.env = pure true) (hi : PI X tgE iter (Ti X.K cur g W it)) (ok : BlkOk N sc scope own)
    (hg : ∀ (s : Shared) (H : Hp) (C : Addr) (cl : List (Str × Addr)) (fp : List Addr), PG (X.blk s H scope (compEnvC scope cl C X.env) fp) tgE (gT X.K tg))
    (ht : ∀ (s : Shared) (H : Hp) (C : Addr) (cl : List (Str × Addr)) (fp : List Addr), PTs (X.blk s H scope (compEnvC scope cl C X.env) fp) ifs (tTs X.K g c))
    (he : ∀ (s : Shared) (H : Hp) (C : Addr) (cl : List (Str × Addr)) (fp : List Addr), PE (X.blk s H scope (compEnvC scope cl C X.env) fp) elt (T X.K none g (fun _ _ _ _ => False) el))
    (hs : ∀ x, foldedSetIterable iter X.env x = pure x) : PS X (.Assign [.Name y py] (.ListComp elt [⟨tgE, iter, ifs, 0⟩] scope pos) spos) (tAsg (T X.K cur g W (.comp tg it c el)) (gName i)) := by
  have h := ps_setLc (own := own) (C.calm hc) (by rw [C.hN]; exact C.nd) (by rw [C.hN]; exact hy) (by rw [C.hsc]; exact hyl) hsw hi (by rw [C.hN, C.hsc]; exact ok) hg ht he hs
  refine ⟨fun pins s σ H D I q => h.run pins s σ H D I ?_⟩
  rw [hown]
  exact lc_of (show T X.K cur g W (.comp tg it c el) σ H (fun x H1 => gName i x σ H1 D.nx) from q)
end
end Vi

set_option maxRecDepth 100000
set_option maxHeartbeats 4000000
namespace Vi
open PySem PySem.Spec PyProof.Rows L2
def Kp (ρ : REnv) (σ : L2.St) (H H' : Hp) : Prop := ∀ a u, H a = some u → ¬ Ow ρ σ a → H' a = some u
def FinS (K : PySem.W.Frag) (cur : Cur) (O : Addr → Prop) (ρ : REnv) (σ : L2.St) (H : Hp) (W : WX) (D : Ends) (r : Option SR) : Prop := match r with
  | none => False
  | some (.nx ρ') => ∀ σ' H', StRel K cur O ρ' σ' H' → Step ρ σ H ρ' σ' H' → D.nx σ' H'
  | some (.rt d) => ∀ v H', Kp ρ σ H H' → Rep K H' (fun a => ¬ O a) d v → D.rt v H'
  | some (.rl l) => ∀ v H', Kp ρ σ H H' → (∃ p xs, v = .ref p ∧ (H p = none ∨ Ow ρ σ p) ∧ H' p = some (.lst xs) ∧ RepL K H' (fun a => ¬ O a ∧ a ≠ p) l xs) → D.rt v H'
  | some (.ex c ρ') => ∀ σ' H', StRel K cur O ρ' σ' H' → Step ρ σ H ρ' σ' H' → W (.ref (He.ga K c)) none σ' H'
def Ts (K : PySem.W.Frag) (cur : Cur) (g : G) (W : WX) (s : S) : TS := fun D σ H => ∃ O ρ, StRel K cur O ρ σ H ∧ FinS K cur O ρ σ H W D (ex g s ρ)
section
variable {K : PySem.W.Frag} {cur : Cur} {O : Addr → Prop} {ρ ρ1 : REnv} {σ σ1 : L2.St} {H H1 : Hp} {W : WX} {D : Ends} {r : Option SR} {g : G}
theorem Kp.step {H' : Hp} (s : Step ρ σ H ρ1 σ1 H1) (k : Kp ρ1 σ1 H1 H') : Kp ρ σ H H' := fun a u e n => k a u (s.keep a u e n) fun o => (s.own a o).elim n fun z => by rw [e] at z; cases z
theorem FinS.step (s : Step ρ σ H ρ1 σ1 H1) (h : FinS K cur O ρ σ H W D r) : FinS K cur O ρ1 σ1 H1 W D r := by
  cases r with
  | none => exact h
  | some z =>
    cases z with
    | nx ρ' => exact fun σ' H' R' s' => h σ' H' R' (s.trans s')
    | rt d => exact fun v H' k q => h v H' (k.step s) q
    | rl l => exact fun v H' k ⟨p, xs, e1, e2, e3⟩ => h v H' (k.step s) ⟨p, xs, e1, by
        rcases e2 with e2 | e2
        · refine .inl ?_
          cases q : H p with
          | none => rfl
          | some u => exact absurd e2 (s.dom p (by rw [q]; simp))
        · exact (s.own p e2).symm, e3⟩
    | ex c ρ' => exact fun σ' H' R' s' => h σ' H' R' (s.trans s')
theorem FinS.same (s : Same H H1) (h : FinS K cur O ρ σ H W D r) : FinS K cur O ρ σ H1 W D r := h.step (Step.of_same s)
theorem T.bindS {e : E} {k : Kd → List Nat → PyData → Option SR} {Gl : VK} (R : StRel K cur O ρ σ H) (h : FinS K cur O ρ σ H W D (toS ρ (ev g e ρ) k))
    (hk : ∀ fr dep d v H1, StRel K cur O ρ σ H1 → Same H H1 → Res K O ρ σ H H1 fr dep d v → FinS K cur O ρ σ H W D (k fr dep d) → Gl v H1) : T K cur g W e σ H Gl := by
  refine ⟨O, ρ, R, ?_⟩
  cases e1 : ev g e ρ with
  | none => rw [e1] at h; exact h
  | some x =>
    rw [e1] at h
    cases x with
    | ok fr dep d => exact fun v H' s q => hk fr dep d v H' (R.same s) s q h
    | ex c => exact fun H' s => h σ H' (R.same s) (Step.of_same s)
theorem Tt.bindS {e : E} {f : Bool → Option SR} {Gl : Bool → Hp → Prop} (R : StRel K cur O ρ σ H) (h : FinS K cur O ρ σ H W D (toS ρ (ev g e ρ) fun _ _ x => (truth x).bind f))
    (hk : ∀ t H1, StRel K cur O ρ σ H1 → Same H H1 → FinS K cur O ρ σ H1 W D (f t) → Gl t H1) : Tt K cur g W e σ H Gl := by
  refine ⟨O, ρ, R, ?_⟩
  cases e1 : ev g e ρ with
  | none => rw [e1] at h; exact h
  | some x =>
    rw [e1] at h
    cases x with
    | ok k dep d =>
      show match truth d with
        | none => False
        | some b => ∀ H', Same H H' → Gl b H'
      have h : FinS K cur O ρ σ H W D ((truth d).bind f) := h
      cases e : truth d with
      | none => rw [e] at h; exact h
      | some b => rw [e] at h; exact fun H' s => hk b H' (R.same s) s (FinS.same s h)
    | ex c => exact fun H' s => h σ H' (R.same s) (Step.of_same s)
/-- a store -/
theorem put_ok {i : Nat} {k : Kd} {dep : List Nat} {d : PyData} {v : V} {H0 : Hp} (R0 : StRel K cur O ρ σ H0) (R : StRel K cur O ρ σ H) (s : Same H0 H) (r : Res K O ρ σ H0 H k dep d v) (hi : i < ρ.length) (h : FinS K cur O ρ σ H0 W D (some (.nx (put ρ i k dep d)))) : D.nx (σ.set i (some v)) H := by
  have gen : FinS K cur O ρ σ H0 W D (some (.nx ((disown (k.tot dep) ρ).set i (.val d)))) → D.nx (σ.set i (some v)) H := fun h => by
    have rr := r.rep R0 s
    refine h _ _ ((R.disown (k.tot dep)).set_val (by rw [disown_length]; exact hi) (Rep.stay (fun a u p q => ⟨p.disown, q⟩) _ rr)) ?_
    exact (Step.of_same s).trans ((Step.disown (k.tot dep)).trans (Step.set_val fun _ e => nomatch e))
  cases k with
  | fresh =>
    cases dep with
    | nil =>
      cases d with
      | list ds =>
        obtain ⟨p, xs, ds', e, rfl, n, hp, q⟩ := r
        cases e
        exact h _ _ (R.set_own hi s R0 n hp q) (Step.set_own (by rw [← R.len]; exact hi) n s)
      | _ => exact gen h
    | cons a b => cases d <;> exact gen h
  | _ => exact gen h
end
section
variable {X : Cx} {N : List Str} {sc : Scope} {cm : Bool} {cur : Cur} {g : G} {W : WX}
/-- what statements run in -/
structure Cxs (X : Cx) (N : List Str) (sc : Scope) (cm : Bool) (cur : Cur) (g : G) (W : WX) : Prop extends Cxt X N sc cm cur g W where
  knd : sc.kind = .function
  fnT : ∀ x, X.fn x = true
  po : PassesOwn (model X.prog X.w) X.A X.env X.xe
  hst : X.stack = X.env :: X.outer
  hfr : X.env.frame = some X.env.locals
  rai : ∀ c ∈ g.rai, ∃ (B newId initId : String) (bmB : List Value), ExcBaseFacts B newId initId bmB ∧ PySem.W.excIn X.K (He.ga X.K c) bmB newId = true ∧ X.mg c = some (.ref (He.ga X.K c)) ∧ PySem.W.keepIn X.K (.ref (He.ga X.K c)) = true ∧ Raises X (.ref (He.ga X.K c))
  exk : ∀ x, (g.exm.any fun p => p.1.2 == x) = true → ∃ cv, (X.mg x = some cv ∨ (X.mg x = none ∧ bootBuiltins x = some cv ∧ x ≠ "__name__")) ∧ ∀ c b, g.exm.lookup (c, x) = some b → PySem.W.exmOne X.K (.ref (He.ga X.K c)) cv = some b
  exc : ∀ c x b, g.isx.lookup (c, x) = some b → ExcC X.K (He.ga X.K c)
variable {a b c : Expr} {ea eb ec ed e1 : E} {pos p p1 p2 : Pos} {st : Stmt} {rest : List Stmt} {s r : S} {i j : Nat} {x y : Str}
theorem p_nil : PSs X [] (Ts X.K cur g W .nil) := by
  refine ⟨fun pins s σ H D I h => pss_nil.run pins s σ H D I ?_⟩
  obtain ⟨O, ρ, R, h⟩ := h
  exact h σ H R Step.refl
theorem p_cons (h1 : PS X st (Ts X.K cur g W s)) (h2 : PSs X rest (Ts X.K cur g W r)) : PSs X (st :: rest) (Ts X.K cur g W (.cons s r)) := by
  refine ⟨fun pins s0 σ H D I h => (pss_cons h1 h2).run pins s0 σ H D I ?_⟩
  obtain ⟨O, ρ, R, h⟩ := h
  have h : FinS X.K cur O ρ σ H W D (match ex g s ρ with
    | some (.nx ρ1) => ex g r ρ1
    | x => x) := h
  refine ⟨O, ρ, R, ?_⟩
  cases e : ex g s ρ with
  | none => rw [e] at h; exact h
  | some z =>
    rw [e] at h
    cases z with
    | nx ρ' => exact fun σ' H' R' s' => ⟨O, ρ', R', FinS.step s' h⟩
    | rt d => exact h
    | rl l => exact h
    | ex c ρ' => exact h
theorem p_pass {j : Nat} : PS X (.Expr (.Constant (.str x) j p) pos) (Ts X.K cur g W .pass) := by
  refine ⟨fun pins s σ H D I h => ps_doc.run pins s σ H D I ?_⟩
  obtain ⟨O, ρ, R, h⟩ := h
  exact h σ H R Step.refl
theorem p_asg (C : Cxs X N sc cm cur g W) (hi : N[i]? = some x) (h : PS X st (tAsg (T X.K cur g W ea) (gName i))) : PS X st (Ts X.K cur g W (.set i ea)) := by
  refine ⟨fun pins s σ H D I q => h.run pins s σ H D I ?_⟩
  obtain ⟨O, ρ, R, q⟩ := q
  have q : FinS X.K cur O ρ σ H W D (toS ρ (ev g ea ρ) fun fr dep d => if i < ρ.length then some (.nx (put ρ i fr dep d)) else none) := q
  refine T.bindS R q fun fr dep d v H1 R1 s1 r1 q => ?_
  by_cases hl : i < ρ.length
  · rw [if_pos hl] at q
    exact put_ok R R1 s1 r1 hl q
  · rw [if_neg hl] at q; exact q.elim

/-! ### what slots own, written -/
theorem StRel.write {K : PySem.W.Frag} {O : Addr → Prop} {ρ : REnv} {σ : L2.St} {H : Hp} {i : Nat} {ds ds' : List PyData} {a0 : Addr} {xs' : List V} (R : StRel K cur O ρ σ H) (e : ρ[i]? = some (.own ds)) (e1 : σ[i]? = some (some (.ref a0))) (hr : RepL K H (Pm O ρ σ []) ds' xs') :
    StRel K cur O (ρ.set i (.own ds')) σ (upd H a0 (.lst xs')) ∧ Step ρ σ H (ρ.set i (.own ds')) σ (upd H a0 (.lst xs')) := by
  have ow0 : Ow ρ σ a0 := ⟨i, ds, e, e1⟩
  have hi : i < ρ.length := (List.getElem?_eq_some_iff.mp e).1
  have owb : ∀ {j : Nat} {es : List PyData}, (ρ.set i (.own ds'))[j]? = some (.own es) → ∃ fs, ρ[j]? = some (.own fs) := fun {j es} h => by
    rcases set_cases h with ⟨rfl, _⟩ | ⟨n, h⟩
    · exact ⟨ds, e⟩
    · exact ⟨es, h⟩
  have up : ∀ a u, Pm O ρ σ [] a → Rd H a u → Pm O (ρ.set i (.own ds')) σ [] a ∧ Rd (upd H a0 (.lst xs')) a u := fun a u q r => by
    have ne : a ≠ a0 := fun z => q.not_ow (z ▸ ow0)
    refine ⟨⟨q.1, fun j es h1 h2 => ?_⟩, r.elim (fun z => .inl (by rw [upd_ne ne]; exact z)) fun ⟨o, z⟩ => .inr ⟨o, by rw [upd_ne ne]; exact z⟩⟩
    obtain ⟨fs, h3⟩ := owb h1
    exact q.2 j fs h3 h2
  refine ⟨⟨by simp [R.len], fun a o z => ?_, fun j d h => ?_, fun j es h => ?_, fun j k es fs a h1 h2 h3 h4 => ?_, fun j c h => ?_⟩, ⟨fun a u h n => ?_, fun a o => ?_, fun a h z => ?_⟩⟩
  · by_cases q : a = a0
    · rw [q, upd_same] at z; cases z
    · rw [upd_ne q] at z; exact R.od a o z
  · rcases set_cases h with ⟨_, h⟩ | ⟨n, h⟩
    · cases h
    · obtain ⟨v, h1, r⟩ := R.val j d h
      exact ⟨v, h1, Rep.stay up _ r⟩
  · rcases set_cases h with ⟨rfl, h9⟩ | ⟨n, h⟩
    · cases h9
      obtain ⟨a, xs, h1, h2, no, _⟩ := R.own j ds e
      rw [e1] at h1
      cases h1
      exact ⟨a0, xs', e1, upd_same, no, RepL.stay up _ hr⟩
    · obtain ⟨a, xs, h1, h2, no, r⟩ := R.own j es h
      have ne : a ≠ a0 := fun z => n (R.sep j i es ds a h e h1 (by rw [z]; exact e1))
      exact ⟨a, xs, h1, by rw [upd_ne ne]; exact h2, no, RepL.stay up _ r⟩
  · obtain ⟨_, h5⟩ := owb h1
    obtain ⟨_, h6⟩ := owb h2
    exact R.sep j k _ _ a h5 h6 h3 h4
  · rcases set_cases h with ⟨_, h⟩ | ⟨n, h⟩
    · cases h
    · exact R.exc j c h
  · have ne : a ≠ a0 := fun z => n (z ▸ ow0)
    rw [upd_ne ne]
    exact h
  · obtain ⟨j, es, h1, h2⟩ := o
    obtain ⟨fs, h3⟩ := owb h1
    exact .inl ⟨j, fs, h3, h2⟩
  · by_cases q : a = a0
    · rw [q, upd_same] at z; cases z
    · rw [upd_ne q] at z; exact h z
theorem tv_own {i : Nat} {O : Addr → Prop} {ρ : REnv} {σ : L2.St} {H : Hp} {K : PySem.W.Frag} {ds : List PyData} {Gl : VK} (R : StRel K cur O ρ σ H) (e : ρ[i]? = some (.own ds)) (hk : ∀ a0, σ[i]? = some (some (.ref a0)) → (∃ xs, H a0 = some (.lst xs)) → Gl (.ref a0) H) : tVar i σ H Gl := by
  obtain ⟨a, xs, h1, h2, _⟩ := R.own i ds e
  exact ⟨_, h1, hk a h1 ⟨xs, h2⟩⟩
theorem pv (C : Cxt X N sc cm cur g W) (hi : N[i]? = some x) (hv : Vis sc x) (hd : (x == ("__debug__" : Str)) = false) (hcd : (x == ("__classdict__" : Str)) = false) : PE X (.Name x pos) (tVar i) := pe_var (by rw [C.hN]; exact hi) (by rw [C.hsc]; exact hv) hd hcd
theorem p_app (C : Cxs X N sc cm cur g W) (hi : N[i]? = some x) (hv : Vis sc x) (hd : (x == ("__debug__" : Str)) = false) (hcd : (x == ("__classdict__" : Str)) = false) (hs : notStar a = true) (ha : PE X a (T X.K cur g W ea)) {ap cp : Pos} (hl : (ap.endLine == cp.line) = true)
    (hb : attributeBase (.Name x p) "append" X.env (eval (.Name x p) X.env) = eval (.Name x p) X.env) : PS X (.Expr (.Call (.Attribute (.Name x p) "append" ap) [a] [] cp) pos) (Ts X.K cur g W (.app i ea)) := by
  refine ⟨fun pins s σ H D I q => ?_⟩
  obtain ⟨O, ρ, R, q⟩ := q
  have q : FinS X.K cur O ρ σ H W D (match ρ[i]? with
    | some (.own ds) => toS ρ (ev g ea ρ) fun ke de d => if ke.tot de = [] ∧ ds.length < sizeLine then some (.nx (ρ.set i (.own (ds ++ [d])))) else none
    | _ => none) := q
  split at q
  · rename_i ds e
    have hst := star1 (X := X) hs
    refine (ps_expr (pe_bm PySem.F.plainAttrs_list PySem.F.slot_list_append PySem.F.type_list_append mt_append (pv C.toCxt hi hv hd hcd) (pa_cons ha pa_nil hst) hb (by rw [hst]; rfl) hl hst rfl)).run pins s σ H D I ?_
    show tVar i σ H (fun x H1 => tyV X.K "list" x H1 ∧ T X.K cur g W ea σ H1 fun y H2 => rAppend x [y] H2 fun _ H3 => D.nx σ H3)
    refine tv_own R e fun a0 ha0 ⟨xs0, hx0⟩ => ⟨.inl ⟨rfl, xs0, .inl (.inl hx0)⟩, ?_⟩
    refine T.bindS R q fun fr dep d v H1 R1 s1 r1 q => ?_
    by_cases hz : fr.tot dep = [] ∧ ds.length < sizeLine
    · rw [if_pos hz] at q
      obtain ⟨a, xs, h1, h2, no, r⟩ := R1.own i ds e
      rw [ha0] at h1
      cases h1
      have rv := r1.rep R s1
      rw [hz.1] at rv
      have W1 := R1.write e ha0 (r.append (.cons rv .nil))
      exact ⟨a0, xs, v, rfl, rfl, h2, by rw [← r.length]; exact hz.2, q _ _ W1.1 ((Step.of_same s1).trans W1.2)⟩
    · rw [if_neg hz] at q; exact q.elim
  · exact q.elim
end
end Vi

set_option maxRecDepth 100000
set_option maxHeartbeats 4000000
namespace Vi
open PySem PySem.Spec PyProof.Rows L2
section
variable {X : Cx} {N : List Str} {sc : Scope} {cm : Bool} {cur : Cur} {g : G} {W : WX}
variable {a b c : Expr} {ea eb ec ed e1 : E} {pos p p1 p2 p3 p4 : Pos} {st : Stmt} {rest : List Stmt} {s r sa sb : S} {i j : Nat} {x y : Str}
theorem p_ext (C : Cxs X N sc cm cur g W) (hi : N[i]? = some x) (hv : Vis sc x) (hd : (x == ("__debug__" : Str)) = false) (hcd : (x == ("__classdict__" : Str)) = false) (hs : notStar a = true) (ha : PE X a (T X.K cur g W ea)) {ap cp : Pos} (hl : (ap.endLine == cp.line) = true)
    (hb : attributeBase (.Name x p) "extend" X.env (eval (.Name x p) X.env) = eval (.Name x p) X.env) : PS X (.Expr (.Call (.Attribute (.Name x p) "extend" ap) [a] [] cp) pos) (Ts X.K cur g W (.ext i ea)) := by
  refine ⟨fun pins s σ H D I q => ?_⟩
  obtain ⟨O, ρ, R, q⟩ := q
  have q : FinS X.K cur O ρ σ H W D (match ρ[i]? with
    | some (.own ds) => toS ρ (ev g ea ρ) fun ke de d => match d with
      | .list es => if ke = .fresh ∧ de = [] ∧ ds.length + es.length ≤ sizeLine then some (.nx (ρ.set i (.own (ds ++ es)))) else none
      | _ => none
    | _ => none) := q
  split at q
  · rename_i ds e
    have hst := star1 (X := X) hs
    refine (ps_expr (pe_bm PySem.F.plainAttrs_list PySem.F.slot_list_extend PySem.F.type_list_extend mt_extend (pv C.toCxt hi hv hd hcd) (pa_cons ha pa_nil hst) hb (by rw [hst]; rfl) hl hst rfl)).run pins s σ H D I ?_
    show tVar i σ H (fun x H1 => tyV X.K "list" x H1 ∧ T X.K cur g W ea σ H1 fun y H2 => rExtend x [y] H2 fun _ H3 => D.nx σ H3)
    refine tv_own R e fun a0 ha0 ⟨xs0, hx0⟩ => ⟨.inl ⟨rfl, xs0, .inl (.inl hx0)⟩, ?_⟩
    refine T.bindS R q fun fr dep d v H1 R1 s1 r1 q => ?_
    cases d with
    | list es =>
      have q : FinS X.K cur O ρ σ H W D (if fr = .fresh ∧ dep = [] ∧ ds.length + es.length ≤ sizeLine then some (.nx (ρ.set i (.own (ds ++ es)))) else none) := q
      by_cases hz : fr = .fresh ∧ dep = [] ∧ ds.length + es.length ≤ sizeLine
      · have q9 := q
        rw [if_pos hz] at q9
        clear q
        obtain ⟨h7, h8, h9⟩ := hz
        subst h7
        subst h8
        obtain ⟨a, xs, h1, h2, no, r⟩ := R1.own i ds e
        rw [ha0] at h1
        cases h1
        obtain ⟨p, ys, es', ee, rfl, n, hp, re⟩ := r1
        cases ee
        have W1 := R1.write e ha0 (r.append (RepL.stay (fun a u q z => ⟨q.1, z⟩) _ re))
        exact ⟨a0, p, xs, ys, rfl, rfl, h2, hp, by rw [← r.length, ← re.length]; exact h9, q9 _ _ W1.1 ((Step.of_same s1).trans W1.2)⟩
      · rw [if_neg hz] at q; exact q.elim
    | _ => exact q.elim
  · exact q.elim
theorem p_pop (C : Cxs X N sc cm cur g W) (hi : N[i]? = some x) (hv : Vis sc x) (hd : (x == ("__debug__" : Str)) = false) (hcd : (x == ("__classdict__" : Str)) = false) {ap cp : Pos} (hl : (ap.endLine == cp.line) = true)
    (hb : attributeBase (.Name x p) "pop" X.env (eval (.Name x p) X.env) = eval (.Name x p) X.env) : PS X (.Expr (.Call (.Attribute (.Name x p) "pop" ap) [] [] cp) pos) (Ts X.K cur g W (.pop i)) := by
  refine ⟨fun pins s σ H D I q => ?_⟩
  obtain ⟨O, ρ, R, q⟩ := q
  have q : FinS X.K cur O ρ σ H W D (match ρ[i]? with
    | some (.own ds) => if ds ≠ [] then some (.nx (ρ.set i (.own ds.dropLast))) else none
    | _ => none) := q
  split at q
  · rename_i ds e
    refine (ps_expr (pe_bm0 PySem.F.plainAttrs_list PySem.F.slot_list_pop PySem.F.type_list_pop mt_pop (pv C.toCxt hi hv hd hcd) hb hl)).run pins s σ H D I ?_
    show tVar i σ H (fun x H1 => tyV X.K "list" x H1 ∧ rPop x [] H1 fun _ H3 => D.nx σ H3)
    refine tv_own R e fun a0 ha0 ⟨xs0, hx0⟩ => ⟨.inl ⟨rfl, xs0, .inl (.inl hx0)⟩, ?_⟩
    by_cases hz : ds ≠ []
    · rw [if_pos hz] at q
      obtain ⟨a, xs, h1, h2, no, r⟩ := R.own i ds e
      rw [ha0] at h1
      cases h1
      have W1 := R.write e ha0 r.dropLast
      have hl := r.length
      have hp : 0 < ds.length := List.length_pos_iff.mpr hz
      exact ⟨a0, xs, xs[xs.length - 1]'(by omega), rfl, rfl, h2, by simp, q _ _ W1.1 W1.2⟩
    · rw [if_neg hz] at q; exact q.elim
  · exact q.elim
theorem p_expr (he : PE X a (T X.K cur g W ea)) (hs : swapsWith a none pos.line X.env = pure false) : PS X (.Expr a pos) (Ts X.K cur g W (.expr ea)) := by
  refine ⟨fun pins s σ H D I q => (ps_expr he hs).run pins s σ H D I ?_⟩
  obtain ⟨O, ρ, R, q⟩ := q
  exact T.bindS (k := fun _ _ _ => some (.nx ρ)) R q fun fr dep d v H1 R1 s1 r1 q => q _ _ R1 (Step.of_same s1)
theorem p_ret (he : PE X a (T X.K cur g W ea)) : PS X (.Return (some a) pos) (Ts X.K cur g W (.ret ea)) := by
  refine ⟨fun pins s σ H D I q => (ps_ret he).run pins s σ H D I ?_⟩
  obtain ⟨O, ρ, R, q⟩ := q
  refine T.bindS (k := fun k dep d => some (retOf k dep d)) R q fun fr dep d v H1 R1 s1 r1 q => ?_
  have gen : FinS X.K cur O ρ σ H W D (some (.rt d)) → D.rt v H1 := fun q => q v H1 (fun a u e _ => s1 a u e) (Rep.stay (fun a u p z => ⟨p.1, z⟩) _ (r1.rep R s1))
  cases fr with
  | fresh =>
    cases d with
    | list l =>
      obtain ⟨p, xs, ds, e, rfl, n, hp, rl⟩ := r1
      cases e
      exact q _ H1 (fun a u e _ => s1 a u e) ⟨p, xs, rfl, .inl n, hp, RepL.stay (fun a u p z => ⟨⟨p.1.1, p.2⟩, z⟩) _ rl⟩
    | _ => exact gen q
  | own i =>
    cases dep with
    | nil =>
      cases d with
      | list l =>
        obtain ⟨a0, xs, ds, e, e0, rfl, e1, hp, rl⟩ := r1
        cases e
        exact q _ H1 (fun a u e _ => s1 a u e) ⟨a0, xs, rfl, .inr ⟨i, _, e0, e1⟩, hp, RepL.stay (fun a u p z => ⟨⟨p.1, fun e9 => p.not_ow (e9 ▸ ⟨i, _, e0, e1⟩)⟩, z⟩) _ rl⟩
      | _ => exact gen q
    | cons a b => cases d <;> exact gen q
  | _ => exact gen q
theorem p_retn : PS X (.Return none pos) (Ts X.K cur g W .retn) := by
  refine ⟨fun pins s σ H D I q => ps_retN.run pins s σ H D I ?_⟩
  obtain ⟨O, ρ, R, q⟩ := q
  exact q _ _ (fun a u e _ => e) .non
theorem ex_ite {ρ : REnv} : ex g (.ite ec sa sb) ρ = toS ρ (ev g ec ρ) fun _ _ x => (truth x).bind fun t => if t = true then ex g sa ρ else ex g sb ρ := by
  show toS ρ (ev g ec ρ) (fun _ _ x => match truth x with
    | some true => ex g sa ρ
    | some false => ex g sb ρ
    | none => none) = _
  congr 1
  funext k dep x
  cases truth x with
  | none => rfl
  | some t => cases t <;> rfl
theorem p_if {ss tt : List Stmt} (hc : PT X c (Tt X.K cur g W ec)) (ha : PSs X ss (Ts X.K cur g W sa)) (hb : PSs X tt (Ts X.K cur g W sb)) : PS X (.If c ss tt pos) (Ts X.K cur g W (.ite ec sa sb)) := by
  refine ⟨fun pins s σ H D I q => (ps_if hc ha hb).run pins s σ H D I ?_⟩
  obtain ⟨O, ρ, R, q⟩ := q
  rw [ex_ite] at q
  refine Tt.bindS (D := D) R q fun t H1 R1 s1 q => ?_
  cases t with
  | true => exact ⟨O, ρ, R1, q⟩
  | false => exact ⟨O, ρ, R1, q⟩
theorem p_aug (C : Cxs X N sc cm cur g W) (hi : N[i]? = some x) (hx : Loc sc x) (he : PE X a (T X.K cur g W ea)) : PS X (.AugAssign (.Name x p) .Add a pos) (Ts X.K cur g W (.aug i .add ea)) := by
  refine ⟨fun pins s σ H D I q => (ps_aug (by rw [C.hN]; exact C.nd) (by rw [C.hN]; exact hi) (by rw [C.hsc]; exact hx) he ip_add (.inl (C.fnT x))).run pins s σ H D I ?_⟩
  obtain ⟨O, ρ, R, q⟩ := q
  have q : FinS X.K cur O ρ σ H W D (match ρ[i]? with
    | some (.val x) => toS ρ (ev g ea ρ) fun _ _ y => match x, y with
      | .int _, .int _ => (binop .plain .add x y).map fun r => .nx (ρ.set i (.val r.2))
      | _, _ => none
    | _ => none) := q
  split at q
  · rename_i d e
    obtain ⟨v, hv, rv⟩ := R.val i d e
    refine ⟨v, hv, T.bindS R q fun fr dep dd u H1 R1 s1 r1 q => ?_⟩
    cases d with
    | int m =>
      cases dd with
      | int n =>
        obtain rfl := r1.int
        cases rv
        have hl : i < ρ.length := (List.getElem?_eq_some_iff.mp e).1
        exact ⟨m, n, rfl, rfl, q _ _ (R1.set_val hl (.int _)) ((Step.of_same s1).trans (Step.set_val fun _ e => nomatch e))⟩
      | _ => exact q.elim
    | _ => exact q.elim
  · exact q.elim
theorem p_par (C : Cxs X N sc cm cur g W) (hc : cm = true) (hij : i ≠ j) (hi : N[i]? = some x) (hj : N[j]? = some y) (hx : sc.names.lookup x = some .local) (hy : sc.names.lookup y = some .local) (hs1 : notStar a = true) (hs2 : notStar b = true)
    (ha : PE X a (T X.K cur g W ea)) (hb : PE X b (T X.K cur g W eb)) {kt k2 : Nat}
    (hw : swappedStores [.Tuple [.Name x p1, .Name y p2] kt p3] (.Tuple [a, b] k2 p4) X.env = pure (some [x, y])) : PS X (.Assign [.Tuple [.Name x p1, .Name y p2] kt p3] (.Tuple [a, b] k2 p4) pos) (Ts X.K cur g W (.par i j ea eb)) := by
  refine ⟨fun pins s σ H D I q => ?_⟩
  obtain ⟨O, ρ, R, q⟩ := q
  have q : FinS X.K cur O ρ σ H W D (toS ρ (ev g ea ρ) fun ka da x => toS ρ (ev g eb ρ) fun kb db y => if i < ρ.length ∧ j < ρ.length ∧ i ≠ j ∧ ka.tot da = [] ∧ kb.tot db = [] then some (.nx ((ρ.set i (.val x)).set j (.val y))) else none) := q
  refine (ps_par (C.calm hc) (by rw [C.hN]; exact C.nd) (by rw [C.hN]; exact hi) (by rw [C.hN]; exact hj) hij (by rw [C.hsc]; exact hx) (by rw [C.hsc]; exact hy) (pa_cons ha (pa_cons hb pa_nil (star1 hs2)) (star2 hs1 hs2)) hw).run pins s σ H D I ?_
  refine T.bindS R q fun ka da d1 v H1 R1 s1 r1 q => ?_
  refine T.bindS R1 (FinS.same s1 q) fun kb db d2 u H2 R2 s2 r2 q => ?_
  by_cases hz : i < ρ.length ∧ j < ρ.length ∧ i ≠ j ∧ ka.tot da = [] ∧ kb.tot db = []
  · rw [if_pos hz] at q
    obtain ⟨h1, h2, _, h3, h4⟩ := hz
    have rv := (r1.stay s2).rep R (same_trans s1 s2)
    have ru := r2.rep R1 s2
    rw [h3] at rv
    rw [h4] at ru
    have R3 := R2.set_val h1 rv
    have ru1 : Rep X.K H2 (Pm O (ρ.set i (.val d1)) (σ.set i (some v)) []) d2 u := Rep.stay (.same same_refl fun a p => p.set (fun _ e => nomatch e) fun j z => by simp at z) _ ru
    exact ⟨v, u, rfl, q _ _ (R3.set_val (by simpa using h2) ru1) ((Step.of_same s2).trans ((Step.set_val (s := .val d1) fun _ e => nomatch e).trans (Step.set_val (s := .val d2) fun _ e => nomatch e)))⟩
  · rw [if_neg hz] at q; exact q.elim
/-- x, y = e -/
theorem p_set2 (C : Cxs X N sc cm cur g W) (hc : cm = true) (hi : N[i]? = some x) (hj : N[j]? = some y) (hx : Loc sc x) (hy : Loc sc y) (ha : PE X a (T X.K cur g W ea)) {kt : Nat}
    (hs : swapsWithSole [.Tuple [.Name x p1, .Name y p2] kt p3] a pos.line X.env = pure false) (hw : swappedStores [.Tuple [.Name x p1, .Name y p2] kt p3] a X.env = pure none) :
    PS X (.Assign [.Tuple [.Name x p1, .Name y p2] kt p3] a pos) (Ts X.K cur g W (.set2 i j ea)) := by
  have gx : PG X (.Name x p1) (gName i) := pg_name (by rw [C.hN]; exact C.nd) (by rw [C.hN]; exact hi) (by rw [C.hsc]; exact hx) (.inl (C.fnT x))
  have gy : PG X (.Name y p2) (gName j) := pg_name (by rw [C.hN]; exact C.nd) (by rw [C.hN]; exact hj) (by rw [C.hsc]; exact hy) (.inl (C.fnT y))
  refine ⟨fun pins s σ H D I q => (ps_asg ha (pg_tup (C.calm hc) (pgs_cons gx (pgs_cons gy pgs_nil))) hs hw).run pins s σ H D I ?_⟩
  obtain ⟨O, ρ, R, q⟩ := q
  have q : FinS X.K cur O ρ σ H W D (toS ρ (ev g ea ρ) fun k dep d => match d with
    | .tuple [x, y] => if i < ρ.length ∧ j < ρ.length ∧ k.tot dep = [] then some (.nx ((ρ.set i (.val x)).set j (.val y))) else none
    | _ => none) := q
  refine T.bindS R q fun k dep d v H1 R1 s1 r1 q => ?_
  have rv := r1.rep R s1
  match d, q, rv with
  | .tuple [x, y], q, rv =>
    have q : FinS X.K cur O ρ σ H W D (if i < ρ.length ∧ j < ρ.length ∧ k.tot dep = [] then some (.nx ((ρ.set i (.val x)).set j (.val y))) else none) := q
    by_cases hz : i < ρ.length ∧ j < ρ.length ∧ k.tot dep = []
    · rw [if_pos hz] at q
      rw [hz.2.2] at rv
      have eb : bindT (.two i j) (.tuple [x, y]) ρ = some ((ρ.set i (.val x)).set j (.val y)) := by
        show (if i < ρ.length ∧ j < ρ.length then some ((ρ.set i (.val x)).set j (.val y)) else none) = _
        rw [if_pos ⟨hz.1, hz.2.1⟩]
      exact bind_ok (tg := .two i j) R1 rv eb fun σ1 R2 s2 _ => q _ _ R2 ((Step.of_same s1).trans s2)
    · rw [if_neg hz] at q; exact q.elim
theorem setIx_ix {l l' : List PyData} {k : Int} {d : PyData} (h : setIx l k d = some l') : ∃ j, ixN l.length k = some j ∧ l' = l.set j d := by
  have h : (place l.length k).map (fun j => l.set j d) = some l' := h
  cases e : place l.length k with
  | none => rw [e] at h; cases h
  | some j =>
    rw [e] at h
    exact ⟨j, place_ix e, (Option.some.inj h).symm⟩
/-- x[k] = e -/
theorem p_seti (C : Cxs X N sc cm cur g W) (hi : N[i]? = some x) (hv : Vis sc x) (hd : (x == ("__debug__" : Str)) = false) (hcd : (x == ("__classdict__" : Str)) = false) (ha : PE X a (T X.K cur g W ea)) (hk : PE X b (T X.K cur g W eb))
    (hs : swapsWithSole [.Subscript (.Name x p1) b p2] a pos.line X.env = pure false) (hw : swappedStores [.Subscript (.Name x p1) b p2] a X.env = pure none)
    (hg : ∀ v, assign (.Subscript (.Name x p1) b p2) X.env v = (do
      let ov ← holding [v] (eval (.Name x p1) X.env)
      let iv ← holding [v, ov] (eval b X.env)
      standAt p2
      holding [v, ov, iv] (setItem ov iv v)
      release [v, ov, iv] [])) :
    PS X (.Assign [.Subscript (.Name x p1) b p2] a pos) (Ts X.K cur g W (.seti i eb ea)) := by
  refine ⟨fun pins s σ H D I q => (ps_asg ha (pg_sub (pv C.toCxt hi hv hd hcd) hk set_list hg) hs hw).run pins s σ H D I ?_⟩
  obtain ⟨O, ρ, R, q⟩ := q
  have q : FinS X.K cur O ρ σ H W D (match ρ[i]? with
    | some (.own ds) => toS ρ (ev g ea ρ) fun ke de d => toS ρ (ev g eb ρ) fun _ _ kd => match kd with
      | .int n => if ke.tot de = [] then (setIx ds n d).map fun ds' => .nx (ρ.set i (.own ds')) else none
      | _ => none
    | _ => none) := q
  split at q
  · rename_i ds e
    refine T.bindS R q fun ka da d1 v H1 R1 s1 r1 q => ?_
    refine tv_own R1 e fun a0 ha0 _ => ?_
    refine T.bindS R1 (FinS.same s1 q) fun kb db d2 u H2 R2 s2 r2 q => ?_
    cases d2 with
    | int n =>
      obtain rfl := r2.int
      have q : FinS X.K cur O ρ σ H1 W D (if ka.tot da = [] then (setIx ds n d1).map fun ds' => .nx (ρ.set i (.own ds')) else none) := q
      by_cases hz : ka.tot da = []
      · rw [if_pos hz] at q
        cases es : setIx ds n d1 with
        | none => rw [es] at q; exact q.elim
        | some ds' =>
          rw [es] at q
          obtain ⟨k, hk, rfl⟩ := setIx_ix es
          have rv := (r1.stay s2).rep R (same_trans s1 s2)
          rw [hz] at rv
          obtain ⟨a, xs, h1, h2, no, r⟩ := R2.own i ds e
          rw [ha0] at h1
          cases h1
          have W1 := R2.write e ha0 (r.set k rv)
          exact ⟨a0, xs, n, k, rfl, rfl, h2, by rw [← r.length]; exact hk, q _ _ W1.1 ((Step.of_same s2).trans W1.2)⟩
      · rw [if_neg hz] at q; exact q.elim
    | _ => exact q.elim
  · exact q.elim
/-- x[k], x[l] = x[m], x[n] -/
theorem p_swap (C : Cxs X N sc cm cur g W) (hc : cm = true) (hi : N[i]? = some x) (hv : Vis sc x) (hd : (x == ("__debug__" : Str)) = false) (hcd : (x == ("__classdict__" : Str)) = false) {k l : Expr} {ek el : E} {q1 q2 q3 q4 q5 q6 : Pos} {kt k2 : Nat}
    (ha : PE X a (T X.K cur g W (.idx (.var i) ea))) (hb : PE X b (T X.K cur g W (.idx (.var i) eb))) (hk : PE X k (T X.K cur g W ek)) (hl : PE X l (T X.K cur g W el)) (hn1 : notStar a = true) (hn2 : notStar b = true)
    (hs : swapsWithSole [.Tuple [.Subscript (.Name x q1) k q2, .Subscript (.Name x q3) l q4] kt q5] (.Tuple [a, b] k2 q6) pos.line X.env = pure false)
    (hw : swappedStores [.Tuple [.Subscript (.Name x q1) k q2, .Subscript (.Name x q3) l q4] kt q5] (.Tuple [a, b] k2 q6) X.env = pure none)
    (hg : ∀ (p p' : Pos) (b : Expr), b = k ∨ b = l → ∀ v, assign (.Subscript (.Name x p) b p') X.env v = (do
      let ov ← holding [v] (eval (.Name x p) X.env)
      let iv ← holding [v, ov] (eval b X.env)
      standAt p'
      holding [v, ov, iv] (setItem ov iv v)
      release [v, ov, iv] [])) :
    PS X (.Assign [.Tuple [.Subscript (.Name x q1) k q2, .Subscript (.Name x q3) l q4] kt q5] (.Tuple [a, b] k2 q6) pos) (Ts X.K cur g W (.swap i ek el ea eb)) := by
  have g1 := pg_sub (pos := q2) (pv (pos := q1) C.toCxt hi hv hd hcd) hk set_list (hg q1 q2 k (.inl rfl))
  have g2 := pg_sub (pos := q4) (pv (pos := q3) C.toCxt hi hv hd hcd) hl set_list (hg q3 q4 l (.inr rfl))
  refine ⟨fun pins s σ H D I q => (ps_asg (pe_tup (pa_cons ha (pa_cons hb pa_nil (star1 hn2)) (star2 hn1 hn2))) (pg_tup (C.calm hc) (pgs_cons g1 (pgs_cons g2 pgs_nil))) hs hw).run pins s σ H D I ?_⟩
  obtain ⟨O, ρ, R, q⟩ := q
  have q : FinS X.K cur O ρ σ H W D (match ρ[i]? with
    | some (.own ds) => toS ρ (ev g (.idx (.var i) ea) ρ) fun k1 d1 x => toS ρ (ev g (.idx (.var i) eb) ρ) fun k2 d2 y => toS ρ (ev g ek ρ) fun _ _ ka => match ka with
      | .int m => if k1.tot d1 = [] ∧ k2.tot d2 = [] then (setIx ds m x).bind fun ds1 => toS (ρ.set i (.own ds1)) (ev g el (ρ.set i (.own ds1))) fun _ _ kb => match kb with
        | .int n => (setIx ds1 n y).map fun ds2 => .nx (ρ.set i (.own ds2))
        | _ => none else none
      | _ => none
    | _ => none) := q
  split at q
  · rename_i ds e
    refine T.bindS R q fun k1 d1 x1 v H1 R1 s1 r1 q => ?_
    refine T.bindS R1 (FinS.same s1 q) fun k2 d2 x2 u H2 R2 s2 r2 q => ?_
    refine ⟨by show 2 ≤ sizeLine; decide, fun z hz => ?_⟩
    have s3 : Same H2 (upd H2 z (.tup [v, u])) := same_upd hz
    have R3 := R2.same s3
    refine ⟨z, [v, u], rfl, .inl (.inl upd_same), rfl, v, [u], rfl, ?_⟩
    refine tv_own R3 e fun a0 ha0 _ => ?_
    refine T.bindS R3 (FinS.same (same_trans s2 s3) q) fun kk dk xk w H4 R4 s4 r4 q => ?_
    cases xk with
    | int m =>
      obtain rfl := r4.int
      have q : FinS X.K cur O ρ σ (upd H2 z (.tup [v, u])) W D (if k1.tot d1 = [] ∧ k2.tot d2 = [] then (setIx ds m x1).bind fun ds1 => toS (ρ.set i (.own ds1)) (ev g el (ρ.set i (.own ds1))) fun _ _ kb => match kb with
        | .int n => (setIx ds1 n x2).map fun ds2 => .nx (ρ.set i (.own ds2))
        | _ => none else none) := q
      by_cases ht : k1.tot d1 = [] ∧ k2.tot d2 = []
      · rw [if_pos ht] at q
        cases es : setIx ds m x1 with
        | none => rw [es] at q; exact q.elim
        | some ds1 =>
          rw [es] at q
          obtain ⟨j, hj, rfl⟩ := setIx_ix es
          have s24 : Same H2 H4 := same_trans s3 s4
          have rv := (r1.stay (same_trans s2 s24)).rep R (same_trans s1 (same_trans s2 s24))
          have ru := (r2.stay s24).rep R1 (same_trans s2 s24)
          rw [ht.1] at rv
          rw [ht.2] at ru
          obtain ⟨a, xs, h1, h2, no, r⟩ := R4.own i ds e
          rw [ha0] at h1
          cases h1
          have W1 := R4.write e ha0 (r.set j rv)
          refine ⟨a0, xs, m, j, rfl, rfl, h2, by rw [← r.length]; exact hj, u, [], rfl, ?_⟩
          have hi : i < ρ.length := (List.getElem?_eq_some_iff.mp e).1
          have e5 : (ρ.set i (.own (ds.set j x1)))[i]? = some (.own (ds.set j x1)) := set_at hi
          refine tv_own W1.1 e5 fun a1 ha1 _ => ?_
          have q5 : FinS X.K cur O (ρ.set i (.own (ds.set j x1))) σ (upd H4 a0 (.lst (xs.set j v))) W D (toS (ρ.set i (.own (ds.set j x1))) (ev g el (ρ.set i (.own (ds.set j x1)))) fun _ _ kb => match kb with
            | .int n => (setIx (ds.set j x1) n x2).map fun ds2 => .nx (ρ.set i (.own ds2))
            | _ => none) := FinS.step ((Step.of_same s4).trans W1.2) q
          refine T.bindS W1.1 q5 fun kl dl xl w5 H5 R5 s5 r5 q => ?_
          cases xl with
          | int n =>
            obtain rfl := r5.int
            have q : FinS X.K cur O (ρ.set i (.own (ds.set j x1))) σ (upd H4 a0 (.lst (xs.set j v))) W D ((setIx (ds.set j x1) n x2).map fun ds2 => .nx (ρ.set i (.own ds2))) := q
            cases es2 : setIx (ds.set j x1) n x2 with
            | none => rw [es2] at q; exact q.elim
            | some ds2 =>
              rw [es2] at q
              obtain ⟨j2, hj2, rfl⟩ := setIx_ix es2
              obtain ⟨a, ys, h1, h2, no, r⟩ := R5.own i _ e5
              rw [ha1] at h1
              cases h1
              have ru2 : Rep X.K H5 (Pm O (ρ.set i (.own (ds.set j x1))) σ []) x2 u := Rep.stay (Stay.step (((Step.of_same (ρ := ρ) (σ := σ) same_refl).trans W1.2).trans (Step.of_same s5))) _ ru
              have W2 := R5.write e5 ha1 (r.set j2 ru2)
              rw [List.set_set] at W2
              exact ⟨a1, ys, n, j2, rfl, rfl, h2, by rw [← r.length]; exact hj2, rfl, q _ _ W2.1 ((Step.of_same s5).trans W2.2)⟩
          | _ => exact q.elim
      · rw [if_neg ht] at q; exact q.elim
    | _ => exact q.elim
  · exact q.elim
end
end Vi

set_option maxRecDepth 100000
set_option maxHeartbeats 4000000
namespace Vi
open PySem PySem.Spec PyProof.Rows L2
section
variable {X : Cx} {N : List Str} {sc : Scope} {cm : Bool} {cur : Cur} {g : G} {W : WX}
variable {a b c : Expr} {ea eb ec ed e1 : E} {pos p p1 p2 p3 p4 : Pos} {st : Stmt} {rest body : List Stmt} {s r sa sb : S} {i j : Nat} {x y : Str}
theorem whileL_succ {c : REnv → Option Rs} {body : REnv → Option SR} {n : Nat} {ρ : REnv} : whileL c body (n + 1) ρ = toS ρ (c ρ) fun _ _ t => (truth t).bind fun b => if b = true then (match body ρ with
    | some (.nx ρ2) => whileL c body n ρ2
    | x => x) else some (.nx ρ) := by
  show (match c ρ with
    | some (.ok _ _ t) => match truth t with
      | some true => match body ρ with
        | some (.nx ρ2) => whileL c body n ρ2
        | x => x
      | some false => some (.nx ρ)
      | none => none
    | some (.ex x) => some (.ex x ρ)
    | none => none) = _
  cases c ρ with
  | none => rfl
  | some z =>
    cases z with
    | ok k dep t =>
      show (match truth t with
        | some true => _
        | some false => _
        | none => none) = (truth t).bind _
      cases truth t with
      | none => rfl
      | some b => cases b <;> rfl
    | ex x => rfl
theorem p_while (C : Cxs X N sc cm cur g W) (hc : PT X c (Tt X.K cur g W ec)) (hb : PSs X body (Ts X.K cur g W s)) : PS X (.While c body [] pos) (Ts X.K cur g W (.whl ec s)) := by
  refine ⟨fun pins s0 σ H D I q => (ps_while C.po hc hb).run pins s0 σ H D I ?_⟩
  obtain ⟨O, ρ, R, q⟩ := q
  have q : FinS X.K cur O ρ σ H W D (whileL (ev g ec) (ex g s) g.fuel ρ) := q
  refine ⟨fun m σ H => ∃ ρ, StRel X.K cur O ρ σ H ∧ FinS X.K cur O ρ σ H W D (whileL (ev g ec) (ex g s) m ρ), ⟨g.fuel, ρ, R, q⟩, ?_⟩
  rintro m σ1 H1 ⟨ρ1, R1, q⟩
  cases m with
  | zero => exact q.elim
  | succ m =>
    rw [whileL_succ] at q
    refine Tt.bindS R1 q fun t H2 R2 s2 q => ?_
    cases t with
    | false => exact q _ _ R2 Step.refl
    | true =>
      have q : FinS X.K cur O ρ1 σ1 H2 W D (match ex g s ρ1 with
        | some (.nx ρ2) => whileL (ev g ec) (ex g s) m ρ2
        | x => x) := q
      refine ⟨fun σ' H' => ∃ ρ, StRel X.K cur O ρ σ' H' ∧ FinS X.K cur O ρ σ' H' W D (whileL (ev g ec) (ex g s) m ρ), fun σ' H' h => ⟨m, Nat.lt_succ_self m, h⟩, O, ρ1, R2, ?_⟩
      cases e : ex g s ρ1 with
      | none => rw [e] at q; exact q
      | some z =>
        rw [e] at q
        cases z with
        | nx ρ2 => exact fun σ' H' R' s' => ⟨ρ2, R', FinS.step s' q⟩
        | rt d => exact q
        | rl d => exact q
        | ex c ρ2 => exact q
theorem p_for {tgE it : Expr} {tg : Tg} {eit : E} (C : Cxs X N sc cm cur g W) (hc : cm = true) (hi : PI X tgE it (Ti X.K cur g W eit)) (hg : PG X tgE (gT X.K tg)) (hb : PSs X body (Ts X.K cur g W s)) (hs : ∀ x, foldedSetIterable it X.env x = pure x) :
    PS X (.For tgE it body [] pos) (Ts X.K cur g W (.for_ tg eit s)) := by
  refine ⟨fun pins s0 σ H D I q => (ps_for C.po (C.calm hc) hi hg hb hs).run pins s0 σ H D I ?_⟩
  obtain ⟨O, ρ, R, q⟩ := q
  have q : FinS X.K cur O ρ σ H W D (match ev g eit ρ with
    | some (.ok k dep x) => match items x with
      | some xs => forL tg (ex g s) xs (disown (k.tot dep) ρ)
      | none => none
    | some (.ex c) => some (.ex c ρ)
    | none => none) := q
  refine ⟨O, ρ, R, ?_⟩
  cases e : ev g eit ρ with
  | none => rw [e] at q; exact q
  | some z =>
    rw [e] at q
    cases z with
    | ex c => exact fun H' s' => q σ H' (R.same s') (Step.of_same s')
    | ok k dep d =>
      show match items d with
        | none => False
        | some xs => _
      have q : FinS X.K cur O ρ σ H W D (match items d with
        | some xs => forL tg (ex g s) xs (disown (k.tot dep) ρ)
        | none => none) := q
      cases e2 : items d with
      | none => rw [e2] at q; exact q
      | some xs =>
        rw [e2] at q
        intro J H1 s1 hy
        have R1 := (R.same s1).disown (k.tot dep)
        have s01 : Step ρ σ H (disown (k.tot dep) ρ) σ H1 := (Step.of_same s1).trans (Step.disown _)
        have q1 : FinS X.K cur O (disown (k.tot dep) ρ) σ H1 W D (forL tg (ex g s) xs (disown (k.tot dep) ρ)) := FinS.step s01 q
        have st0 : Stay H1 H1 (Pm O ρ σ (k.tot dep)) (Pm O (disown (k.tot dep) ρ) σ []) := .same same_refl fun a p => p.disown
        have st1 : Stay H1 H1 (Pm O ρ σ dep) (Pm O (disown (k.tot dep) ρ) σ []) := .same same_refl fun a p => Pm.disown (p.mono fun i z => List.mem_append_right _ z)
        refine ⟨fun i m σ' H' => m = xs.length - i ∧ i ≤ xs.length ∧ ∃ ρ', StRel X.K cur O ρ' σ' H' ∧ Step (disown (k.tot dep) ρ) σ H1 ρ' σ' H' ∧ FinS X.K cur O ρ' σ' H' W D (forL tg (ex g s) (xs.drop i) ρ'), ⟨xs.length, by simp, Nat.zero_le _, _, R1, Step.refl, q1⟩, ?_⟩
        rintro i m σ2 H2 ⟨rfl, hi, ρ2, R2, s2, q2⟩
        have ss : Stay H1 H2 (Pm O (disown (k.tot dep) ρ) σ []) (Pm O ρ2 σ2 []) := Stay.step s2
        have st0' : Stay H1 H2 (Pm O ρ σ (k.tot dep)) (Pm O ρ2 σ2 []) := fun a u p r => let ⟨p1, r1⟩ := st0 a u p r; ss a u p1 r1
        have st1' : Stay H1 H2 (Pm O ρ σ dep) (Pm O ρ2 σ2 []) := fun a u p r => let ⟨p1, r1⟩ := st1 a u p r; ss a u p1 r1
        by_cases hlt : i < xs.length
        · rw [List.drop_eq_getElem_cons hlt] at q2
          have q2 : FinS X.K cur O ρ2 σ2 H2 W D (match bindT tg (xs[i]) ρ2 with
            | none => none
            | some ρ1 => match ex g s ρ1 with
              | some (.nx ρ2) => forL tg (ex g s) (xs.drop (i + 1)) ρ2
              | x => x) := q2
          refine .inr ⟨hy.go i H2 _ st0' hlt, fun σ' H' => ∃ ρ', StRel X.K cur O ρ' σ' H' ∧ Step (disown (k.tot dep) ρ) σ H1 ρ' σ' H' ∧ FinS X.K cur O ρ' σ' H' W D (forL tg (ex g s) (xs.drop (i + 1)) ρ'), fun σ' H' h => ⟨xs.length - (i + 1), by omega, rfl, hlt, h⟩, fun v H3 yl => ?_⟩
          obtain ⟨s3, rx⟩ := hy.yld i H2 _ _ (xs[i]) v H3 st0' st1' (fun p n => R2.new n) (by simp) yl
          have R3 := R2.same s3
          cases eb : bindT tg (xs[i]) ρ2 with
          | none => rw [eb] at q2; exact q2.elim
          | some ρ3 =>
            rw [eb] at q2
            have q2 : FinS X.K cur O ρ2 σ2 H2 W D (match ex g s ρ3 with
              | some (.nx ρ2) => forL tg (ex g s) (xs.drop (i + 1)) ρ2
              | x => x) := q2
            refine bind_ok R3 rx eb fun σ3 R4 s4 _ => ⟨O, ρ3, R4, ?_⟩
            have s24 : Step ρ2 σ2 H2 ρ3 σ3 H3 := (Step.of_same s3).trans s4
            have q3 := FinS.step s24 q2
            cases ee : ex g s ρ3 with
            | none => rw [ee] at q3; exact q3
            | some z =>
              rw [ee] at q3
              cases z with
              | nx ρ4 => exact fun σ' H' R' s' => ⟨ρ4, R', s2.trans (s24.trans s'), FinS.step s' q3⟩
              | rt d => exact q3
              | rl d => exact q3
              | ex c ρ4 => exact q3
        · have ei : i = xs.length := by omega
          subst ei
          rw [List.drop_length] at q2
          exact .inl ⟨hy.stop _ H2 _ st0' (Nat.le_refl _), q2 _ _ R2 Step.refl⟩
/-- raise C('..') -/
theorem p_raise {m : Str} {jj : Nat} (C : Cxs X N sc cm cur g W) (hc : cm = true) (hr : g.rai.contains x = true) (hg : glB sc x = true) (hd : (x == ("__debug__" : Str)) = false) :
    PS X (.Raise (some (.Call (.Name x p1) [.Constant (.str m) jj p2] [] p3)) none pos) (Ts X.K cur g W (.raise x)) := by
  obtain ⟨B, n1, n2, bm, F, h1, h2, h3, h4⟩ := C.rai x (by simpa using hr)
  refine ⟨fun pins s σ H D I q => (ps_raise (C.calm hc) C.tk (pmk_own F h1 h2 h3 h4 (C.toCxt.gl hg) hd)).run pins s σ H D I ?_⟩
  obtain ⟨O, ρ, R, q⟩ := q
  exact q σ H R Step.refl
end
section
variable {X : Cx} {N : List Str} {sc : Scope} {cm : Bool} {cur : Cur} {g : G} {W : WX}
theorem Cxs.tr (C : Cxs X N sc cm cur g W) {W' : WX} {pn : List (Addr × Obj)} {xe : Value → Shared → Prop} (tk : Takes (X.tr pn xe) W') (po : PassesOwn (model X.prog X.w) X.A X.env xe) (hcur : cur = none) : Cxs (X.tr pn xe) N sc cm cur g W' where
  hN := C.hN
  nd := C.nd
  hsc := C.hsc
  calm := C.calm
  tk := tk
  hu := C.hu
  fns := fun hc k nm F e => ⟨(C.fns hc k nm F e).ex⟩
  blt := C.blt
  consts := C.consts
  isx := fun a x c b e => by rw [hcur] at e; cases e
  isk := C.isk
  knd := C.knd
  fnT := C.fnT
  po := po
  hst := C.hst
  hfr := C.hfr
  rai := C.rai
  exk := C.exk
  exc := C.exc
theorem Cxs.suite (C : Cxs X N sc cm cur g W) {a : Addr} {oe : Obj} {pn : List (Addr × Obj)} {c : Str} (hz : Zc (.ref (He.ga X.K c)) none oe) (hf : ∃ vs, oe.data = .fields vs) : Cxs (X.suite a ((a, oe) :: pn)) N sc false (some (a, c)) g (fun _ _ _ _ => False) where
  hN := C.hN
  nd := C.nd
  hsc := C.hsc
  calm := fun z => nomatch z
  tk := fun u s' ⟨a, B, sI, pins, σ, H, cls, d, e, I, nb, up, sky, na, os, ag, w⟩ => w.elim
  hu := C.hu
  fns := fun z => nomatch z
  blt := C.blt
  consts := C.consts
  isx := fun a' x' c' b' e e2 => by
    cases e
    exact call_isE (C.exc _ _ _ e2) hz hf
  isk := C.isk
  knd := C.knd
  fnT := C.fnT
  po := PassesOwn.never
  hst := C.hst
  hfr := C.hfr
  rai := C.rai
  exk := C.exk
  exc := C.exc
theorem StRel.cur_of {K : PySem.W.Frag} {cur cur' : Cur} {O : Addr → Prop} {ρ : REnv} {σ : L2.St} {H : Hp} (R : StRel K cur O ρ σ H) (h : cur = none ∨ noExc ρ = true) : StRel K cur' O ρ σ H :=
  ⟨R.len, R.od, R.val, R.own, R.sep, fun i c e => by
    rcases h with h | h
    · obtain ⟨a, h1, _⟩ := R.exc i c e
      rw [h] at h1
      cases h1
    · exact absurd e (noExc_get h)⟩
variable {pos p1 p2 p3 np : Pos} {body su : List Stmt} {b0 : Stmt} {sb ss : S} {j : Nat} {x n : Str}
theorem Cxs.names (C : Cxs X N sc cm cur g W) (hg : glB sc x = true) (hd : (x == ("__debug__" : Str)) = false) (hx : (g.exm.any fun p => p.1.2 == x) = true) : ∃ cv, Names X x cv ∧ ∀ c b, g.exm.lookup (c, x) = some b → PySem.W.exmOne X.K (.ref (He.ga X.K c)) cv = some b := by
  obtain ⟨cv, h1, h2⟩ := C.exk x hx
  exact ⟨cv, ⟨C.toCxt.gl hg, hd, h1⟩, h2⟩
theorem p_try (C : Cxs X N sc cm cur g W) (hcur : cur = none) (hj : N[j]? = some n) (hn : sc.names.lookup n = some .local) (hg : glB sc x = true) (hd : (x == ("__debug__" : Str)) = false) (hx : (g.exm.any fun p => p.1.2 == x) = true)
    (hb : ∀ X' W', Cxs X' N sc cm cur g W' → X'.K = X.K → X'.env = X.env → PSs X' body (Ts X'.K cur g W' sb))
    (hs : ∀ X' a c, Cxs X' N sc false (some (a, c)) g (fun _ _ _ _ => False) → X'.env = X.env → PSs X' (b0 :: su) (Ts X'.K (some (a, c)) g (fun _ _ _ _ => False) ss)) :
    PS X (.Try body [.ExceptHandler (some (.Name x np)) (some n) (b0 :: su) p1] [] [] pos) (Ts X.K cur g W (.tryx sb x (some j) ss)) := by
  obtain ⟨cv, hn1, hex⟩ := C.names hg hd hx
  have hln : X.env.kindOf n = some .local := by
    show X.env.scope.names.lookup n = _
    rw [C.hsc]; exact hn
  refine ⟨fun pins s σ H D I q => (ps_try_as (tb := fun W' => Ts X.K cur g W' sb) (ts := fun a cls d => fun D σ H => ∃ c, cls = .ref (He.ga X.K c) ∧ d = none ∧ Ts X.K (some (a, c)) g (fun _ _ _ _ => False) ss D σ H) C.hst C.hfr (by rw [C.hN]; exact C.nd) (by rw [C.hN]; exact hj) hln hn1 C.tk (fun W' pn xe tk po => hb _ W' (C.tr tk po hcur) rfl rfl) (fun a oe cls d pn hz hf => ⟨fun pins s σ H D I h => ?_⟩)).run pins s σ H D I ?_⟩
  · obtain ⟨c, rfl, rfl, h⟩ := h
    exact (hs _ a c (C.suite hz hf) rfl).run pins s σ H D I h
  · obtain ⟨O, ρ, R, q⟩ := q
    refine ⟨O, ρ, R, ?_⟩
    have q : FinS X.K cur O ρ σ H W D (match ex g sb ρ with
      | some (.ex c ρ1) => match g.exm.lookup (c, x) with
        | some true => if j < ρ1.length then (match ex g ss (ρ1.set j (.exc c)) with
          | some (.nx ρ2) => if noExc (ρ2.set j .un) = true ∧ j < ρ2.length then some (.nx (ρ2.set j .un)) else none
          | some (.rt d) => some (.rt d)
          | some (.rl d) => some (.rl d)
          | _ => none) else none
        | some false => some (.ex c ρ1)
        | none => none
      | r => r) := q
    cases e : ex g sb ρ with
    | none => rw [e] at q; exact q
    | some z =>
      rw [e] at q
      cases z with
      | nx ρ1 => exact q
      | rt d => exact q
      | rl d => exact q
      | ex c ρ1 =>
        intro σ1 H1 R1 s1
        have q : FinS X.K cur O ρ σ H W D (match g.exm.lookup (c, x) with
          | some true => if j < ρ1.length then (match ex g ss (ρ1.set j (.exc c)) with
            | some (.nx ρ2) => if noExc (ρ2.set j .un) = true ∧ j < ρ2.length then some (.nx (ρ2.set j .un)) else none
            | some (.rt d) => some (.rt d)
            | some (.rl d) => some (.rl d)
            | _ => none) else none
          | some false => some (.ex c ρ1)
          | none => none) := q
        cases el : g.exm.lookup (c, x) with
        | none => rw [el] at q; exact q.elim
        | some b =>
          rw [el] at q
          refine ⟨b, hex c b el, fun hb a na => ?_, fun hb => ?_⟩
          · subst hb
            have q : FinS X.K cur O ρ σ H W D (if j < ρ1.length then (match ex g ss (ρ1.set j (.exc c)) with
              | some (.nx ρ2) => if noExc (ρ2.set j .un) = true ∧ j < ρ2.length then some (.nx (ρ2.set j .un)) else none
              | some (.rt d) => some (.rt d)
              | some (.rl d) => some (.rl d)
              | _ => none) else none) := q
            by_cases hl : j < ρ1.length
            · rw [if_pos hl] at q
              have R2 : StRel X.K (some (a, c)) O (ρ1.set j (.exc c)) (σ1.set j (some (.ref a))) H1 := (R1.cur_of (cur' := some (a, c)) (.inl hcur)).put (fun _ e => nomatch e) (fun _ e => nomatch e) (fun c' e => by cases e; exact ⟨a, rfl, rfl⟩) hl
              have s2 : Step ρ σ H (ρ1.set j (.exc c)) (σ1.set j (some (.ref a))) H1 := s1.trans (Step.set_val fun _ e => nomatch e)
              refine ⟨c, rfl, rfl, O, ρ1.set j (.exc c), R2, ?_⟩
              cases e2 : ex g ss (ρ1.set j (.exc c)) with
              | none => rw [e2] at q; exact q.elim
              | some z =>
                rw [e2] at q
                cases z with
                | ex c' ρ' => exact q.elim
                | rt d => exact fun v H' k r => q v H' (k.step s2) r
                | rl d => exact FinS.step (W := fun _ _ _ _ => False) s2 (r := some (.rl d)) q
                | nx ρ2 =>
                  have q : FinS X.K cur O ρ σ H W D (if noExc (ρ2.set j .un) = true ∧ j < ρ2.length then some (.nx (ρ2.set j .un)) else none) := q
                  by_cases hz : noExc (ρ2.set j .un) = true ∧ j < ρ2.length
                  · rw [if_pos hz] at q
                    intro σ' H' R' s'
                    exact q _ _ ((R'.set_un hz.2).cur_of (.inr hz.1)) (s2.trans (s'.trans (Step.set_val fun _ e => nomatch e)))
                  · rw [if_neg hz] at q; exact q.elim
            · rw [if_neg hl] at q; exact q.elim
          · subst hb
            exact q _ _ R1 s1
theorem p_tryo (C : Cxs X N sc cm cur g W) (hcur : cur = none) (hg : glB sc x = true) (hd : (x == ("__debug__" : Str)) = false) (hx : (g.exm.any fun p => p.1.2 == x) = true)
    (hb : ∀ X' W', Cxs X' N sc cm cur g W' → X'.K = X.K → X'.env = X.env → PSs X' body (Ts X'.K cur g W' sb))
    (hs : ∀ X' a c, Cxs X' N sc false (some (a, c)) g (fun _ _ _ _ => False) → X'.env = X.env → PSs X' (b0 :: su) (Ts X'.K (some (a, c)) g (fun _ _ _ _ => False) ss)) :
    PS X (.Try body [.ExceptHandler (some (.Name x np)) none (b0 :: su) p1] [] [] pos) (Ts X.K cur g W (.tryx sb x none ss)) := by
  obtain ⟨cv, hn1, hex⟩ := C.names hg hd hx
  refine ⟨fun pins s σ H D I q => (ps_try_only (tb := fun W' => Ts X.K cur g W' sb) (ts := fun a cls d => fun D σ H => ∃ c, cls = .ref (He.ga X.K c) ∧ d = none ∧ Ts X.K (some (a, c)) g (fun _ _ _ _ => False) ss D σ H) C.hst C.hfr hn1 C.tk (fun W' pn xe tk po => hb _ W' (C.tr tk po hcur) rfl rfl) (fun a oe cls d pn hz hf => ⟨fun pins s σ H D I h => ?_⟩)).run pins s σ H D I ?_⟩
  · obtain ⟨c, rfl, rfl, h⟩ := h
    exact (hs _ a c (C.suite hz hf) rfl).run pins s σ H D I h
  · obtain ⟨O, ρ, R, q⟩ := q
    refine ⟨O, ρ, R, ?_⟩
    have q : FinS X.K cur O ρ σ H W D (match ex g sb ρ with
      | some (.ex c ρ1) => match g.exm.lookup (c, x) with
        | some true => match ex g ss ρ1 with
          | some (.nx ρ2) => if noExc ρ2 = true then some (.nx ρ2) else none
          | some (.rt d) => some (.rt d)
          | some (.rl d) => some (.rl d)
          | _ => none
        | some false => some (.ex c ρ1)
        | none => none
      | r => r) := q
    cases e : ex g sb ρ with
    | none => rw [e] at q; exact q
    | some z =>
      rw [e] at q
      cases z with
      | nx ρ1 => exact q
      | rt d => exact q
      | rl d => exact q
      | ex c ρ1 =>
        intro σ1 H1 R1 s1
        have q : FinS X.K cur O ρ σ H W D (match g.exm.lookup (c, x) with
          | some true => match ex g ss ρ1 with
            | some (.nx ρ2) => if noExc ρ2 = true then some (.nx ρ2) else none
            | some (.rt d) => some (.rt d)
            | some (.rl d) => some (.rl d)
            | _ => none
          | some false => some (.ex c ρ1)
          | none => none) := q
        cases el : g.exm.lookup (c, x) with
        | none => rw [el] at q; exact q.elim
        | some b =>
          rw [el] at q
          refine ⟨b, hex c b el, fun hb a na => ?_, fun hb => ?_⟩
          · subst hb
            have R2 : StRel X.K (some (a, c)) O ρ1 σ1 H1 := R1.cur_of (cur' := some (a, c)) (.inl hcur)
            refine ⟨c, rfl, rfl, O, ρ1, R2, ?_⟩
            have q : FinS X.K cur O ρ σ H W D (match ex g ss ρ1 with
              | some (.nx ρ2) => if noExc ρ2 = true then some (.nx ρ2) else none
              | some (.rt d) => some (.rt d)
              | some (.rl d) => some (.rl d)
              | _ => none) := q
            cases e2 : ex g ss ρ1 with
            | none => rw [e2] at q; exact q.elim
            | some z =>
              rw [e2] at q
              cases z with
              | ex c' ρ' => exact q.elim
              | rt d => exact fun v H' k r => q v H' (k.step s1) r
              | rl d => exact FinS.step (W := fun _ _ _ _ => False) s1 (r := some (.rl d)) q
              | nx ρ2 =>
                have q : FinS X.K cur O ρ σ H W D (if noExc ρ2 = true then some (.nx ρ2) else none) := q
                by_cases hz : noExc ρ2 = true
                · rw [if_pos hz] at q
                  intro σ' H' R' s'
                  exact q _ _ (R'.cur_of (.inr hz)) (s1.trans s')
                · rw [if_neg hz] at q; exact q.elim
          · subst hb
            exact q _ _ R1 s1
end
end Vi

set_option maxRecDepth 100000
set_option maxHeartbeats 4000000
namespace Vi
open PySem PySem.Spec PyProof.Rows L2
/-! ### does a short form tell what the code says -/
inductive Nd where
  | ex (x : Expr) | li (xs : List Expr) | it (tg x : Expr)
def opM : Op → Operator → Bool
  | .add, .Add => true
  | .sub, .Sub => true
  | .mul, .Mult => true
  | .mod, .Mod => true
  | .fdiv, .FloorDiv => true
  | .pow, .Pow => true
  | _, _ => false
def visB (sc : Scope) (x : Str) : Bool := match sc.names.lookup x with
  | some .local => true
  | some .cell => true
  | some .free => true
  | _ => false
def locB (sc : Scope) (x : Str) : Bool := match sc.names.lookup x with
  | some .local => true
  | some .cell => true
  | _ => false
def isTup : Expr → Bool
  | .Tuple _ _ _ => true
  | _ => false
def notIf : Expr → Bool
  | .IfExp _ _ _ _ => false
  | _ => true
def isIt : E → Bool
  | .range1 _ => true
  | .range2 _ _ => true
  | .range3 _ _ _ => true
  | .zip _ _ => true
  | .enum _ => true
  | _ => false
def notSet : Expr → Bool
  | .Set _ _ _ => false
  | _ => true
def at_ (N : List Str) (i : Nat) (x : Str) : Bool := match N[i]? with
  | some y => y == x
  | none => false
def tgM (N : List Str) (sc : Scope) : Tg → Expr → Bool
  | .one i, .Name x _ => at_ N i x && locB sc x
  | .two i j, .Tuple [.Name x _, .Name y _] _ _ => at_ N i x && locB sc x && (at_ N j y && locB sc y)
  | _, _ => false
def ownOf : Tg → Expr → List (Str × Nat)
  | .one i, .Name x _ => [(x, i)]
  | .two i j, .Tuple [.Name x _, .Name y _] _ _ => [(x, i), (y, j)]
  | _, _ => []
def bfName : Bf → Str
  | .len => "len" | .int => "int" | .str => "str" | .tuple => "tuple" | .list => "list" | .sum => "sum" | .sorted => "sorted"
def isNm (x y : Str) : Bool := x == y
def dbgs : Str := "__debug__"
def okN (N : List Str) : Bool := decide N.Nodup && N.all fun x => !(x == dbgs) && !(x == ("__classdict__" : Str))
def fnM (g : G) (k : Nat) (f : Str) : Bool := match g.fns[k]? with
  | some p => p.1 == f
  | none => false
def mtName : Mth → Str
  | .sindex => "index" | .lindex => "index" | .join => "join" | .lcount => "count"
def notCall : Expr → Bool
  | .Call _ _ _ _ => false
  | _ => true
def bfOk (cm : Bool) : Bf → Bool
  | .sum => cm
  | .sorted => false
  | _ => true
def mE (g : G) (N : List Str) (cm : Bool) : E → Scope → Nd → Bool
  | .var i, sc, .ex (.Name x _) => at_ N i x && visB sc x
  | .glob y, sc, .ex (.Name x _) => y == x && (glB sc x && !(x == dbgs))
  | .int n, _, .ex (.Constant (.int m) _ _) => n == m
  | .bl n, _, .ex (.Constant (.bool m) _ _) => n == m
  | .non, _, .ex (.Constant .none _ _) => true
  | .str n, _, .ex (.Constant (.str m) _ _) => n == m
  | .bin o a b, sc, .ex (.BinOp x p y _) => opM o p && (mE g N cm a sc (.ex x) && mE g N cm b sc (.ex y))
  | .neg a, sc, .ex (.UnaryOp .USub x _) => mE g N cm a sc (.ex x)
  | .not a, sc, .ex (.UnaryOp .Not x _) => notIf x && mE g N cm a sc (.ex x)
  | .cmp c a b, sc, .ex (.Compare x [op] [y] _) => decide (op = opB c) && (mE g N cm a sc (.ex x) && (mE g N cm b sc (.ex y) && !behindInMarks op y))
  | .cmp2 c c' a b d, sc, .ex (.Compare x [op, op'] [y, z] _) => decide (op = opB c) && (decide (op' = opB c') && (mE g N cm a sc (.ex x) && (mE g N cm b sc (.ex y) && (mE g N cm d sc (.ex z) && !lastMarks [op, op'] [y, z]))))
  | .land a r, sc, .ex (.BoolOp .And (x :: y :: rest) pos) => notIf x && (mE g N cm a sc (.ex x) && mE g N cm r sc (.ex (.BoolOp .And (y :: rest) pos)))
  | .lor a r, sc, .ex (.BoolOp .Or (x :: y :: rest) pos) => notIf x && (mE g N cm a sc (.ex x) && mE g N cm r sc (.ex (.BoolOp .Or (y :: rest) pos)))
  | .one a, sc, .ex (.BoolOp _ [x] _) => notIf x && mE g N cm a sc (.ex x)
  | .ife c a b, sc, .ex (.IfExp z x y _) => (notIf z && mE g N cm c sc (.ex z)) && (mE g N cm a sc (.ex x) && mE g N cm b sc (.ex y))
  | .nil, _, .li [] => true
  | .cons a r, sc, .li (x :: xs) => notStar x && (mE g N cm a sc (.ex x) && mE g N cm r sc (.li xs))
  | .tup as, sc, .ex (.Tuple xs _ _) => mE g N cm as sc (.li xs)
  | .lst as, sc, .ex (.List xs _) => mE g N cm as sc (.li xs)
  | .call k as, sc, .ex (.Call (.Name f _) (x :: xs) [] _) => cm && (fnM g k f && (glB sc f && (!(f == dbgs) && (notStar x && (xs.all notStar && mE g N cm as sc (.li (x :: xs)))))))
  | .bf f a, sc, .ex (.Call (.Name y _) [x] [] _) => isNm (bfName f) y && (glB sc y && (notStar x && (mE g N cm a sc (.ex x) && bfOk cm f)))
  | .max2 a b, sc, .ex (.Call (.Name z _) [x, y] [] _) => cm && (isNm "max" z && (glB sc z && (notStar x && (notStar y && (mE g N cm a sc (.ex x) && mE g N cm b sc (.ex y))))))
  | .min2 a b, sc, .ex (.Call (.Name z _) [x, y] [] _) => cm && (isNm "min" z && (glB sc z && (notStar x && (notStar y && (mE g N cm a sc (.ex x) && mE g N cm b sc (.ex y))))))
  | .isi t a, sc, .ex (.Call (.Name z _) [x, .Name y _] [] _) => isNm "isinstance" z && (isNm (Str.ofString (tyName t)) y && (glB sc z && (glB sc y && (notStar x && mE g N cm a sc (.ex x)))))
  | .isx i c, sc, .ex (.Call (.Name z _) [.Name x _, .Name y _] [] _) => isNm "isinstance" z && (isNm c y && (glB sc z && (glB sc y && (at_ N i x && (visB sc x && !(y == dbgs))))))
  | .slc a lo hi, sc, .ex (.Subscript x (.Slice xlo xhi none _) _) => mE g N cm a sc (.ex x) && ((match xlo with | none => (match lo with | .miss => true | _ => false) | some y => !isMiss lo && mE g N cm lo sc (.ex y)) && (match xhi with | none => (match hi with | .miss => true | _ => false) | some y => !isMiss hi && mE g N cm hi sc (.ex y)))
  | .rev a, sc, .ex (.Subscript x (.Slice none none (some (.UnaryOp .USub (.Constant (.int n) _ _) _)) _) _) => n == 1 && mE g N cm a sc (.ex x)
  | .idx a i, sc, .ex (.Subscript x y _) => plainIx y && (mE g N cm a sc (.ex x) && mE g N cm i sc (.ex y))
  | .comp tg it c el, sc, .ex (.ListComp elt [⟨tgE, iter, ifs, k⟩] scope _) => cm && (decide (k = 0) && (tgM N scope tg tgE && (blkC N sc scope (ownOf tg tgE) && (notSet iter && ((if isIt it then mE g N cm it sc (.it tgE iter) else mE g N cm it sc (.ex iter)) &&
      ((match ifs with | [] => isMiss c | [x] => !isMiss c && (notIf x && mE g N cm c (relS scope sc) (.ex x)) | _ => false) && mE g N cm el (relS scope sc) (.ex elt)))))))
  | .range1 a, sc, .it _ (.Call (.Name z _) [x] [] _) => isNm "range" z && (glB sc z && (notStar x && mE g N cm a sc (.ex x)))
  | .range2 a b, sc, .it _ (.Call (.Name z _) [x, y] [] _) => isNm "range" z && (glB sc z && (notStar x && (notStar y && (mE g N cm a sc (.ex x) && mE g N cm b sc (.ex y)))))
  | .range3 a b c, sc, .it _ (.Call (.Name z _) [x, y, w] [] _) => isNm "range" z && (glB sc z && (notStar x && (notStar y && (notStar w && (mE g N cm a sc (.ex x) && (mE g N cm b sc (.ex y) && mE g N cm c sc (.ex w)))))))
  | .enum a, sc, .it tg (.Call (.Name z _) [x] [] _) => isTup tg && (isNm "enumerate" z && (glB sc z && (notStar x && mE g N cm a sc (.ex x))))
  | .zip a b, sc, .it tg (.Call (.Name z _) [x, y] [] _) => isTup tg && (isNm "zip" z && (glB sc z && (notStar x && (notStar y && (mE g N cm a sc (.ex x) && mE g N cm b sc (.ex y))))))
  | .met m a b, sc, .ex (.Call (.Attribute x nm ap) [y] [] cp) => isNm (mtName m) nm && ((ap.endLine == cp.line) && (notCall x && (notStar y && (mE g N cm a sc (.ex x) && mE g N cm b sc (.ex y)))))
  | _, _, _ => false
section
theorem visB_ok {sc : Scope} {x : Str} (h : visB sc x = true) : Vis sc x := by
  unfold visB at h
  split at h <;> first | exact .inl (by assumption) | exact .inr (.inl (by assumption)) | exact .inr (.inr (by assumption)) | cases h
theorem locB_ok {sc : Scope} {x : Str} (h : locB sc x = true) : Loc sc x := by
  unfold locB at h
  split at h <;> first | exact .inl (by assumption) | exact .inr (by assumption) | cases h
theorem at_ok {N : List Str} {i : Nat} {x : Str} (h : at_ N i x = true) : N[i]? = some x := by
  unfold at_ at h
  split at h
  · rename_i y e
    rw [e, beq_iff_eq.mp h]
  · cases h
theorem okN_of {N : List Str} (h : okN N = true) : N.Nodup ∧ ∀ (i : Nat) (x : Str), N[i]? = some x → (x == ("__debug__" : Str)) = false ∧ (x == ("__classdict__" : Str)) = false := by
  obtain ⟨h1, h2⟩ := bb h
  refine ⟨of_decide_eq_true h1, fun i x e => ?_⟩
  rw [List.all_eq_true] at h2
  obtain ⟨h3, h4⟩ := bb (h2 x (List.mem_of_getElem? e))
  exact ⟨by simpa [dbgs] using h3, by simpa using h4⟩
theorem notSet_ok {iter : Expr} (h : notSet iter = true) (env : PySem.Env) (x : Value) : foldedSetIterable iter env x = pure x := by
  cases iter <;> first | rfl | cases h
variable {X : Cx} {N : List Str} {sc : Scope} {cm : Bool} {cur : Cur} {g : G} {W : WX}
theorem all_plain {xs : List Expr} (h : xs.all notStar = true) {pos : Pos} {env : PySem.Env} : (backTo pos (starEach xs env)).any (·.1) = false := by
  induction xs with
  | nil => rfl
  | cons x xs ih =>
    obtain ⟨h1, h2⟩ := bb (show (notStar x && xs.all notStar) = true from h)
    rw [notStar_eq h1]
    exact ih h2
/-- a comprehension's own names -/
theorem pg_blk {tg : Tg} {tgE : Expr} {scope : Scope} (C : Cxt X N sc cm cur g W) (hc : cm = true) (h : tgM N scope tg tgE = true) (s : Shared) (H : Hp) (c : Addr) (cl : List (Str × Addr)) (fp : List Addr) :
    PG (X.blk s H scope (compEnvC scope cl c X.env) fp) tgE (gT X.K tg) := by
  have B := C.blk s H scope c cl fp
  have one : ∀ {i : Nat} {x : Str} {p : Pos}, at_ N i x = true → locB scope x = true → PG (X.blk s H scope (compEnvC scope cl c X.env) fp) (.Name x p) (gName i) := fun {i x p} h1 h2 => by
    refine pg_name (by rw [B.hN]; exact B.nd) (by rw [B.hN]; exact at_ok h1) ?_ ?_
    · rw [B.hsc]
      rcases locB_ok h2 with e | e
      · exact .inl (lookup_relS_keep (fun z => nomatch z) e)
      · exact .inr (lookup_relS_keep (fun z => nomatch z) e)
    · rcases locB_ok h2 with e | e
      · refine .inr ?_
        rw [B.hsc]
        exact lookup_relS_keep (fun z => nomatch z) e
      · refine .inl ?_
        show (scope.names.lookup x == some NameKind.cell) = true
        rw [e]
        rfl
  unfold tgM at h
  split at h
  · obtain ⟨h1, h2⟩ := bb h
    exact one h1 h2
  · obtain ⟨h1, h2⟩ := bb h
    obtain ⟨h3, h4⟩ := bb h1
    obtain ⟨h5, h6⟩ := bb h2
    exact pg_tup (B.calm hc) (pgs_cons (one h3 h4) (pgs_cons (one h5 h6) pgs_nil))
  · cases h
theorem own_slots {tg : Tg} {tgE : Expr} {scope : Scope} (h : tgM N scope tg tgE = true) : (ownOf tg tgE).map (·.2) = tg.slots := by
  unfold tgM at h
  split at h
  · rfl
  · rfl
  · cases h
/-- a target of a loop -/
theorem pg_st {tg : Tg} {tgE : Expr} (C : Cxs X N sc cm cur g W) (hc : cm = true) (h : tgM N sc tg tgE = true) : PG X tgE (gT X.K tg) := by
  have one : ∀ {i : Nat} {x : Str} {p : Pos}, at_ N i x = true → locB sc x = true → PG X (.Name x p) (gName i) := fun {i x p} h1 h2 =>
    pg_name (by rw [C.hN]; exact C.nd) (by rw [C.hN]; exact at_ok h1) (by rw [C.hsc]; exact locB_ok h2) (.inl (C.fnT x))
  unfold tgM at h
  split at h
  · obtain ⟨h1, h2⟩ := bb h
    exact one h1 h2
  · obtain ⟨h1, h2⟩ := bb h
    obtain ⟨h3, h4⟩ := bb h1
    obtain ⟨h5, h6⟩ := bb h2
    exact pg_tup (C.calm hc) (pgs_cons (one h3 h4) (pgs_cons (one h5 h6) pgs_nil))
  · cases h
end
end Vi

set_option maxRecDepth 100000
set_option maxHeartbeats 4000000
namespace Vi
open PySem PySem.Spec PyProof.Rows L2
theorem no {p : Prop} (h : false = true) : p := Bool.noConfusion h
theorem nmS {x y : Str} (h : isNm x y = true) : y = x := (beq_iff_eq.mp h).symm
theorem nb {b : Bool} (h : (!b) = true) : b = false := by simpa using h
/-- what holds of a short form's matches -/
structure Snd (g : G) (N : List Str) (e : E) : Prop where
  pe : ∀ {cm : Bool} {X : Cx} {sc : Scope} {cur : Cur} {W : WX}, Cxt X N sc cm cur g W → ∀ x, mE g N cm e sc (.ex x) = true → PE X x (T X.K cur g W e)
  pt : ∀ {cm : Bool} {X : Cx} {sc : Scope} {cur : Cur} {W : WX}, Cxt X N sc cm cur g W → ∀ x, mE g N cm e sc (.ex x) = true → notIf x = true → PT X x (Tt X.K cur g W e)
  pa : ∀ {cm : Bool} {X : Cx} {sc : Scope} {cur : Cur} {W : WX}, Cxt X N sc cm cur g W → ∀ xs, mE g N cm e sc (.li xs) = true → PA X xs (Ta X.K cur g W e)
  pi : ∀ {cm : Bool} {X : Cx} {sc : Scope} {cur : Cur} {W : WX}, Cxt X N sc cm cur g W → ∀ tg x, mE g N cm e sc (.it tg x) = true → PI X tg x (Ti X.K cur g W e)
  pw : ∀ {cm : Bool} {X : Cx} {sc : Scope} {cur : Cur} {W : WX}, Cxt X N sc cm cur g W → ∀ op xs pos, mE g N cm e sc (.ex (.BoolOp op xs pos)) = true → PW X (.BoolOp op xs pos) (Tt X.K cur g W e)
/-- of a form without tests of its own -/
theorem Snd.of {g : G} {N : List Str} {e : E} (pe : ∀ {cm : Bool} {X : Cx} {sc : Scope} {cur : Cur} {W : WX}, Cxt X N sc cm cur g W → ∀ x, mE g N cm e sc (.ex x) = true → PE X x (T X.K cur g W e) ∧ plainT x = true)
    (li : ∀ {cm : Bool} {sc : Scope} xs, mE g N cm e sc (.li xs) = false) (it : ∀ {cm : Bool} {sc : Scope} tg x, mE g N cm e sc (.it tg x) = false) : Snd g N e where
  pe := fun C x h => (pe C x h).1
  pt := fun C x h _ => tt_val (pe C x h).1 (pe C x h).2
  pa := fun C xs h => no ((li xs).symm.trans h)
  pi := fun C tg x h => no ((it tg x).symm.trans h)
  pw := fun C op xs pos h => no ((pe C _ h).2)
theorem Snd.itr {g : G} {N : List Str} {e : E} (pi : ∀ {cm : Bool} {X : Cx} {sc : Scope} {cur : Cur} {W : WX}, Cxt X N sc cm cur g W → ∀ tg x, mE g N cm e sc (.it tg x) = true → PI X tg x (Ti X.K cur g W e))
    (li : ∀ {cm : Bool} {sc : Scope} xs, mE g N cm e sc (.li xs) = false) (ex : ∀ {cm : Bool} {sc : Scope} x, mE g N cm e sc (.ex x) = false) : Snd g N e where
  pe := fun C x h => no ((ex x).symm.trans h)
  pt := fun C x h _ => no ((ex x).symm.trans h)
  pa := fun C xs h => no ((li xs).symm.trans h)
  pi := pi
  pw := fun C op xs pos h => no ((ex _).symm.trans h)
variable {g : G} {N : List Str}
theorem snd_var (hN : okN N = true) (i : Nat) : Snd g N (.var i) := .of (fun {cm X sc cur W} C x h => by
  cases x with
  | Name x p =>
    obtain ⟨h1, h2⟩ := bb (show (at_ N i x && visB sc x) = true from h)
    have h1 := at_ok h1
    exact ⟨t_var C h1 (visB_ok h2) ((okN_of hN).2 i x h1).1 ((okN_of hN).2 i x h1).2, rfl⟩
  | _ => exact no h) (fun _ => rfl) (fun _ _ => rfl)
theorem dbg_ok {x : Str} (h : (!(x == dbgs)) = true) : (x == ("__debug__" : Str)) = false := nb h
theorem snd_glob (y : Str) : Snd g N (.glob y) := .of (fun {cm X sc cur W} C x h => by
  cases x with
  | Name x p =>
    obtain ⟨h1, h2⟩ := bb (show (y == x && (glB sc x && !(x == dbgs))) = true from h)
    obtain ⟨h2, h3⟩ := bb h2
    obtain rfl := beq_iff_eq.mp h1
    exact ⟨t_glob C h2 (dbg_ok h3), rfl⟩
  | _ => exact no h) (fun _ => rfl) (fun _ _ => rfl)
theorem snd_int (n : Int) : Snd g N (.int n) := .of (fun {cm X sc cur W} C x h => by
  cases x with
  | Constant v k p =>
    cases v with
    | int m =>
      obtain rfl := beq_iff_eq.mp (show (n == m) = true from h)
      exact ⟨t_int, rfl⟩
    | _ => exact no h
  | _ => exact no h) (fun _ => rfl) (fun _ _ => rfl)
theorem snd_bl (n : Bool) : Snd g N (.bl n) := .of (fun {cm X sc cur W} C x h => by
  cases x with
  | Constant v k p =>
    cases v with
    | bool m =>
      obtain rfl := beq_iff_eq.mp (show (n == m) = true from h)
      exact ⟨t_bl, rfl⟩
    | _ => exact no h
  | _ => exact no h) (fun _ => rfl) (fun _ _ => rfl)
theorem snd_non : Snd g N .non := .of (fun {cm X sc cur W} C x h => by
  cases x with
  | Constant v k p =>
    cases v with
    | none => exact ⟨t_non, rfl⟩
    | _ => exact no h
  | _ => exact no h) (fun _ => rfl) (fun _ _ => rfl)
theorem snd_str (n : Str) : Snd g N (.str n) := .of (fun {cm X sc cur W} C x h => by
  cases x with
  | Constant v k p =>
    cases v with
    | str m =>
      obtain rfl := beq_iff_eq.mp (show (n == m) = true from h)
      exact ⟨t_str, rfl⟩
    | _ => exact no h
  | _ => exact no h) (fun _ => rfl) (fun _ _ => rfl)
theorem snd_bin {a b : E} (o : Op) (A : Snd g N a) (B : Snd g N b) : Snd g N (.bin o a b) := .of (fun {cm X sc cur W} C x h => by
  cases x with
  | BinOp x p y pos =>
    obtain ⟨h1, h2⟩ := bb (show (opM o p && (mE g N cm a sc (.ex x) && mE g N cm b sc (.ex y))) = true from h)
    obtain ⟨h2, h3⟩ := bb h2
    have ha := A.pe C x h2
    have hb := B.pe C y h3
    unfold opM at h1
    split at h1
    · exact ⟨t_add ha hb, rfl⟩
    · exact ⟨t_sub ha hb, rfl⟩
    · exact ⟨t_mul ha hb, rfl⟩
    · exact ⟨t_mod ha hb, rfl⟩
    · exact ⟨t_fdiv ha hb, rfl⟩
    · exact ⟨t_pow ha hb, rfl⟩
    · cases h1
  | _ => exact no h) (fun _ => rfl) (fun _ _ => rfl)
theorem snd_neg {a : E} (A : Snd g N a) : Snd g N (.neg a) := .of (fun {cm X sc cur W} C x h => by
  cases x with
  | UnaryOp op x pos =>
    cases op with
    | USub => exact ⟨t_neg (A.pe C x h), rfl⟩
    | _ => exact no h
  | _ => exact no h) (fun _ => rfl) (fun _ _ => rfl)
theorem snd_not {a : E} (A : Snd g N a) : Snd g N (.not a) where
  pe := fun {cm X sc cur W} C x h => by
    cases x with
    | UnaryOp op x pos =>
      cases op with
      | Not => exact t_not (A.pe C x (bb (show (notIf x && mE g N cm a sc (.ex x)) = true from h)).2)
      | _ => exact no h
    | _ => exact no h
  pt := fun {cm X sc cur W} C x h _ => by
    cases x with
    | UnaryOp op x pos =>
      cases op with
      | Not =>
        obtain ⟨h1, h2⟩ := bb (show (notIf x && mE g N cm a sc (.ex x)) = true from h)
        exact tt_not (A.pt C x h2 h1)
      | _ => exact no h
    | _ => exact no h
  pa := fun C xs h => no h
  pi := fun C tg x h => no h
  pw := fun C op xs pos h => no h
theorem snd_cmp {a b : E} (c : Cm) (A : Snd g N a) (B : Snd g N b) : Snd g N (.cmp c a b) := by
  have both : ∀ {cm : Bool} {X : Cx} {sc : Scope} {cur : Cur} {W : WX}, Cxt X N sc cm cur g W → ∀ x, mE g N cm (.cmp c a b) sc (.ex x) = true → PE X x (T X.K cur g W (.cmp c a b)) ∧ PT X x (Tt X.K cur g W (.cmp c a b)) := fun {cm X sc cur W} C x h => by
    cases x with
    | Compare x ops ys pos =>
      match ops, ys, h with
      | [op], [y], h =>
        obtain ⟨h1, h2⟩ := bb (show (decide (op = opB c) && (mE g N cm a sc (.ex x) && (mE g N cm b sc (.ex y) && !behindInMarks op y))) = true from h)
        obtain rfl := of_decide_eq_true h1
        obtain ⟨h2, h3⟩ := bb h2
        obtain ⟨h3, h4⟩ := bb h3
        exact ⟨t_cmp (cmpR C.hu c) (A.pe C x h2) (B.pe C y h3) (nb h4), tt_cmp (cmpR C.hu c) (A.pe C x h2) (B.pe C y h3) (nb h4)⟩
      | [], _, h => exact no h
      | [_], [], h => exact no h
      | [_], _ :: _ :: _, h => exact no h
      | _ :: _ :: _, _, h => exact no h
    | _ => exact no h
  exact ⟨fun C x h => (both C x h).1, fun C x h _ => (both C x h).2, fun C xs h => no h, fun C tg x h => no h, fun C op xs pos h => no h⟩
theorem snd_cmp2 {a b d : E} (c c' : Cm) (A : Snd g N a) (B : Snd g N b) (D : Snd g N d) : Snd g N (.cmp2 c c' a b d) := by
  have both : ∀ {cm : Bool} {X : Cx} {sc : Scope} {cur : Cur} {W : WX}, Cxt X N sc cm cur g W → ∀ x, mE g N cm (.cmp2 c c' a b d) sc (.ex x) = true → PE X x (T X.K cur g W (.cmp2 c c' a b d)) ∧ PT X x (Tt X.K cur g W (.cmp2 c c' a b d)) := fun {cm X sc cur W} C x h => by
    cases x with
    | Compare x ops ys pos =>
      match ops, ys, h with
      | [op, op'], [y, z], h =>
        obtain ⟨h1, h2⟩ := bb (show (decide (op = opB c) && (decide (op' = opB c') && (mE g N cm a sc (.ex x) && (mE g N cm b sc (.ex y) && (mE g N cm d sc (.ex z) && !lastMarks [op, op'] [y, z]))))) = true from h)
        obtain ⟨k2, h3⟩ := bb h2
        have e2 := of_decide_eq_true k2
        have e1 := of_decide_eq_true h1
        clear h2 k2 h1 h
        subst e1
        subst e2
        obtain ⟨h3, h4⟩ := bb h3
        obtain ⟨h4, h5⟩ := bb h4
        obtain ⟨h5, h6⟩ := bb h5
        exact ⟨t_cmp2 (cmpR C.hu c) (cmpR C.hu c') (A.pe C x h3) (B.pe C y h4) (D.pe C z h5) (nb h6), tt_cmp2 (cmpR C.hu c) (cmpR C.hu c') (A.pe C x h3) (B.pe C y h4) (D.pe C z h5) (nb h6)⟩
      | [], _, h => exact no h
      | [_], _, h => exact no h
      | [_, _], [], h => exact no h
      | [_, _], [_], h => exact no h
      | [_, _], _ :: _ :: _ :: _, h => exact no h
      | _ :: _ :: _ :: _, _, h => exact no h
    | _ => exact no h
  exact ⟨fun C x h => (both C x h).1, fun C x h _ => (both C x h).2, fun C xs h => no h, fun C tg x h => no h, fun C op xs pos h => no h⟩
theorem snd_one {a : E} (A : Snd g N a) : Snd g N (.one a) := by
  have both : ∀ {cm : Bool} {X : Cx} {sc : Scope} {cur : Cur} {W : WX}, Cxt X N sc cm cur g W → ∀ x, mE g N cm (.one a) sc (.ex x) = true → PE X x (T X.K cur g W (.one a)) ∧ PW X x (Tt X.K cur g W (.one a)) := fun {cm X sc cur W} C x h => by
    cases x with
    | BoolOp op xs pos =>
      match xs, h with
      | [x], h =>
        obtain ⟨h1, h2⟩ := bb (show (notIf x && mE g N cm a sc (.ex x)) = true from h)
        cases op with
        | And => exact ⟨t_one (A.pe C x h2), tw_and1 (A.pt C x h2 h1)⟩
        | Or => exact ⟨t_one (A.pe C x h2), tw_or1 (A.pt C x h2 h1)⟩
      | [], h => exact no h
      | _ :: _ :: _, h => exact no h
    | _ => exact no h
  exact ⟨fun C x h => (both C x h).1, fun C x h _ => (both C x h).2.pt, fun C xs h => no h, fun C tg x h => no h, fun C op xs pos h => (both C _ h).2⟩
theorem snd_land {a r : E} (A : Snd g N a) (B : Snd g N r) : Snd g N (.land a r) := by
  have both : ∀ {cm : Bool} {X : Cx} {sc : Scope} {cur : Cur} {W : WX}, Cxt X N sc cm cur g W → ∀ x, mE g N cm (.land a r) sc (.ex x) = true → PE X x (T X.K cur g W (.land a r)) ∧ PW X x (Tt X.K cur g W (.land a r)) := fun {cm X sc cur W} C x h => by
    cases x with
    | BoolOp op xs pos =>
      match op, xs, h with
      | .And, x :: y :: rest, h =>
        obtain ⟨h0, h1⟩ := bb (show (notIf x && (mE g N cm a sc (.ex x) && mE g N cm r sc (.ex (.BoolOp .And (y :: rest) pos)))) = true from h)
        obtain ⟨h1, h2⟩ := bb h1
        exact ⟨t_land (A.pe C x h1) (B.pe C _ h2), tw_and (A.pt C x h1 h0) (B.pw C _ _ _ h2)⟩
      | .And, [], h => exact no h
      | .And, [_], h => exact no h
      | .Or, _, h => exact no h
    | _ => exact no h
  exact ⟨fun C x h => (both C x h).1, fun C x h _ => (both C x h).2.pt, fun C xs h => no h, fun C tg x h => no h, fun C op xs pos h => (both C _ h).2⟩
theorem snd_lor {a r : E} (A : Snd g N a) (B : Snd g N r) : Snd g N (.lor a r) := by
  have both : ∀ {cm : Bool} {X : Cx} {sc : Scope} {cur : Cur} {W : WX}, Cxt X N sc cm cur g W → ∀ x, mE g N cm (.lor a r) sc (.ex x) = true → PE X x (T X.K cur g W (.lor a r)) ∧ PW X x (Tt X.K cur g W (.lor a r)) := fun {cm X sc cur W} C x h => by
    cases x with
    | BoolOp op xs pos =>
      match op, xs, h with
      | .Or, x :: y :: rest, h =>
        obtain ⟨h0, h1⟩ := bb (show (notIf x && (mE g N cm a sc (.ex x) && mE g N cm r sc (.ex (.BoolOp .Or (y :: rest) pos)))) = true from h)
        obtain ⟨h1, h2⟩ := bb h1
        exact ⟨t_lor (A.pe C x h1) (B.pe C _ h2), tw_or (A.pt C x h1 h0) (B.pw C _ _ _ h2)⟩
      | .Or, [], h => exact no h
      | .Or, [_], h => exact no h
      | .And, _, h => exact no h
    | _ => exact no h
  exact ⟨fun C x h => (both C x h).1, fun C x h _ => (both C x h).2.pt, fun C xs h => no h, fun C tg x h => no h, fun C op xs pos h => (both C _ h).2⟩
theorem snd_ife {c a b : E} (Cc : Snd g N c) (A : Snd g N a) (B : Snd g N b) : Snd g N (.ife c a b) := by
  have one : ∀ {cm : Bool} {X : Cx} {sc : Scope} {cur : Cur} {W : WX}, Cxt X N sc cm cur g W → ∀ x, mE g N cm (.ife c a b) sc (.ex x) = true → PE X x (T X.K cur g W (.ife c a b)) ∧ notIf x = false := fun {cm X sc cur W} C x h => by
    cases x with
    | IfExp z x y pos =>
      obtain ⟨h1, h2⟩ := bb (show ((notIf z && mE g N cm c sc (.ex z)) && (mE g N cm a sc (.ex x) && mE g N cm b sc (.ex y))) = true from h)
      obtain ⟨h3, h4⟩ := bb h1
      obtain ⟨h5, h6⟩ := bb h2
      exact ⟨t_ife (Cc.pt C z h4 h3) (A.pe C x h5) (B.pe C y h6), rfl⟩
    | _ => exact no h
  exact ⟨fun C x h => (one C x h).1, fun C x h hn => no ((one C x h).2.symm.trans hn), fun C xs h => no h, fun C tg x h => no h, fun C op xs pos h => no h⟩
theorem Snd.arg {e : E} (pa : ∀ {cm : Bool} {X : Cx} {sc : Scope} {cur : Cur} {W : WX}, Cxt X N sc cm cur g W → ∀ xs, mE g N cm e sc (.li xs) = true → PA X xs (Ta X.K cur g W e))
    (ex : ∀ {cm : Bool} {sc : Scope} x, mE g N cm e sc (.ex x) = false) (it : ∀ {cm : Bool} {sc : Scope} tg x, mE g N cm e sc (.it tg x) = false) : Snd g N e where
  pe := fun C x h => no ((ex x).symm.trans h)
  pt := fun C x h _ => no ((ex x).symm.trans h)
  pa := pa
  pi := fun C tg x h => no ((it tg x).symm.trans h)
  pw := fun C op xs pos h => no ((ex _).symm.trans h)
theorem snd_nil : Snd g N .nil := .arg (fun {cm X sc cur W} C xs h => by
  cases xs with
  | nil => exact ta_nil
  | cons x xs => exact no h) (fun _ => rfl) (fun _ _ => rfl)
theorem snd_cons {a r : E} (A : Snd g N a) (B : Snd g N r) : Snd g N (.cons a r) := .arg (fun {cm X sc cur W} C xs h => by
  cases xs with
  | nil => exact no h
  | cons x xs =>
    obtain ⟨h1, h2⟩ := bb (show (notStar x && (mE g N cm a sc (.ex x) && mE g N cm r sc (.li xs))) = true from h)
    obtain ⟨h2, h3⟩ := bb h2
    exact ta_cons h1 (A.pe C x h2) (B.pa C xs h3)) (fun _ => rfl) (fun _ _ => rfl)
theorem snd_tup {a : E} (A : Snd g N a) : Snd g N (.tup a) := .of (fun {cm X sc cur W} C x h => by
  cases x with
  | Tuple xs k pos => exact ⟨t_tup (A.pa C xs h), rfl⟩
  | _ => exact no h) (fun _ => rfl) (fun _ _ => rfl)
theorem snd_lst {a : E} (A : Snd g N a) : Snd g N (.lst a) := .of (fun {cm X sc cur W} C x h => by
  cases x with
  | List xs pos => exact ⟨t_lst (A.pa C xs h), rfl⟩
  | _ => exact no h) (fun _ => rfl) (fun _ _ => rfl)
theorem fnM_ok {k : Nat} {f : Str} (h : fnM g k f = true) : ∃ F, g.fns[k]? = some (f, F) := by
  unfold fnM at h
  split at h
  · rename_i p e
    obtain ⟨n, F⟩ := p
    obtain rfl := beq_iff_eq.mp (show (n == f) = true from h)
    exact ⟨F, e⟩
  · cases h
theorem snd_call {a : E} (k : Nat) (A : Snd g N a) : Snd g N (.call k a) := .of (fun {cm X sc cur W} C x h => by
  cases x with
  | Call f xs kw pos =>
    cases f with
    | Name f p =>
      match xs, kw, h with
      | x :: xs, [], h =>
        obtain ⟨h1, h2⟩ := bb (show (cm && (fnM g k f && (glB sc f && (!(f == dbgs) && (notStar x && (xs.all notStar && mE g N cm a sc (.li (x :: xs)))))))) = true from h)
        obtain ⟨h2, h3⟩ := bb h2
        obtain ⟨h3, h4⟩ := bb h3
        obtain ⟨h4, h5⟩ := bb h4
        obtain ⟨h5, h6⟩ := bb h5
        obtain ⟨h6, h7⟩ := bb h6
        obtain ⟨F, hF⟩ := fnM_ok h2
        exact ⟨t_call C h1 hF h3 (dbg_ok h4) h5 (all_plain h6) (A.pa C _ h7), rfl⟩
      | [], _, h => exact no h
      | _ :: _, _ :: _, h => exact no h
    | _ => exact no h
  | _ => exact no h) (fun _ => rfl) (fun _ _ => rfl)
theorem snd_bf {a : E} (f : Bf) (A : Snd g N a) : Snd g N (.bf f a) := .of (fun {cm X sc cur W} C x h => by
  cases x with
  | Call y xs kw pos =>
    cases y with
    | Name y p =>
      match xs, kw, h with
      | [x], [], h =>
        obtain ⟨h1, h2⟩ := bb (show (isNm (bfName f) y && (glB sc y && (notStar x && (mE g N cm a sc (.ex x) && bfOk cm f)))) = true from h)
        obtain ⟨h2, g3⟩ := bb h2
        obtain ⟨h3, g4⟩ := bb g3
        obtain ⟨h4, h5⟩ := bb g4
        have e1 := nmS h1
        clear h h1 g3 g4
        subst e1
        have ha := A.pe C x h4
        cases f with
        | len => exact ⟨t_len C h2 h3 ha, rfl⟩
        | int => exact ⟨t_toint C h2 h3 ha, rfl⟩
        | str => exact ⟨t_tostr C h2 h3 ha, rfl⟩
        | tuple => exact ⟨t_totup C h2 h3 ha, rfl⟩
        | list => exact ⟨t_tolst C h2 h3 ha, rfl⟩
        | sum => exact ⟨t_sum C h5 h2 h3 ha, rfl⟩
        | sorted => exact no h5
      | [], _, h => exact no h
      | [_], _ :: _, h => exact no h
      | _ :: _ :: _, _, h => exact no h
    | _ => exact no h
  | _ => exact no h) (fun _ => rfl) (fun _ _ => rfl)
theorem snd_max2 {a b : E} (A : Snd g N a) (B : Snd g N b) : Snd g N (.max2 a b) := .of (fun {cm X sc cur W} C x h => by
  cases x with
  | Call z xs kw pos =>
    cases z with
    | Name z p =>
      match xs, kw, h with
      | [x, y], [], h =>
        obtain ⟨h0, h1⟩ := bb (show (cm && (isNm "max" z && (glB sc z && (notStar x && (notStar y && (mE g N cm a sc (.ex x) && mE g N cm b sc (.ex y))))))) = true from h)
        obtain ⟨h1, h2⟩ := bb h1
        obtain ⟨h2, h3⟩ := bb h2
        obtain ⟨h3, h4⟩ := bb h3
        obtain ⟨h4, h5⟩ := bb h4
        obtain ⟨h5, h6⟩ := bb h5
        have e1 := nmS h1
        clear h h1
        subst e1
        exact ⟨t_max2 C h0 h2 h3 h4 (A.pe C x h5) (B.pe C y h6), rfl⟩
      | [], _, h => exact no h
      | [_], _, h => exact no h
      | [_, _], _ :: _, h => exact no h
      | _ :: _ :: _ :: _, _, h => exact no h
    | _ => exact no h
  | _ => exact no h) (fun _ => rfl) (fun _ _ => rfl)
theorem snd_min2 {a b : E} (A : Snd g N a) (B : Snd g N b) : Snd g N (.min2 a b) := .of (fun {cm X sc cur W} C x h => by
  cases x with
  | Call z xs kw pos =>
    cases z with
    | Name z p =>
      match xs, kw, h with
      | [x, y], [], h =>
        obtain ⟨h0, h1⟩ := bb (show (cm && (isNm "min" z && (glB sc z && (notStar x && (notStar y && (mE g N cm a sc (.ex x) && mE g N cm b sc (.ex y))))))) = true from h)
        obtain ⟨h1, h2⟩ := bb h1
        obtain ⟨h2, h3⟩ := bb h2
        obtain ⟨h3, h4⟩ := bb h3
        obtain ⟨h4, h5⟩ := bb h4
        obtain ⟨h5, h6⟩ := bb h5
        have e1 := nmS h1
        clear h h1
        subst e1
        exact ⟨t_min2 C h0 h2 h3 h4 (A.pe C x h5) (B.pe C y h6), rfl⟩
      | [], _, h => exact no h
      | [_], _, h => exact no h
      | [_, _], _ :: _, h => exact no h
      | _ :: _ :: _ :: _, _, h => exact no h
    | _ => exact no h
  | _ => exact no h) (fun _ => rfl) (fun _ _ => rfl)
end Vi

set_option maxRecDepth 100000
set_option maxHeartbeats 4000000
namespace Vi
open PySem PySem.Spec PyProof.Rows L2
variable {g : G} {N : List Str}
theorem snd_isi {a : E} (t : Ty) (A : Snd g N a) : Snd g N (.isi t a) := .of (fun {cm X sc cur W} C x h => by
  cases x with
  | Call z xs kw pos =>
    cases z with
    | Name z p =>
      match xs, kw, h with
      | [x, y], [], h =>
        cases y with
        | Name y q =>
          obtain ⟨h0, h1⟩ := bb (show (isNm "isinstance" z && (isNm (Str.ofString (tyName t)) y && (glB sc z && (glB sc y && (notStar x && mE g N cm a sc (.ex x)))))) = true from h)
          obtain ⟨h1, g2⟩ := bb h1
          obtain ⟨h2, g3⟩ := bb g2
          obtain ⟨h3, g4⟩ := bb g3
          obtain ⟨h4, h5⟩ := bb g4
          have e0 := nmS h0
          have e1 := nmS h1
          clear h h0 h1 g2 g3 g4
          subst e0
          subst e1
          exact ⟨t_isi C t h2 h3 h4 (A.pe C x h5), rfl⟩
        | _ => exact no h
      | [], _, h => exact no h
      | [_], _, h => exact no h
      | [_, y], _ :: _, h => cases y <;> exact no h
      | [_, y, _], _, h => cases y <;> exact no h
      | _ :: y :: _ :: _ :: _, _, h => cases y <;> exact no h
    | _ => exact no h
  | _ => exact no h) (fun _ => rfl) (fun _ _ => rfl)
theorem snd_isx (hN : okN N = true) (i : Nat) (c : Str) : Snd g N (.isx i c) := .of (fun {cm X sc cur W} C x h => by
  cases x with
  | Call z xs kw pos =>
    cases z with
    | Name z p =>
      match xs, kw, h with
      | [x, y], [], h =>
        cases x with
        | Name x q =>
          cases y with
          | Name y q2 =>
            obtain ⟨h0, h1⟩ := bb (show (isNm "isinstance" z && (isNm c y && (glB sc z && (glB sc y && (at_ N i x && (visB sc x && !(y == dbgs))))))) = true from h)
            obtain ⟨h1, h2⟩ := bb h1
            obtain ⟨h2, h3⟩ := bb h2
            obtain ⟨h3, h4⟩ := bb h3
            obtain ⟨h4, h5⟩ := bb h4
            obtain ⟨h5, h6⟩ := bb h5
            have h4 := at_ok h4
            have e0 := nmS h0
            have e1 := nmS h1
            clear h h0 h1
            subst e0
            subst e1
            exact ⟨t_isx C h4 (visB_ok h5) ((okN_of hN).2 i x h4).1 ((okN_of hN).2 i x h4).2 h2 h3 (dbg_ok h6), rfl⟩
          | _ => exact no h
        | _ => exact no h
      | [], _, h => exact no h
      | [x], _, h => cases x <;> exact no h
      | [x, y], _ :: _, h => cases x <;> cases y <;> exact no h
      | x :: y :: _ :: _, _, h => cases x <;> cases y <;> exact no h
    | _ => exact no h
  | _ => exact no h) (fun _ => rfl) (fun _ _ => rfl)
theorem snd_idx {a b : E} (A : Snd g N a) (B : Snd g N b) : Snd g N (.idx a b) := .of (fun {cm X sc cur W} C x h => by
  cases x with
  | Subscript x y pos =>
    obtain ⟨h1, h2⟩ := bb (show (plainIx y && (mE g N cm a sc (.ex x) && mE g N cm b sc (.ex y))) = true from h)
    obtain ⟨h2, h3⟩ := bb h2
    exact ⟨t_idx h1 (A.pe C x h2) (B.pe C y h3), rfl⟩
  | _ => exact no h) (fun _ => rfl) (fun _ _ => rfl)
def slM (g : G) (N : List Str) (cm : Bool) (sc : Scope) (lo : E) : Option Expr → Bool
  | none => match lo with | .miss => true | _ => false
  | some y => !isMiss lo && mE g N cm lo sc (.ex y)
theorem to_of {cm : Bool} {X : Cx} {sc : Scope} {cur : Cur} {W : WX} {lo : E} (A : Snd g N lo) (C : Cxt X N sc cm cur g W) {x : Option Expr} (h : slM g N cm sc lo x = true) : PO X x (To X.K cur g W lo) := by
  cases x with
  | none =>
    cases lo with
    | miss => exact to_miss
    | _ => exact no h
  | some y =>
    obtain ⟨h1, h2⟩ := bb (show (!isMiss lo && mE g N cm lo sc (.ex y)) = true from h)
    exact to_some (nb h1) (A.pe C y h2)
theorem snd_slc {a lo hi : E} (A : Snd g N a) (L : Snd g N lo) (H : Snd g N hi) : Snd g N (.slc a lo hi) := .of (fun {cm X sc cur W} C x h => by
  cases x with
  | Subscript x y pos =>
    cases y with
    | Slice xlo xhi st p =>
      cases st with
      | none =>
        obtain ⟨h1, h2⟩ := bb (show (mE g N cm a sc (.ex x) && ((match (generalizing := false) xlo with | none => (match (generalizing := false) lo with | .miss => true | _ => false) | some y => !isMiss lo && mE g N cm lo sc (.ex y)) && (match (generalizing := false) xhi with | none => (match (generalizing := false) hi with | .miss => true | _ => false) | some y => !isMiss hi && mE g N cm hi sc (.ex y)))) = true from h)
        obtain ⟨h3, h4⟩ := bb h2
        refine ⟨t_slc (A.pe C x h1) (to_of L C ?_) (to_of H C ?_), rfl⟩
        · cases xlo <;> exact h3
        · cases xhi <;> exact h4
      | some _ => exact no h
    | _ => exact no h
  | _ => exact no h) (fun _ => rfl) (fun _ _ => rfl)
theorem snd_rev {a : E} (A : Snd g N a) : Snd g N (.rev a) := .of (fun {cm X sc cur W} C x h => by
  cases x with
  | Subscript x y pos =>
    cases y with
    | Slice xlo xhi st p =>
      match xlo, xhi, st, h with
      | none, none, some z, h =>
        cases z with
        | UnaryOp op z p2 =>
          cases op with
          | USub =>
            cases z with
            | Constant v k p3 =>
              cases v with
              | int n =>
                obtain ⟨h1, h2⟩ := bb (show (n == 1 && mE g N cm a sc (.ex x)) = true from h)
                obtain rfl := beq_iff_eq.mp h1
                exact ⟨t_rev (A.pe C x h2), rfl⟩
              | _ => exact no h
            | _ => exact no h
          | _ => exact no h
        | _ => exact no h
      | none, none, none, h => exact no h
      | some _, _, _, h => exact no h
      | none, some _, _, h => exact no h
    | _ => exact no h
  | _ => exact no h) (fun _ => rfl) (fun _ _ => rfl)
theorem snd_range1 {a : E} (A : Snd g N a) : Snd g N (.range1 a) := .itr (fun {cm X sc cur W} C tg x h => by
  cases x with
  | Call z xs kw pos =>
    cases z with
    | Name z p =>
      match xs, kw, h with
      | [x], [], h =>
        obtain ⟨h1, h2⟩ := bb (show (isNm "range" z && (glB sc z && (notStar x && mE g N cm a sc (.ex x)))) = true from h)
        obtain ⟨h2, h3⟩ := bb h2
        obtain ⟨h3, h4⟩ := bb h3
        have e1 := nmS h1
        clear h h1
        subst e1
        exact ti_range1 C h2 h3 (A.pe C x h4)
      | [], _, h => exact no h
      | [_], _ :: _, h => exact no h
      | _ :: _ :: _, _, h => exact no h
    | _ => exact no h
  | _ => exact no h) (fun _ => rfl) (fun _ => rfl)
theorem snd_range2 {a b : E} (A : Snd g N a) (B : Snd g N b) : Snd g N (.range2 a b) := .itr (fun {cm X sc cur W} C tg x h => by
  cases x with
  | Call z xs kw pos =>
    cases z with
    | Name z p =>
      match xs, kw, h with
      | [x, y], [], h =>
        obtain ⟨h1, h2⟩ := bb (show (isNm "range" z && (glB sc z && (notStar x && (notStar y && (mE g N cm a sc (.ex x) && mE g N cm b sc (.ex y)))))) = true from h)
        obtain ⟨h2, h3⟩ := bb h2
        obtain ⟨h3, h4⟩ := bb h3
        obtain ⟨h4, h5⟩ := bb h4
        obtain ⟨h5, h6⟩ := bb h5
        have e1 := nmS h1
        clear h h1
        subst e1
        exact ti_range2 C h2 h3 h4 (A.pe C x h5) (B.pe C y h6)
      | [], _, h => exact no h
      | [_], _, h => exact no h
      | [_, _], _ :: _, h => exact no h
      | _ :: _ :: _ :: _, _, h => exact no h
    | _ => exact no h
  | _ => exact no h) (fun _ => rfl) (fun _ => rfl)
theorem snd_range3 {a b c : E} (A : Snd g N a) (B : Snd g N b) (Cc : Snd g N c) : Snd g N (.range3 a b c) := .itr (fun {cm X sc cur W} C tg x h => by
  cases x with
  | Call z xs kw pos =>
    cases z with
    | Name z p =>
      match xs, kw, h with
      | [x, y, w], [], h =>
        obtain ⟨h1, h2⟩ := bb (show (isNm "range" z && (glB sc z && (notStar x && (notStar y && (notStar w && (mE g N cm a sc (.ex x) && (mE g N cm b sc (.ex y) && mE g N cm c sc (.ex w)))))))) = true from h)
        obtain ⟨h2, h3⟩ := bb h2
        obtain ⟨h3, h4⟩ := bb h3
        obtain ⟨h4, h5⟩ := bb h4
        obtain ⟨h5, h6⟩ := bb h5
        obtain ⟨h6, h7⟩ := bb h6
        obtain ⟨h7, h8⟩ := bb h7
        have e1 := nmS h1
        clear h h1
        subst e1
        exact ti_range3 C h2 h3 h4 h5 (A.pe C x h6) (B.pe C y h7) (Cc.pe C w h8)
      | [], _, h => exact no h
      | [_], _, h => exact no h
      | [_, _], _, h => exact no h
      | [_, _, _], _ :: _, h => exact no h
      | _ :: _ :: _ :: _ :: _, _, h => exact no h
    | _ => exact no h
  | _ => exact no h) (fun _ => rfl) (fun _ => rfl)
theorem snd_enum {a : E} (A : Snd g N a) : Snd g N (.enum a) := .itr (fun {cm X sc cur W} C tg x h => by
  cases x with
  | Call z xs kw pos =>
    cases z with
    | Name z p =>
      match xs, kw, h with
      | [x], [], h =>
        obtain ⟨h0, h1⟩ := bb (show (isTup tg && (isNm "enumerate" z && (glB sc z && (notStar x && mE g N cm a sc (.ex x))))) = true from h)
        obtain ⟨h1, h2⟩ := bb h1
        obtain ⟨h2, h3⟩ := bb h2
        obtain ⟨h3, h4⟩ := bb h3
        have e1 := nmS h1
        clear h h1
        subst e1
        cases tg with
        | Tuple es k p2 => exact ti_enum C h2 h3 (A.pe C x h4)
        | _ => exact no h0
      | [], _, h => exact no h
      | [_], _ :: _, h => exact no h
      | _ :: _ :: _, _, h => exact no h
    | _ => exact no h
  | _ => exact no h) (fun _ => rfl) (fun _ => rfl)
theorem snd_zip {a b : E} (A : Snd g N a) (B : Snd g N b) : Snd g N (.zip a b) := .itr (fun {cm X sc cur W} C tg x h => by
  cases x with
  | Call z xs kw pos =>
    cases z with
    | Name z p =>
      match xs, kw, h with
      | [x, y], [], h =>
        obtain ⟨h0, h1⟩ := bb (show (isTup tg && (isNm "zip" z && (glB sc z && (notStar x && (notStar y && (mE g N cm a sc (.ex x) && mE g N cm b sc (.ex y))))))) = true from h)
        obtain ⟨h1, h2⟩ := bb h1
        obtain ⟨h2, h3⟩ := bb h2
        obtain ⟨h3, h4⟩ := bb h3
        obtain ⟨h4, h5⟩ := bb h4
        obtain ⟨h5, h6⟩ := bb h5
        have e1 := nmS h1
        clear h h1
        subst e1
        cases tg with
        | Tuple es k p2 => exact ti_zip C h2 h3 h4 (A.pe C x h5) (B.pe C y h6)
        | _ => exact no h0
      | [], _, h => exact no h
      | [_], _, h => exact no h
      | [_, _], _ :: _, h => exact no h
      | _ :: _ :: _ :: _, _, h => exact no h
    | _ => exact no h
  | _ => exact no h) (fun _ => rfl) (fun _ => rfl)
/-- what is walked -/
theorem snd_iter {cm : Bool} {X : Cx} {sc : Scope} {cur : Cur} {W : WX} {e : E} (A : Snd g N e) (C : Cxt X N sc cm cur g W) {tg x : Expr} (h : (if isIt e then mE g N cm e sc (.it tg x) else mE g N cm e sc (.ex x)) = true) : PI X tg x (Ti X.K cur g W e) := by
  by_cases hi : isIt e = true
  · rw [if_pos hi] at h
    exact A.pi C tg x h
  · rw [if_neg hi] at h
    exact ti_val (A.pe C x h)
def ifM (g : G) (N : List Str) (cm : Bool) (sc : Scope) (c : E) : List Expr → Bool
  | [] => isMiss c
  | [x] => !isMiss c && (notIf x && mE g N cm c sc (.ex x))
  | _ => false
theorem snd_comp {it c el : E} (tg : Tg) (I : Snd g N it) (Cc : Snd g N c) (L : Snd g N el) : Snd g N (.comp tg it c el) := .of (fun {cm X sc cur W} C x h => by
  cases x with
  | ListComp elt gs scope pos =>
    match gs, h with
    | [⟨tgE, iter, ifs, k⟩], h =>
      obtain ⟨h0, h1⟩ := bb (show (cm && (decide (k = 0) && (tgM N scope tg tgE && (blkC N sc scope (ownOf tg tgE) && (notSet iter && ((if isIt it then mE g N cm it sc (.it tgE iter) else mE g N cm it sc (.ex iter)) &&
        ((match (generalizing := false) ifs with | [] => isMiss c | [x] => !isMiss c && (notIf x && mE g N cm c (relS scope sc) (.ex x)) | _ => false) && mE g N cm el (relS scope sc) (.ex elt)))))))) = true from h)
      obtain ⟨h1, h2⟩ := bb h1
      obtain ⟨h2, h3⟩ := bb h2
      obtain ⟨h3, h4⟩ := bb h3
      obtain ⟨h4, h5⟩ := bb h4
      obtain ⟨h5, h6⟩ := bb h5
      obtain ⟨h6, h7⟩ := bb h6
      have e1 := of_decide_eq_true h1
      clear h h1
      subst e1
      refine ⟨t_comp C h0 (own_slots h2) (snd_iter I C h5) (blkOk_by h3) (fun s H c cl fp => pg_blk C h0 h2 s H c cl fp) (fun s H c9 cl fp => ?_) (fun s H c9 cl fp => L.pe (C.blk s H scope c9 cl fp) elt h7) (notSet_ok h4 _), rfl⟩
      unfold tTs
      match ifs, h6 with
      | [], h6 =>
        rw [if_pos (show isMiss c = true from h6)]
        exact pts_nil
      | [x], h6 =>
        obtain ⟨h8, h9⟩ := bb (show (!isMiss c && (notIf x && mE g N cm c (relS scope sc) (.ex x))) = true from h6)
        obtain ⟨h9, h10⟩ := bb h9
        rw [if_neg (show ¬ isMiss c = true by rw [nb h8]; exact Bool.false_ne_true)]
        exact pts_one (Cc.pt (C.blk s H scope c9 cl fp) x h10 h9)
      | _ :: _ :: _, h6 => exact no h6
    | [], h => exact no h
    | ⟨_, _, _, _⟩ :: _ :: _, h => exact no h
  | _ => exact no h) (fun _ => rfl) (fun _ _ => rfl)
theorem snd_no {e : E} (h : ∀ cm sc n, mE g N cm e sc n = false) : Snd g N e where
  pe := fun C x h9 => no ((h _ _ _).symm.trans h9)
  pt := fun C x h9 _ => no ((h _ _ _).symm.trans h9)
  pa := fun C xs h9 => no ((h _ _ _).symm.trans h9)
  pi := fun C tg x h9 => no ((h _ _ _).symm.trans h9)
  pw := fun C op xs pos h9 => no ((h _ _ _).symm.trans h9)
section
variable {X : Cx} {sc : Scope} {cm : Bool} {cur : Cur} {W : WX} {a b : Expr} {ea eb : E} {ap cp : Pos}
theorem firstAt_ok {x : D} : ∀ {l : List D} {k j : Nat}, firstAt x l k = some j → ∃ i z, j = k + i ∧ l[i]? = some z ∧ PyData.eqv z x = true ∧ ∀ (m : Nat) (z' : D), m < i → l[m]? = some z' → PyData.eqv z' x = false
  | [], _, _, h => by cases h
  | y :: r, k, j, h => by
    have h : (if PyData.eqv y x then some k else firstAt x r (k + 1)) = some j := h
    by_cases e : PyData.eqv y x = true
    · rw [if_pos e] at h
      cases h
      exact ⟨0, y, rfl, rfl, e, fun m z' hm => by omega⟩
    · rw [if_neg e] at h
      obtain ⟨i, z, h1, h2, h3, h4⟩ := firstAt_ok h
      refine ⟨i + 1, z, by omega, h2, h3, fun m z' hm hz => ?_⟩
      cases m with
      | zero =>
        cases hz
        exact Bool.eq_false_iff.mpr e
      | succ m => exact h4 m z' (by omega) hz
theorem strsOf_eq : ∀ {l : List D} {ys : List Str}, strsOf l = some ys → l = ys.map .str
  | [], ys, h => by cases h; rfl
  | .str z :: r, ys, h => by
    have h : (strsOf r).map (z :: ·) = some ys := h
    cases e : strsOf r with
    | none => rw [e] at h; cases h
    | some ms =>
      rw [e] at h
      cases h
      rw [strsOf_eq e]
      rfl
  | .none :: _, _, h => by cases h
  | .bool _ :: _, _, h => by cases h
  | .int _ :: _, _, h => by cases h
  | .list _ :: _, _, h => by cases h
  | .tuple _ :: _, _, h => by cases h
  | .dict _ :: _, _, h => by cases h
theorem RepL.strs {K : PySem.W.Frag} {H : Hp} {P : Addr → Prop} : ∀ {ys : List Str} {xs : List V}, RepL K H P (ys.map .str) xs → xs = ys.map V.str
  | [], _, h => by cases h; rfl
  | y :: ys, _, h => by
    cases h with
    | cons a b =>
      cases a
      rw [RepL.strs b]
      rfl
theorem hb_of {x : Expr} {nm : Str} {env : PySem.Env} (h : notCall x = true) : attributeBase x nm env (eval x env) = eval x env := by
  cases x <;> first | rfl | exact no h
theorem t_met (C : Cxt X N sc cm cur g W) (m : Mth) (hl : (ap.endLine == cp.line) = true) (hx : notCall a = true) (hs : notStar b = true) (ha : PE X a (T X.K cur g W ea)) (hb : PE X b (T X.K cur g W eb)) :
    PE X (.Call (.Attribute a (mtName m) ap) [b] [] cp) (T X.K cur g W (.met m ea eb)) := by
  have hst := star1 (X := X) hs
  have two : ∀ {σ : L2.St} {H : Hp} {Q : VK} {TY : V → Hp → Prop} {Gl : V → V → Hp → Prop} {O : Addr → Prop} {ρ : REnv}, StRel X.K cur O ρ σ H → Fin X.K O ρ σ H W Q (ev g (.met m ea eb) ρ) →
      (∀ k dep x v H1, StRel X.K cur O ρ σ H1 → Same H H1 → Res X.K O ρ σ H H1 k dep x v → recv m x = true → TY v H1) →
      (∀ k dep x v kb db y u H0 H1 H2, StRel X.K cur O ρ σ H0 → StRel X.K cur O ρ σ H1 → StRel X.K cur O ρ σ H2 → Same H0 H1 → Same H1 H2 → Res X.K O ρ σ H0 H2 k dep x v → Res X.K O ρ σ H1 H2 kb db y u → ∀ d, meth m x y = some d → Fin X.K O ρ σ H2 W Q (some (.ok .plain [] d)) → Gl v u H2) →
      T X.K cur g W ea σ H fun v H1 => TY v H1 ∧ T X.K cur g W eb σ H1 fun u H2 => Gl v u H2 := fun {σ H Q TY Gl O ρ} R h hty hk => by
    refine T.bind (k := fun _ _ x => if recv m x then Rs.map2 (ev g eb ρ) fun _ _ y => (meth m x y).map fun d => .ok .plain [] d else none) R h fun k dep x v H1 R1 s1 r1 q => ?_
    by_cases hr : recv m x = true
    · rw [if_pos hr] at q
      refine ⟨hty k dep x v H1 R1 s1 r1 hr, T.bind R1 q fun kb db y u H2 R2 s2 r2 q => ?_⟩
      cases e : meth m x y with
      | none => rw [e] at q; exact q.elim
      | some d =>
        rw [e] at q
        exact hk k dep x v kb db y u H H1 H2 R R1 R2 s1 s2 (r1.stay s2) r2 d e q
    · rw [if_neg hr] at q; exact q.elim
  have tyS : ∀ {σ : L2.St} {O : Addr → Prop} {ρ : REnv} {H H1 : Hp} {k : Kd} {dep : List Nat} {x : D} {v : V}, Res X.K O ρ σ H H1 k dep x v → (∃ z, x = .str z) → tyV X.K "str" v H1 := fun r ⟨z, e⟩ => by
    subst e
    obtain rfl := r.str
    exact rfl
  have tyL : ∀ {σ : L2.St} {O : Addr → Prop} {ρ : REnv} {H H1 : Hp} {k : Kd} {dep : List Nat} {x : D} {v : V}, StRel X.K cur O ρ σ H → Same H H1 → Res X.K O ρ σ H H1 k dep x v → (∃ l, x = .list l) → tyV X.K "list" v H1 := fun R s r ⟨l, e⟩ => by
    subst e
    obtain ⟨p, xs, rfl, hq, _⟩ := r.list R s
    exact .inl ⟨rfl, xs, hq⟩
  cases m with
  | sindex =>
    refine T.imp (pe_bm PySem.F.plainAttrs_str PySem.F.slot_str_index PySem.F.type_str_index mt_sindex ha (pa_cons hb pa_nil hst) (hb_of hx) (by rw [hst]; rfl) hl hst rfl) ?_
    rintro σ H Q ⟨O, ρ, R, h⟩
    refine two R h (fun k dep x v H1 R1 s1 r1 hr => tyS r1 (by cases x <;> first | exact ⟨_, rfl⟩ | exact no hr)) fun k dep x v kb db y u H0 H1 H2 R0 R1 R2 s1 s2 r1 r2 d e q => ?_
    cases x with
    | str z =>
      cases y with
      | str w =>
        obtain rfl := r1.str
        obtain rfl := r2.str
        have e : (Builtin.Str.occurrences z w 0 z.length 1).head?.map (fun i => PyData.int (i : Nat)) = some d := e
        cases e2 : Builtin.Str.occurrences z w 0 z.length 1 with
        | nil => rw [e2] at e; cases e
        | cons i rest =>
          rw [e2] at e
          cases e
          exact ⟨z, w, i, rest, rfl, rfl, e2, Fin.val q (.int _)⟩
      | _ => cases e
    | _ => cases y <;> cases e
  | lindex =>
    refine T.imp (pe_bm PySem.F.plainAttrs_list PySem.F.slot_list_index PySem.F.type_list_index (mt_indexD C.hu) ha (pa_cons hb pa_nil hst) (hb_of hx) (by rw [hst]; rfl) hl hst rfl) ?_
    rintro σ H Q ⟨O, ρ, R, h⟩
    refine two R h (fun k dep x v H1 R1 s1 r1 hr => tyL R s1 r1 (by cases x <;> first | exact ⟨_, rfl⟩ | exact no hr)) fun k dep x v kb db y u H0 H1 H2 R0 R1 R2 s1 s2 r1 r2 d e q => ?_
    cases x with
    | list l =>
      have e : (if SeqAt.shaped y && SeqAt.shaped (.list l) then (firstAt y l 0).map fun k => PyData.int k else none) = some d := e
      by_cases hz : (SeqAt.shaped y && SeqAt.shaped (.list l)) = true
      · rw [if_pos hz] at e
        obtain ⟨z1, z2⟩ := bb hz
        cases e2 : firstAt y l 0 with
        | none => rw [e2] at e; cases e
        | some j =>
          rw [e2] at e
          cases e
          obtain ⟨i, z, h1, h2, h3, h4⟩ := firstAt_ok e2
          obtain rfl : j = i := by omega
          have p1 := (r1.rep R0 (same_trans s1 s2)).dp
          have p2 := (r2.rep R1 s2).dp
          obtain ⟨p, xs, rfl, hq, _⟩ := r1.list R0 (same_trans s1 s2)
          exact ⟨p, u, y, l, j, z, rfl, rfl, p1, p2, z2, z1, h2, h3, h4, Fin.val q (.int _)⟩
      · rw [if_neg hz] at e; cases e
    | _ => cases e
  | join =>
    refine T.imp (pe_bm PySem.F.plainAttrs_str PySem.F.slot_str_join PySem.F.type_str_join mt_join ha (pa_cons hb pa_nil hst) (hb_of hx) (by rw [hst]; rfl) hl hst rfl) ?_
    rintro σ H Q ⟨O, ρ, R, h⟩
    refine two R h (fun k dep x v H1 R1 s1 r1 hr => tyS r1 (by cases x <;> first | exact ⟨_, rfl⟩ | exact no hr)) fun k dep x v kb db y u H0 H1 H2 R0 R1 R2 s1 s2 r1 r2 d e q => ?_
    cases x with
    | str z =>
      cases y with
      | list l =>
        obtain rfl := r1.str
        have e : ((strsOf l).bind fun ys => if (ys.map (·.length)).sum + ys.length * z.length ≤ 16777216 then some (PyData.str (Txt.join z ys)) else none) = some d := e
        cases e2 : strsOf l with
        | none => rw [e2] at e; cases e
        | some ys =>
          rw [e2] at e
          have e : (if (ys.map (·.length)).sum + ys.length * z.length ≤ 16777216 then some (PyData.str (Txt.join z ys)) else none) = some d := e
          by_cases hz : (ys.map (·.length)).sum + ys.length * z.length ≤ 16777216
          · rw [if_pos hz] at e
            cases e
            obtain ⟨p, xs, rfl, hq, rl⟩ := r2.list R1 s2
            rw [strsOf_eq e2] at rl
            rw [rl.strs] at hq
            exact ⟨z, p, ys, rfl, rfl, .inl hq, hz, Fin.val q (.str _)⟩
          · rw [if_neg hz] at e; cases e
      | _ => cases e
    | _ => cases y <;> cases e
  | lcount =>
    refine T.imp (pe_bm PySem.F.plainAttrs_list PySem.F.slot_list_count PySem.F.type_list_count mt_lcount ha (pa_cons hb pa_nil hst) (hb_of hx) (by rw [hst]; rfl) hl hst rfl) ?_
    rintro σ H Q ⟨O, ρ, R, h⟩
    refine two R h (fun k dep x v H1 R1 s1 r1 hr => tyL R s1 r1 (by cases x <;> first | exact ⟨_, rfl⟩ | exact no hr)) fun k dep x v kb db y u H0 H1 H2 R0 R1 R2 s1 s2 r1 r2 d e q => ?_
    cases x with
    | list l =>
      cases y with
      | int i =>
        obtain rfl := r2.int
        have e : (intsOf l).map (fun ns => PyData.int (ns.count i : Nat)) = some d := e
        cases e2 : intsOf l with
        | none => rw [e2] at e; cases e
        | some ns =>
          rw [e2] at e
          cases e
          obtain ⟨p, xs, rfl, hq, rl⟩ := r1.list R0 (same_trans s1 s2)
          rw [RepL.ints_of rl e2] at hq
          exact ⟨p, ns, i, rfl, rfl, hq, Fin.val q (.int _)⟩
      | _ => cases e
    | _ => cases y <;> cases e
end
theorem snd_met {a b : E} (m : Mth) (A : Snd g N a) (B : Snd g N b) : Snd g N (.met m a b) := .of (fun {cm X sc cur W} C x h => by
  cases x with
  | Call z xs kw pos =>
    cases z with
    | Attribute x nm ap =>
      match xs, kw, h with
      | [y], [], h =>
        obtain ⟨h1, h2⟩ := bb (show (isNm (mtName m) nm && ((ap.endLine == pos.line) && (notCall x && (notStar y && (mE g N cm a sc (.ex x) && mE g N cm b sc (.ex y)))))) = true from h)
        obtain ⟨h2, h3⟩ := bb h2
        obtain ⟨h3, h4⟩ := bb h3
        obtain ⟨h4, h5⟩ := bb h4
        obtain ⟨h5, h6⟩ := bb h5
        have e1 := nmS h1
        clear h h1
        subst e1
        exact ⟨t_met C m h2 h3 h4 (A.pe C x h5) (B.pe C y h6), rfl⟩
      | [], _, h => exact no h
      | [_], _ :: _, h => exact no h
      | _ :: _ :: _, _, h => exact no h
    | _ => exact no h
  | _ => exact no h) (fun _ => rfl) (fun _ _ => rfl)
/-- THE LAW OF EXPRESSIONS -/
theorem snd (hN : okN N = true) : ∀ e : E, Snd g N e
  | .var i => snd_var hN i
  | .glob y => snd_glob y
  | .int n => snd_int n
  | .bl n => snd_bl n
  | .non => snd_non
  | .str n => snd_str n
  | .miss => snd_no fun _ _ _ => rfl
  | .bin o a b => snd_bin o (snd hN a) (snd hN b)
  | .neg a => snd_neg (snd hN a)
  | .cmp c a b => snd_cmp c (snd hN a) (snd hN b)
  | .cmp2 c c' a b d => snd_cmp2 c c' (snd hN a) (snd hN b) (snd hN d)
  | .land a r => snd_land (snd hN a) (snd hN r)
  | .lor a r => snd_lor (snd hN a) (snd hN r)
  | .one a => snd_one (snd hN a)
  | .not a => snd_not (snd hN a)
  | .ife c a b => snd_ife (snd hN c) (snd hN a) (snd hN b)
  | .nil => snd_nil
  | .cons a r => snd_cons (snd hN a) (snd hN r)
  | .tup a => snd_tup (snd hN a)
  | .lst a => snd_lst (snd hN a)
  | .call k a => snd_call k (snd hN a)
  | .bf f a => snd_bf f (snd hN a)
  | .max2 a b => snd_max2 (snd hN a) (snd hN b)
  | .min2 a b => snd_min2 (snd hN a) (snd hN b)
  | .isi t a => snd_isi t (snd hN a)
  | .isx i c => snd_isx hN i c
  | .idx a i => snd_idx (snd hN a) (snd hN i)
  | .slc a lo hi => snd_slc (snd hN a) (snd hN lo) (snd hN hi)
  | .rev a => snd_rev (snd hN a)
  | .met m a b => snd_met m (snd hN a) (snd hN b)
  | .comp tg it c el => snd_comp tg (snd hN it) (snd hN c) (snd hN el)
  | .range1 a => snd_range1 (snd hN a)
  | .range2 a b => snd_range2 (snd hN a) (snd hN b)
  | .range3 a b c => snd_range3 (snd hN a) (snd hN b) (snd hN c)
  | .zip a b => snd_zip (snd hN a) (snd hN b)
  | .enum a => snd_enum (snd hN a)
end Vi

set_option maxRecDepth 100000
set_option maxHeartbeats 4000000
namespace Vi
open PySem PySem.Spec PyProof.Rows L2
inductive Ns where
  | st (x : Stmt) | bl (xs : List Stmt)
def lcl (sc : Scope) (x : Str) : Bool := match sc.names.lookup x with
  | some .local => true
  | _ => false
theorem lcl_ok {sc : Scope} {x : Str} (h : lcl sc x = true) : sc.names.lookup x = some .local := by
  unfold lcl at h
  split at h
  · assumption
  · cases h
/-- a comprehension that stores its value itself -/
def swB (sc : Scope) (x : Str) (p : Pos) : Expr → Bool
  | .ListComp _ _ scope vp => lcl sc x && (p.line == vp.line && !(scope.names.any fun (n, k) => n == x && (k == .local || k == .cell)))
  | _ => false
def noSc : Expr → Bool
  | .SetComp _ _ _ _ => false
  | .DictComp _ _ _ _ _ => false
  | _ => true
def notTp : Expr → Bool
  | .Tuple _ _ _ => false
  | _ => true
def isCall : Expr → Bool
  | .Call _ _ _ _ => true
  | _ => false
def parB (sc : Scope) (x y : Str) (p1 p2 : Pos) (u v : Expr) : Bool := lcl sc x && (lcl sc y && (p2.line == p1.line && (!(x == y) && (notStar u && (notStar v && (!([u, v].all (foldedForSure 8)) && !([u, v].all (constantsAlone 8))))))))
section
variable (g : G) (N : List Str) (cm : Bool) (sc : Scope)
def mSet (i : Nat) (e : E) : Stmt → Bool
  | .Assign [.Name x p] v _ => at_ N i x && (locB sc x && (mE g N cm e sc (.ex v) && noSc v))
  | _ => false
def mSet2 (i j : Nat) (e : E) : Stmt → Bool
  | .Assign [.Tuple [.Name x _, .Name y _] _ _] v _ => cm && (at_ N i x && (at_ N j y && (locB sc x && (locB sc y && (mE g N cm e sc (.ex v) && notTp v)))))
  | _ => false
def mPar (i j : Nat) (a b : E) : Stmt → Bool
  | .Assign [.Tuple [.Name x p1, .Name y p2] _ _] (.Tuple [u, v] _ _) _ => cm && (at_ N i x && (at_ N j y && (parB sc x y p1 p2 u v && (mE g N cm a sc (.ex u) && mE g N cm b sc (.ex v)))))
  | _ => false
def mSeti (i : Nat) (k e : E) : Stmt → Bool
  | .Assign [.Subscript (.Name x _) z _] v _ => at_ N i x && (visB sc x && (plainIx z && (mE g N cm e sc (.ex v) && mE g N cm k sc (.ex z))))
  | _ => false
def mSwap (i : Nat) (a b c d : E) : Stmt → Bool
  | .Assign [.Tuple [.Subscript (.Name x _) k _, .Subscript (.Name y _) l _] _ _] (.Tuple [u, v] _ _) _ => cm && (at_ N i x && (y == x && (visB sc x && (plainIx k && (plainIx l && (notStar u && (notStar v && (mE g N cm a sc (.ex k) && (mE g N cm b sc (.ex l) && (mE g N cm (.idx (.var i) c) sc (.ex u) && mE g N cm (.idx (.var i) d) sc (.ex v)))))))))))
  | _ => false
def mAug (i : Nat) (o : Op) (e : E) : Stmt → Bool
  | .AugAssign (.Name x _) .Add v _ => decide (o = .add) && (at_ N i x && (locB sc x && mE g N cm e sc (.ex v)))
  | _ => false
def mApp (i : Nat) (e : E) : Stmt → Bool
  | .Expr (.Call (.Attribute (.Name x _) m ap) [v] [] cp) _ => isNm "append" m && (at_ N i x && (visB sc x && (notStar v && ((ap.endLine == cp.line) && mE g N cm e sc (.ex v)))))
  | _ => false
def mExt (i : Nat) (e : E) : Stmt → Bool
  | .Expr (.Call (.Attribute (.Name x _) m ap) [v] [] cp) _ => isNm "extend" m && (at_ N i x && (visB sc x && (notStar v && ((ap.endLine == cp.line) && mE g N cm e sc (.ex v)))))
  | _ => false
def mPop (i : Nat) : Stmt → Bool
  | .Expr (.Call (.Attribute (.Name x _) m ap) [] [] cp) _ => isNm "pop" m && (at_ N i x && (visB sc x && (ap.endLine == cp.line)))
  | _ => false
def mExpr (e : E) : Stmt → Bool
  | .Expr v _ => isCall v && mE g N cm e sc (.ex v)
  | _ => false
def mRet (e : E) : Stmt → Bool
  | .Return (some v) _ => mE g N cm e sc (.ex v)
  | _ => false
def mRetn : Stmt → Bool
  | .Return none _ => true
  | _ => false
def mRaise (c : Str) : Stmt → Bool
  | .Raise (some (.Call (.Name x _) [.Constant (.str _) _ _] [] _)) none _ => cm && (isNm c x && (g.rai.contains c && (glB sc x && !(x == dbgs))))
  | _ => false
def mDoc : Stmt → Bool
  | .Expr (.Constant (.str _) _ _) _ => true
  | _ => false
def ifP : Stmt → Option (Expr × List Stmt × List Stmt)
  | .If z xs ys _ => some (z, xs, ys)
  | _ => none
def whP : Stmt → Option (Expr × List Stmt)
  | .While z xs [] _ => some (z, xs)
  | _ => none
def forP : Stmt → Option (Expr × Expr × List Stmt)
  | .For t it xs [] _ => some (t, it, xs)
  | _ => none
def tryP : Stmt → Option (List Stmt × Str × Option Str × List Stmt)
  | .Try xs [.ExceptHandler (some (.Name y _)) nm (b0 :: ys) _] [] [] _ => some (xs, y, nm, b0 :: ys)
  | _ => none
def mNm : Option Nat → Option Str → Bool
  | some j, some n => at_ N j n && lcl sc n
  | none, none => true
  | _, _ => false
end
def mS (g : G) (N : List Str) (cm : Bool) : S → Scope → Ns → Bool
  | .nil, _, .bl xs => xs.isEmpty
  | .cons s r, sc, .bl xs => (match xs with
    | [] => false
    | x :: xs => mS g N cm s sc (.st x) && mS g N cm r sc (.bl xs))
  | .pass, _, .st x => mDoc x
  | .set i e, sc, .st x => mSet g N cm sc i e x
  | .set2 i j e, sc, .st x => mSet2 g N cm sc i j e x
  | .par i j a b, sc, .st x => mPar g N cm sc i j a b x
  | .seti i k e, sc, .st x => mSeti g N cm sc i k e x
  | .swap i a b c d, sc, .st x => mSwap g N cm sc i a b c d x
  | .aug i o e, sc, .st x => mAug g N cm sc i o e x
  | .app i e, sc, .st x => mApp g N cm sc i e x
  | .ext i e, sc, .st x => mExt g N cm sc i e x
  | .pop i, sc, .st x => mPop N sc i x
  | .expr e, sc, .st x => mExpr g N cm sc e x
  | .ret e, sc, .st x => mRet g N cm sc e x
  | .retn, _, .st x => mRetn x
  | .raise c, sc, .st x => mRaise g cm sc c x
  | .ite c a b, sc, .st x => (match ifP x with
    | some (z, xs, ys) => notIf z && (mE g N cm c sc (.ex z) && (mS g N cm a sc (.bl xs) && mS g N cm b sc (.bl ys)))
    | none => false)
  | .whl c b, sc, .st x => (match whP x with
    | some (z, xs) => notIf z && (mE g N cm c sc (.ex z) && mS g N cm b sc (.bl xs))
    | none => false)
  | .for_ tg e b, sc, .st x => (match forP x with
    | some (t, it, xs) => cm && (tgM N sc tg t && (notSet it && ((if isIt e then mE g N cm e sc (.it t it) else mE g N cm e sc (.ex it)) && mS g N cm b sc (.bl xs))))
    | none => false)
  | .tryx b x i su, sc, .st z => (match tryP z with
    | some (xs, y, nm, ys) => cm && (y == x && (glB sc y && (!(y == dbgs) && ((g.exm.any fun p => p.1.2 == y) && (mNm N sc i nm && (mS g N cm b sc (.bl xs) && mS g N false su sc (.bl ys)))))))
    | none => false)
  | _, _, _ => false
variable {g : G} {N : List Str}
structure SndS (g : G) (N : List Str) (s : S) : Prop where
  st : ∀ {cm : Bool} {X : Cx} {sc : Scope} {cur : Cur} {W : WX}, Cxs X N sc cm cur g W → (cm = true → cur = none) → ∀ x, mS g N cm s sc (.st x) = true → PS X x (Ts X.K cur g W s)
  bl : ∀ {cm : Bool} {X : Cx} {sc : Scope} {cur : Cur} {W : WX}, Cxs X N sc cm cur g W → (cm = true → cur = none) → ∀ xs, mS g N cm s sc (.bl xs) = true → PSs X xs (Ts X.K cur g W s)
theorem SndS.one {s : S} (st : ∀ {cm : Bool} {X : Cx} {sc : Scope} {cur : Cur} {W : WX}, Cxs X N sc cm cur g W → (cm = true → cur = none) → ∀ x, mS g N cm s sc (.st x) = true → PS X x (Ts X.K cur g W s))
    (bl : ∀ {cm : Bool} {sc : Scope} xs, mS g N cm s sc (.bl xs) = false) : SndS g N s := ⟨st, fun _ _ xs h => no ((bl xs).symm.trans h)⟩
theorem s_nil : SndS g N .nil := ⟨fun C hc x h => no h, fun C hc xs h => by
  cases xs with
  | nil => exact p_nil
  | cons x xs => exact no h⟩
theorem s_cons {s r : S} (A : SndS g N s) (B : SndS g N r) : SndS g N (.cons s r) := ⟨fun C hc x h => no h, fun {cm X sc cur W} C hc xs h => by
  cases xs with
  | nil => exact no h
  | cons x xs =>
    obtain ⟨h1, h2⟩ := bb (show (mS g N cm s sc (.st x) && mS g N cm r sc (.bl xs)) = true from h)
    exact p_cons (A.st C hc x h1) (B.bl C hc xs h2)⟩
theorem s_pass : SndS g N .pass := .one (fun {cm X sc cur W} C hc x h => by
  have h : mDoc x = true := h
  unfold mDoc at h
  split at h
  · exact p_pass
  · cases h) (fun _ => rfl)
theorem noSc_ok {v : Expr} {x : Str} {p : Pos} {l : Nat} {env : PySem.Env} {sc : Scope} (h : noSc v = true) (hs : env.scope = sc) (hk : sc.kind = .function) (hw : swB sc x p v = false) : swapsWith v (some (.Name x p)) l env = pure false := by
  cases v with
  | ListComp elt gs scope vp =>
    subst hs
    have hb : env.blockKind = .function := by unfold Env.blockKind; rw [hk]; rfl
    have hw : (lcl env.scope x && (p.line == vp.line && !(scope.names.any fun (n, k) => n == x && (k == .local || k == .cell)))) = false := hw
    have e : (env.kindOf x == some NameKind.local) = lcl env.scope x := by
      show (env.scope.names.lookup x == some NameKind.local) = _
      unfold lcl
      cases env.scope.names.lookup x with
      | none => rfl
      | some k => cases k <;> rfl
    show (pure (env.blockKind == .function && env.kindOf x == some .local && p.line == vp.line && !(scope.names.any fun (n, k) => n == x && (k == .local || k == .cell))) : Sem Bool) = pure false
    rw [e, hb, show ((ScopeKind.function == ScopeKind.function) && lcl env.scope x) = lcl env.scope x from rfl, Bool.and_assoc, hw]
  | SetComp _ _ _ _ => exact no h
  | DictComp _ _ _ _ _ => exact no h
  | _ => rfl
theorem swB_ok {elt : Expr} {gs : List Comprehension} {scope : Scope} {vp : Pos} {x : Str} {p : Pos} {l : Nat} {env : PySem.Env} {sc : Scope} (hs : env.scope = sc) (hk : sc.kind = .function) (hw : swB sc x p (.ListComp elt gs scope vp) = true) : swapsWith (.ListComp elt gs scope vp) (some (.Name x p)) l env = pure true := by
  subst hs
  obtain ⟨h1, h2⟩ := bb (show (lcl env.scope x && (p.line == vp.line && !(scope.names.any fun (n, k) => n == x && (k == .local || k == .cell)))) = true from hw)
  obtain ⟨h2, h3⟩ := bb h2
  exact sw_true hk (lcl_ok h1) h2 (nb h3)
/-- a comprehension's short form -/
theorem comp_of {e : E} {cm : Bool} {sc : Scope} {elt : Expr} {gs : List Comprehension} {scope : Scope} {vp : Pos} (h : mE g N cm e sc (.ex (.ListComp elt gs scope vp)) = true) : ∃ tg it c el, e = .comp tg it c el := by
  cases e with
  | comp tg it c el => exact ⟨tg, it, c, el, rfl⟩
  | _ => exact no h
theorem s_set (hN : okN N = true) (i : Nat) (e : E) : SndS g N (.set i e) := .one (fun {cm X sc cur W} C hc x h => by
  have h : mSet g N cm sc i e x = true := h
  unfold mSet at h
  split at h
  · rename_i x p v pos hq
    obtain ⟨h1, h2⟩ := bb h
    obtain ⟨h2, h3⟩ := bb h2
    obtain ⟨h3, h4⟩ := bb h3
    refine p_asg C (at_ok h1) ?_
    cases hw : swB sc x p v with
    | false => exact ps_set (by rw [C.hN]; exact C.nd) (by rw [C.hN]; exact at_ok h1) (by rw [C.hsc]; exact locB_ok h2) ((snd hN e).pe C.toCxt v h3) (noSc_ok h4 C.hsc C.knd hw) (.inl (C.fnT x))
    | true =>
      cases v with
      | ListComp elt gs scope vp =>
        obtain ⟨tg, it, c, el, rfl⟩ := comp_of h3
        match gs, h3, hw with
        | [⟨tgE, iter, ifs, k⟩], h3, hw =>
          obtain ⟨h0, k1⟩ := bb (show (cm && (decide (k = 0) && (tgM N scope tg tgE && (blkC N sc scope (ownOf tg tgE) && (notSet iter && ((if isIt it then mE g N cm it sc (.it tgE iter) else mE g N cm it sc (.ex iter)) &&
            ((match (generalizing := false) ifs with | [] => isMiss c | [x] => !isMiss c && (notIf x && mE g N cm c (relS scope sc) (.ex x)) | _ => false) && mE g N cm el (relS scope sc) (.ex elt)))))))) = true from h3)
          obtain ⟨k1, k2⟩ := bb k1
          obtain ⟨k2, k3⟩ := bb k2
          obtain ⟨k3, k4⟩ := bb k3
          obtain ⟨k4, k5⟩ := bb k4
          obtain ⟨k5, k6⟩ := bb k5
          obtain ⟨k6, k7⟩ := bb k6
          have e1 := of_decide_eq_true k1
          clear h3 k1 h
          subst e1
          refine p_setLc C.toCxt h0 (own_slots k2) (at_ok h1) (lcl_ok (bb (show (lcl sc x && (p.line == vp.line && !(scope.names.any fun (n, k) => n == x && (k == .local || k == .cell)))) = true from hw)).1) (swB_ok C.hsc C.knd hw) (snd_iter (snd hN it) C.toCxt k5) (blkOk_by k3) (fun s H c cl fp => pg_blk C.toCxt h0 k2 s H c cl fp) (fun s H c9 cl fp => ?_) (fun s H c9 cl fp => (snd hN el).pe (C.toCxt.blk s H scope c9 cl fp) elt k7) (notSet_ok k4 _)
          unfold tTs
          match ifs, k6 with
          | [], h6 =>
            rw [if_pos (show isMiss c = true from h6)]
            exact pts_nil
          | [x], h6 =>
            obtain ⟨h8, h9⟩ := bb (show (!isMiss c && (notIf x && mE g N cm c (relS scope sc) (.ex x))) = true from h6)
            obtain ⟨h9, h10⟩ := bb h9
            rw [if_neg (show ¬ isMiss c = true by rw [nb h8]; exact Bool.false_ne_true)]
            exact pts_one ((snd hN c).pt (C.toCxt.blk s H scope c9 cl fp) x h10 h9)
          | _ :: _ :: _, h6 => exact no h6
        | [], h3, hw => exact no h3
        | ⟨_, _, _, _⟩ :: _ :: _, h3, hw => exact no h3
      | _ => exact no hw
  · cases h) (fun _ => rfl)
theorem notTp_ok {t : Expr} {v : Expr} {env : PySem.Env} (h : notTp v = true) : swappedStores [t] v env = pure none := by
  cases v <;> first | exact no h | (cases t <;> rfl)
theorem tup_sw {es : List Expr} {k : Nat} {p : Pos} {v : Expr} {l : Nat} {env : PySem.Env} : swapsWithSole [.Tuple es k p] v l env = pure false := by
  cases v <;> rfl
theorem sub_sw {a b : Expr} {p : Pos} {v : Expr} {l : Nat} {env : PySem.Env} : swapsWithSole [.Subscript a b p] v l env = pure false := by
  cases v <;> rfl
theorem sub_sto {a b : Expr} {p : Pos} {v : Expr} {env : PySem.Env} : swappedStores [.Subscript a b p] v env = pure none := by
  cases v <;> rfl
theorem sub_as {a b : Expr} {p : Pos} {env : PySem.Env} (h : plainIx b = true) (v : Value) : assign (.Subscript a b p) env v = (do
      let ov ← holding [v] (eval a env)
      let iv ← holding [v, ov] (eval b env)
      standAt p
      holding [v, ov, iv] (setItem ov iv v)
      release [v, ov, iv] []) := by
  cases b <;> first | rfl | exact no h
theorem s_set2 (hN : okN N = true) (i j : Nat) (e : E) : SndS g N (.set2 i j e) := .one (fun {cm X sc cur W} C hc x h => by
  have h : mSet2 g N cm sc i j e x = true := h
  unfold mSet2 at h
  split at h
  · obtain ⟨h0, h1⟩ := bb h
    obtain ⟨h1, h2⟩ := bb h1
    obtain ⟨h2, h3⟩ := bb h2
    obtain ⟨h3, h4⟩ := bb h3
    obtain ⟨h4, h5⟩ := bb h4
    obtain ⟨h5, h6⟩ := bb h5
    exact p_set2 C h0 (at_ok h1) (at_ok h2) (locB_ok h3) (locB_ok h4) ((snd hN e).pe C.toCxt _ h5) tup_sw (notTp_ok h6)
  · cases h) (fun _ => rfl)
theorem par_ok {x y : Str} {p1 p2 p3 p4 : Pos} {k k2 : Nat} {u v : Expr} {env : PySem.Env} {sc : Scope} (hs : env.scope = sc) (hk : sc.kind = .function) (h : parB sc x y p1 p2 u v = true) :
    swappedStores [.Tuple [.Name x p1, .Name y p2] k p3] (.Tuple [u, v] k2 p4) env = pure (some [x, y]) := by
  subst hs
  have hb : env.blockKind = .function := by unfold Env.blockKind; rw [hk]; rfl
  obtain ⟨h1, h2⟩ := bb h
  obtain ⟨h2, h3⟩ := bb h2
  obtain ⟨h3, h4⟩ := bb h3
  obtain ⟨h4, h5⟩ := bb h4
  obtain ⟨h5, h6⟩ := bb h5
  obtain ⟨h6, h7⟩ := bb h6
  obtain ⟨h7, h8⟩ := bb h7
  have kx : env.kindOf x = some .local := lcl_ok h1
  have ky : env.kindOf y = some .local := lcl_ok h2
  have nxy : (x == y) = false := nb h4
  have nyx : (y == x) = false := by
    rw [beq_eq_false_iff_ne] at nxy ⊢
    exact fun e => nxy e.symm
  have e1 : (env.kindOf x == some NameKind.local && p1.line == p1.line) = true := by rw [kx]; simp
  have e2 : (env.kindOf y == some NameKind.local && p2.line == p1.line) = true := by rw [ky]; simpa using h3
  have n2 : [x, y].eraseDups = [x, y] := by
    simp [List.eraseDups_cons, nyx]
  unfold swappedStores
  simp only [List.filterMap_cons, List.filterMap_nil, List.head?_cons, Option.map_some, Option.getD_some, Expr.pos, e1, e2, if_true, n2, nb h7, nb h8, hb, List.length_cons, List.length_nil]
  rw [if_neg (by decide), if_neg (by cases u <;> first | exact no h5 | (cases v <;> first | exact no h6 | exact Bool.false_ne_true)), if_neg (by decide), if_neg Bool.false_ne_true, if_neg Bool.false_ne_true]
theorem s_par (hN : okN N = true) (i j : Nat) (a b : E) : SndS g N (.par i j a b) := .one (fun {cm X sc cur W} C hc x h => by
  have h : mPar g N cm sc i j a b x = true := h
  unfold mPar at h
  split at h
  · obtain ⟨h0, h1⟩ := bb h
    obtain ⟨h1, h2⟩ := bb h1
    obtain ⟨h2, h3⟩ := bb h2
    obtain ⟨h3, h4⟩ := bb h3
    obtain ⟨h4, h5⟩ := bb h4
    have hw := par_ok (p3 := by assumption) (p4 := by assumption) (k := by assumption) (k2 := by assumption) C.hsc C.knd h3
    obtain ⟨k1, k2⟩ := bb h3
    obtain ⟨k2, k3⟩ := bb k2
    obtain ⟨k3, k4⟩ := bb k3
    obtain ⟨k4, k5⟩ := bb k4
    obtain ⟨k5, k6⟩ := bb k5
    obtain ⟨k6, k7⟩ := bb k6
    have ei := at_ok h1
    have ej := at_ok h2
    have hij : i ≠ j := fun e => by
      subst e
      rw [ei] at ej
      cases ej
      exact absurd (nb k4) (by simp)
    exact p_par C h0 hij ei ej (lcl_ok k1) (lcl_ok k2) k5 k6 ((snd hN a).pe C.toCxt _ h4) ((snd hN b).pe C.toCxt _ h5) (par_ok C.hsc C.knd h3)
  · cases h) (fun _ => rfl)
end Vi

set_option maxRecDepth 100000
set_option maxHeartbeats 4000000
namespace Vi
open PySem PySem.Spec PyProof.Rows L2
variable {g : G} {N : List Str}
theorem at_dbg (hN : okN N = true) {i : Nat} {x : Str} (h : at_ N i x = true) : (x == ("__debug__" : Str)) = false ∧ (x == ("__classdict__" : Str)) = false := (okN_of hN).2 i x (at_ok h)
theorem s_seti (hN : okN N = true) (i : Nat) (k e : E) : SndS g N (.seti i k e) := .one (fun {cm X sc cur W} C hc x h => by
  have h : mSeti g N cm sc i k e x = true := h
  unfold mSeti at h
  split at h
  · obtain ⟨h0, h1⟩ := bb h
    obtain ⟨h1, h2⟩ := bb h1
    obtain ⟨h2, h3⟩ := bb h2
    obtain ⟨h3, h4⟩ := bb h3
    exact p_seti C (at_ok h0) (visB_ok h1) (at_dbg hN h0).1 (at_dbg hN h0).2 ((snd hN e).pe C.toCxt _ h3) ((snd hN k).pe C.toCxt _ h4) sub_sw sub_sto (sub_as h2)
  · cases h) (fun _ => rfl)
theorem sw_sto {x y : Str} {q1 q2 q3 q4 q5 q6 : Pos} {k l u v : Expr} {kt k2 : Nat} {env : PySem.Env} : swappedStores [.Tuple [.Subscript (.Name x q1) k q2, .Subscript (.Name y q3) l q4] kt q5] (.Tuple [u, v] k2 q6) env = pure none := by
  unfold swappedStores
  simp only [List.filterMap_cons, List.filterMap_nil, List.length_cons, List.length_nil]
  split
  · rfl
  · split
    · rfl
    · exact if_pos (by decide)
theorem s_swap (hN : okN N = true) (i : Nat) (a b c d : E) : SndS g N (.swap i a b c d) := .one (fun {cm X sc cur W} C hc x h => by
  have h : mSwap g N cm sc i a b c d x = true := h
  unfold mSwap at h
  split at h
  · obtain ⟨h0, h1⟩ := bb h
    obtain ⟨h1, h2⟩ := bb h1
    obtain ⟨h2, h3⟩ := bb h2
    obtain ⟨h3, h4⟩ := bb h3
    obtain ⟨h4, h5⟩ := bb h4
    obtain ⟨h5, h6⟩ := bb h5
    obtain ⟨h6, h7⟩ := bb h6
    obtain ⟨h7, h8⟩ := bb h7
    obtain ⟨h8, h9⟩ := bb h8
    obtain ⟨h9, h10⟩ := bb h9
    obtain ⟨h10, h11⟩ := bb h10
    have e := beq_iff_eq.mp h2
    subst e
    exact p_swap C h0 (at_ok h1) (visB_ok h3) (at_dbg hN h1).1 (at_dbg hN h1).2 ((snd hN (.idx (.var i) c)).pe C.toCxt _ h10) ((snd hN (.idx (.var i) d)).pe C.toCxt _ h11) ((snd hN a).pe C.toCxt _ h8) ((snd hN b).pe C.toCxt _ h9) h6 h7 tup_sw sw_sto
      (fun p p' z hz v => by
        rcases hz with rfl | rfl
        · exact sub_as h4 v
        · exact sub_as h5 v)
  · cases h) (fun _ => rfl)
theorem s_aug (hN : okN N = true) (i : Nat) (o : Op) (e : E) : SndS g N (.aug i o e) := .one (fun {cm X sc cur W} C hc x h => by
  have h : mAug g N cm sc i o e x = true := h
  unfold mAug at h
  split at h
  · obtain ⟨h0, h1⟩ := bb h
    obtain ⟨h1, h2⟩ := bb h1
    obtain ⟨h2, h3⟩ := bb h2
    have e0 := of_decide_eq_true h0
    subst e0
    exact p_aug C (at_ok h1) (locB_ok h2) ((snd hN e).pe C.toCxt _ h3)
  · cases h) (fun _ => rfl)
theorem s_app (hN : okN N = true) (i : Nat) (e : E) : SndS g N (.app i e) := .one (fun {cm X sc cur W} C hc x h => by
  have h : mApp g N cm sc i e x = true := h
  unfold mApp at h
  split at h
  · obtain ⟨h0, h1⟩ := bb h
    obtain ⟨h1, h2⟩ := bb h1
    obtain ⟨h2, h3⟩ := bb h2
    obtain ⟨h3, h4⟩ := bb h3
    obtain ⟨h4, h5⟩ := bb h4
    have e0 := nmS h0
    subst e0
    exact p_app C (at_ok h1) (visB_ok h2) (at_dbg hN h1).1 (at_dbg hN h1).2 h3 ((snd hN e).pe C.toCxt _ h5) h4 rfl
  · cases h) (fun _ => rfl)
theorem s_ext (hN : okN N = true) (i : Nat) (e : E) : SndS g N (.ext i e) := .one (fun {cm X sc cur W} C hc x h => by
  have h : mExt g N cm sc i e x = true := h
  unfold mExt at h
  split at h
  · obtain ⟨h0, h1⟩ := bb h
    obtain ⟨h1, h2⟩ := bb h1
    obtain ⟨h2, h3⟩ := bb h2
    obtain ⟨h3, h4⟩ := bb h3
    obtain ⟨h4, h5⟩ := bb h4
    have e0 := nmS h0
    subst e0
    exact p_ext C (at_ok h1) (visB_ok h2) (at_dbg hN h1).1 (at_dbg hN h1).2 h3 ((snd hN e).pe C.toCxt _ h5) h4 rfl
  · cases h) (fun _ => rfl)
theorem s_pop (hN : okN N = true) (i : Nat) : SndS g N (.pop i) := .one (fun {cm X sc cur W} C hc x h => by
  have h : mPop N sc i x = true := h
  unfold mPop at h
  split at h
  · obtain ⟨h0, h1⟩ := bb h
    obtain ⟨h1, h2⟩ := bb h1
    obtain ⟨h2, h3⟩ := bb h2
    have e0 := nmS h0
    subst e0
    exact p_pop C (at_ok h1) (visB_ok h2) (at_dbg hN h1).1 (at_dbg hN h1).2 h3 rfl
  · cases h) (fun _ => rfl)
theorem s_expr (hN : okN N = true) (e : E) : SndS g N (.expr e) := .one (fun {cm X sc cur W} C hc x h => by
  have h : mExpr g N cm sc e x = true := h
  unfold mExpr at h
  split at h
  · obtain ⟨h0, h1⟩ := bb h
    refine p_expr ((snd hN e).pe C.toCxt _ h1) ?_
    unfold isCall at h0
    split at h0
    · rfl
    · cases h0
  · cases h) (fun _ => rfl)
theorem s_ret (hN : okN N = true) (e : E) : SndS g N (.ret e) := .one (fun {cm X sc cur W} C hc x h => by
  have h : mRet g N cm sc e x = true := h
  unfold mRet at h
  split at h
  · exact p_ret ((snd hN e).pe C.toCxt _ h)
  · cases h) (fun _ => rfl)
theorem s_retn : SndS g N .retn := .one (fun {cm X sc cur W} C hc x h => by
  have h : mRetn x = true := h
  unfold mRetn at h
  split at h
  · exact p_retn
  · cases h) (fun _ => rfl)
theorem s_raise (c : Str) : SndS g N (.raise c) := .one (fun {cm X sc cur W} C hc x h => by
  have h : mRaise g cm sc c x = true := h
  unfold mRaise at h
  split at h
  · obtain ⟨h0, h1⟩ := bb h
    obtain ⟨h1, h2⟩ := bb h1
    obtain ⟨h2, h3⟩ := bb h2
    obtain ⟨h3, h4⟩ := bb h3
    have e0 := nmS h1
    subst e0
    exact p_raise C h0 h2 h3 (dbg_ok h4)
  · cases h) (fun _ => rfl)
theorem ifP_ok {x : Stmt} {z : Expr} {xs ys : List Stmt} (h : ifP x = some (z, xs, ys)) : ∃ p, x = .If z xs ys p := by
  unfold ifP at h
  split at h
  · cases h; exact ⟨_, rfl⟩
  · cases h
theorem whP_ok {x : Stmt} {z : Expr} {xs : List Stmt} (h : whP x = some (z, xs)) : ∃ p, x = .While z xs [] p := by
  unfold whP at h
  split at h
  · cases h; exact ⟨_, rfl⟩
  · cases h
theorem forP_ok {x : Stmt} {t it : Expr} {xs : List Stmt} (h : forP x = some (t, it, xs)) : ∃ p, x = .For t it xs [] p := by
  unfold forP at h
  split at h
  · cases h; exact ⟨_, rfl⟩
  · cases h
theorem tryP_ok {x : Stmt} {xs ys : List Stmt} {y : Str} {nm : Option Str} (h : tryP x = some (xs, y, nm, ys)) : ∃ np p1 pos b0 zs, ys = b0 :: zs ∧ x = .Try xs [.ExceptHandler (some (.Name y np)) nm (b0 :: zs) p1] [] [] pos := by
  unfold tryP at h
  split at h
  · cases h; exact ⟨_, _, _, _, _, rfl, rfl⟩
  · cases h
theorem s_ite (hN : okN N = true) (c : E) {a b : S} (A : SndS g N a) (B : SndS g N b) : SndS g N (.ite c a b) := .one (fun {cm X sc cur W} C hc x h => by
  have h : (match ifP x with
    | some (z, xs, ys) => notIf z && (mE g N cm c sc (.ex z) && (mS g N cm a sc (.bl xs) && mS g N cm b sc (.bl ys)))
    | none => false) = true := h
  cases e : ifP x with
  | none => rw [e] at h; cases h
  | some t =>
    rw [e] at h
    obtain ⟨z, xs, ys⟩ := t
    obtain ⟨p, rfl⟩ := ifP_ok e
    obtain ⟨h1, h2⟩ := bb h
    obtain ⟨h2, h3⟩ := bb h2
    obtain ⟨h3, h4⟩ := bb h3
    exact p_if ((snd hN c).pt C.toCxt z h2 h1) (A.bl C hc xs h3) (B.bl C hc ys h4)) (fun _ => rfl)
theorem s_whl (hN : okN N = true) (c : E) {b : S} (B : SndS g N b) : SndS g N (.whl c b) := .one (fun {cm X sc cur W} C hc x h => by
  have h : (match whP x with
    | some (z, xs) => notIf z && (mE g N cm c sc (.ex z) && mS g N cm b sc (.bl xs))
    | none => false) = true := h
  cases e : whP x with
  | none => rw [e] at h; cases h
  | some t =>
    rw [e] at h
    obtain ⟨z, xs⟩ := t
    obtain ⟨p, rfl⟩ := whP_ok e
    obtain ⟨h1, h2⟩ := bb h
    obtain ⟨h2, h3⟩ := bb h2
    exact p_while C ((snd hN c).pt C.toCxt z h2 h1) (B.bl C hc xs h3)) (fun _ => rfl)
theorem s_for (hN : okN N = true) (tg : Tg) (it : E) {b : S} (B : SndS g N b) : SndS g N (.for_ tg it b) := .one (fun {cm X sc cur W} C hc x h => by
  have h : (match forP x with
    | some (t, z, xs) => cm && (tgM N sc tg t && (notSet z && ((if isIt it then mE g N cm it sc (.it t z) else mE g N cm it sc (.ex z)) && mS g N cm b sc (.bl xs))))
    | none => false) = true := h
  cases e : forP x with
  | none => rw [e] at h; cases h
  | some t =>
    rw [e] at h
    obtain ⟨t, z, xs⟩ := t
    obtain ⟨p, rfl⟩ := forP_ok e
    obtain ⟨h1, h2⟩ := bb h
    obtain ⟨h2, h3⟩ := bb h2
    obtain ⟨h3, h4⟩ := bb h3
    obtain ⟨h4, h5⟩ := bb h4
    exact p_for C h1 (snd_iter (snd hN it) C.toCxt h4) (pg_st C h1 h2) (B.bl C hc xs h5) (notSet_ok h3 _)) (fun _ => rfl)
theorem s_try (x : Str) (i : Option Nat) {b su : S} (B : SndS g N b) (U : SndS g N su) : SndS g N (.tryx b x i su) := .one (fun {cm X sc cur W} C hc z h => by
  have h : (match tryP z with
    | some (xs, y, nm, ys) => cm && (y == x && (glB sc y && (!(y == dbgs) && ((g.exm.any fun p => p.1.2 == y) && (mNm N sc i nm && (mS g N cm b sc (.bl xs) && mS g N false su sc (.bl ys)))))))
    | none => false) = true := h
  cases e : tryP z with
  | none => rw [e] at h; cases h
  | some t =>
    rw [e] at h
    obtain ⟨xs, y, nm, ys⟩ := t
    obtain ⟨np, p1, pos, b0, zs, rfl, rfl⟩ := tryP_ok e
    obtain ⟨h1, g2⟩ := bb h
    obtain ⟨h2, g3⟩ := bb g2
    obtain ⟨h3, g4⟩ := bb g3
    obtain ⟨h4, g5⟩ := bb g4
    obtain ⟨h5, g6⟩ := bb g5
    obtain ⟨h6, g7⟩ := bb g6
    obtain ⟨h7, h8⟩ := bb g7
    have e0 := beq_iff_eq.mp h2
    clear h e h2 g2 g3 g4 g5 g6 g7
    subst e0
    have hcur := hc h1
    have hb : ∀ X' W', Cxs X' N sc cm cur g W' → X'.K = X.K → X'.env = X.env → PSs X' xs (Ts X'.K cur g W' b) := fun X' W' C' _ _ => B.bl C' hc xs h7
    have hs : ∀ X' a c, Cxs X' N sc false (some (a, c)) g (fun _ _ _ _ => False) → X'.env = X.env → PSs X' (b0 :: zs) (Ts X'.K (some (a, c)) g (fun _ _ _ _ => False) su) := fun X' a c C' _ => U.bl C' (fun z => nomatch z) _ h8
    match i, nm, h6 with
    | some j, some n, h6 =>
      obtain ⟨k1, k2⟩ := bb (show (at_ N j n && lcl sc n) = true from h6)
      exact p_try C hcur (at_ok k1) (lcl_ok k2) h3 (dbg_ok h4) h5 hb hs
    | none, none, h6 => exact p_tryo C hcur h3 (dbg_ok h4) h5 hb hs
    | some _, none, h6 => exact no h6
    | none, some _, h6 => exact no h6) (fun _ => rfl)
/-- THE LAW OF STATEMENTS -/
theorem sndS (hN : okN N = true) : ∀ s : S, SndS g N s
  | .nil => s_nil
  | .cons s r => s_cons (sndS hN s) (sndS hN r)
  | .set i e => s_set hN i e
  | .set2 i j e => s_set2 hN i j e
  | .par i j a b => s_par hN i j a b
  | .seti i k e => s_seti hN i k e
  | .swap i a b c d => s_swap hN i a b c d
  | .aug i o e => s_aug hN i o e
  | .app i e => s_app hN i e
  | .ext i e => s_ext hN i e
  | .pop i => s_pop hN i
  | .expr e => s_expr hN e
  | .ret e => s_ret hN e
  | .retn => s_retn
  | .ite c a b => s_ite hN c (sndS hN a) (sndS hN b)
  | .whl c b => s_whl hN c (sndS hN b)
  | .for_ tg it b => s_for hN tg it (sndS hN b)
  | .raise c => s_raise c
  | .tryx b x i su => s_try x i (sndS hN b) (sndS hN su)
  | .pass => s_pass
end Vi

set_option maxRecDepth 100000
set_option maxHeartbeats 4000000
namespace Vi
open PySem PySem.Spec PyProof.Rows L2
/-- what a def does: n parameters, m names in all -/
def runF (g : G) (n m : Nat) (b : S) : Fn := fun ds => if ds.length = n then (match ex g b (ds.map .val ++ List.replicate (m - n) .un) with
  | some (.rt d) => some (.ret d)
  | some (.rl l) => some (.lst l)
  | some (.nx _) => some (.ret .none)
  | some (.ex c _) => some (.ex c)
  | none => none) else none
/-- what a law's defs have in common -/
structure Wd (K : PySem.W.Frag) (mg : Str → Option Value) (g : G) : Prop where
  blt : ∀ x ∈ bltNames, mg x = none
  consts : ∀ (x : Str) (d : D), g.consts.lookup x = some d → ∃ v u, mg x = some u ∧ RelV v u ∧ ∀ H P, Rep K H P d v
  isk : ∀ (x c : Str) (b : Bool), g.isx.lookup (x, c) = some b → ∃ (v : V) (u : Value), ((mg c = some u) ∨ (mg c = none ∧ bootBuiltins c = some u ∧ c ≠ "__name__")) ∧ RelV v u ∧ (∀ z, RelV v z → z = u) ∧ PySem.W.kitOne K (.ref (He.ga K x)) u = some b
  rai : ∀ c ∈ g.rai, ∃ (B newId initId : String) (bmB : List Value), ExcBaseFacts B newId initId bmB ∧ PySem.W.excIn K (He.ga K c) bmB newId = true ∧ mg c = some (.ref (He.ga K c)) ∧ PySem.W.keepIn K (.ref (He.ga K c)) = true ∧
    PySem.W.subIn K (.ref (He.ga K c)) (.type "BaseException") = some true ∧ PySem.W.typeIn K (.ref (He.ga K c)) = some (.type "type")
  exk : ∀ x, (g.exm.any fun p => p.1.2 == x) = true → ∃ cv, (mg x = some cv ∨ (mg x = none ∧ bootBuiltins x = some cv ∧ x ≠ "__name__")) ∧ ∀ c b, g.exm.lookup (c, x) = some b → PySem.W.exmOne K (.ref (He.ga K c)) cv = some b
  exc : ∀ c x b, g.isx.lookup (c, x) = some b → ExcC K (He.ga K c)
/-- tables alike but for the defs that are called -/
def G.with (g : G) (fns : List (Str × Fn)) : G := { g with fns := fns }
/-- a def as it is known -/
structure Kn (P : Program) (w : World) (K : PySem.W.Frag) (mg : Str → Option Value) (base : Heap) (k : Nat) (nm : Str) (F : Fn) : Prop where
  ex : ∃ (a : Addr) (fd : FuncData) (ps : List Str), FnOk P w K mg base (L2.CX P w) k a fd ps (spF K F) ∧ mg nm = some (.ref a) ∧ PySem.W.keepIn K (.ref a) = true ∧ Binds K fd ps []
theorem Kn.mono {P : Program} {w : World} {K : PySem.W.Frag} {mg : Str → Option Value} {base : Heap} {j k : Nat} {nm : Str} {F : Fn} (h : Kn P w K mg base j nm F) (l : j ≤ k) : Kn P w K mg base k nm F := by
  obtain ⟨a, fd, ps, h1, h2⟩ := h.ex
  exact ⟨a, fd, ps, h1.mono l, h2⟩
theorem start_rel {K : PySem.W.Frag} {O : Addr → Prop} {H : Hp} {N : List Str} {n : Nat} {ds : List D} {vs : List V} (od : ∀ a, O a → H a ≠ none) (r : RepL K H (fun a => ¬ O a) ds vs) (hn : ds.length = n) :
    StRel K none O (ds.map .val ++ List.replicate (N.length - n) .un) (L2.start N vs) H := by
  have hl := r.length
  have no : ∀ (i : Nat) (s : Slot), (ds.map Slot.val ++ List.replicate (N.length - n) .un)[i]? = some s → s = .un ∨ ∃ d, s = .val d ∧ ds[i]? = some d := fun i s e => by
    by_cases hi : i < ds.length
    · rw [List.getElem?_append_left (by simpa using hi), List.getElem?_map] at e
      cases q : ds[i]? with
      | none => rw [q] at e; cases e
      | some d =>
        rw [q] at e
        exact .inr ⟨d, (Option.some.inj e).symm, rfl⟩
    · rw [List.getElem?_append_right (by simpa using hi), List.getElem?_replicate] at e
      split at e
      · exact .inl (Option.some.inj e).symm
      · cases e
  have nown : ∀ (i : Nat) (es : List D), (ds.map Slot.val ++ List.replicate (N.length - n) .un)[i]? ≠ some (.own es) := fun i es e => by
    rcases no i _ e with z | ⟨d, z, _⟩ <;> cases z
  refine ⟨by simp [L2.start, hl, ← hn], od, fun i d e => ?_, fun i es e => absurd e (nown i es), fun i j es fs a e => absurd e (nown i es), fun i c e => ?_⟩
  · rcases no i _ e with z | ⟨d', z, q⟩
    · cases z
    · cases z
      obtain ⟨v, e1, rv⟩ := r.get q
      have hi : i < vs.length := (List.getElem?_eq_some_iff.mp e1).1
      refine ⟨v, ?_, Rep.stay (.same same_refl fun a p => ⟨p, fun j es e5 => absurd e5 (nown j es)⟩) _ rv⟩
      unfold L2.start
      rw [List.getElem?_append_left (by simpa using hi), List.getElem?_map, e1]
      rfl
  · rcases no i _ e with z | ⟨d, z, _⟩ <;> cases z
section
variable {P : Program} {w : World} {K : PySem.W.Frag} {mg : Str → Option Value} {base : Heap}
/-- a def's body, by its short form -/
theorem fn_of1 {g : G} {nm : Str} {params : Arguments} {body : List Stmt} {scope : Scope} {f : Addr} {fd : FuncData} {ps N : List Str} {k n : Nat} {b : S} (F : FunD K nm nm params body scope [] [] f fd) (S : FnScope N ps scope) (hps : ps.length = n) (hN : okN N = true)
    (hm : mS g N true b scope (.bl body) = true) (Wk : Wd K mg g) (hf : ∀ (i : Nat) (x : Str) (F : Fn), g.fns[i]? = some (x, F) → Kn P w K mg base k x F) :
    FnOk P w K mg base (L2.CX P w) (k + 1) f fd ps (spF K (runF g n N.length b)) := by
  have len : ∀ vs H Q E, spF K (runF g n N.length b) vs H Q E → vs.length = ps.length := fun vs H Q E ⟨O, ds, r, od, rl, e, _⟩ => by
    by_cases h : ds.length = n
    · rw [hps, ← h, rl.length]
    · have e : (if ds.length = n then _ else none) = some r := e
      rw [if_neg h] at e
      cases e
  refine F.ok S len fun cdv A outer s H vs Q E hr hsp => ⟨Ts K none g (fun cls d _ H => E cls d H) b, ?_, ?_⟩
  · refine (sndS hN b).bl (cm := true) (sc := scope) (cur := none) ⟨⟨rfl, S.nd, rfl, fun _ => rfl, takes_of rfl rfl rfl rfl, ?_, fun _ i x F e => ?_, Wk.blt, Wk.consts, fun a x c b e => (nomatch e), Wk.isk⟩, S.kind, fun _ => rfl, passes_of rfl, rfl, rfl, fun c hc => ?_, Wk.exk, Wk.exc⟩ (fun _ => rfl) body hm
    · have := hr.un
      show (A.deeper _).units + 65 < cLine
      omega
    · obtain ⟨a, fd, ps, h1, h2, h3, h4⟩ := (hf i x F e).ex
      exact ⟨a, fd, ps, k, h1, hr, h2, h3, h4⟩
    · obtain ⟨B, n1, n2, bm, h1, h2, h3, h4, h5, h6⟩ := Wk.rai c hc
      exact ⟨B, n1, n2, bm, h1, h2, h3, h4, raises_own h5 h6⟩
  · obtain ⟨O, ds, r, od, rl, e, hq⟩ := hsp
    have e : (if ds.length = n then (match ex g b (ds.map .val ++ List.replicate (N.length - n) .un) with
      | some (.rt d) => some (.ret d)
      | some (.rl l) => some (.lst l)
      | some (.nx _) => some (.ret .none)
      | some (.ex c _) => some (.ex c)
      | none => none) else none) = some r := e
    by_cases hl : ds.length = n
    · rw [if_pos hl] at e
      have R := start_rel (N := N) od rl hl
      have nowO : ∀ p, ¬ Ow (ds.map .val ++ List.replicate (N.length - n) .un) (L2.start N vs) p := fun p ⟨i, es, e1, _⟩ => by
        by_cases hi : i < ds.length
        · rw [List.getElem?_append_left (by simpa using hi), List.getElem?_map] at e1
          cases q : ds[i]? with
          | none => rw [q] at e1; cases e1
          | some d => rw [q] at e1; cases e1
        · rw [List.getElem?_append_right (by simpa using hi), List.getElem?_replicate] at e1
          split at e1 <;> cases e1
      have sm : ∀ {H' : Hp}, Kp (ds.map .val ++ List.replicate (N.length - n) .un) (L2.start N vs) H H' → Same H H' := fun k a u ea => k a u ea fun ⟨i, es, e1, _⟩ => by
        by_cases hi : i < ds.length
        · rw [List.getElem?_append_left (by simpa using hi), List.getElem?_map] at e1
          cases q : ds[i]? with
          | none => rw [q] at e1; cases e1
          | some d => rw [q] at e1; cases e1
        · rw [List.getElem?_append_right (by simpa using hi), List.getElem?_replicate] at e1
          split at e1 <;> cases e1
      refine ⟨O, _, R, ?_⟩
      cases e2 : ex g b (ds.map .val ++ List.replicate (N.length - n) .un) with
      | none => rw [e2] at e; cases e
      | some z =>
        rw [e2] at e
        cases z with
        | rt d =>
          cases e
          exact fun v H' k rv => hq v H' (sm k) rv
        | rl l =>
          cases e
          exact fun v H' k ⟨p, xs, e1, e2, e3⟩ => hq v H' (sm k) ⟨p, xs, e1, e2.elim id fun o => (nowO p o).elim, e3⟩
        | nx ρ' =>
          cases e
          exact fun σ' H' R' s' => hq .non H' (sm s'.keep) .non
        | ex c ρ' =>
          cases e
          exact fun σ' H' R' s' => hq H' (sm s'.keep)
    · rw [if_neg hl] at e; cases e
theorem kn_of {g : G} {nm : Str} {params : Arguments} {body : List Stmt} {scope : Scope} {f : Addr} {fd : FuncData} {ps N : List Str} {k n : Nat} {b : S} (F : FunD K nm nm params body scope [] [] f fd) (S : FnScope N ps scope) (hps : ps.length = n) (hN : okN N = true)
    (hm : mS g N true b scope (.bl body) = true) (hg : mg nm = some (.ref f)) (hb : Binds K fd ps []) (Wk : Wd K mg g) (hf : ∀ (i : Nat) (x : Str) (F : Fn), g.fns[i]? = some (x, F) → Kn P w K mg base k x F) :
    Kn P w K mg base (k + 1) nm (runF g n N.length b) := ⟨f, fd, ps, fn_of1 F S hps hN hm Wk hf, hg, F.kp, hb⟩
end
end Vi

set_option maxRecDepth 100000
set_option maxHeartbeats 4000000
namespace Vi
open PySem PySem.Spec PyProof.Rows L2
def cstB (K : PySem.W.Frag) (x : Str) : D → Bool
  | .int i => (He.Fa.int x i).ok K
  | .str z => (He.Fa.str x z).ok K
  | .tuple l => (match intsOf l with
    | some ns => (He.Fa.glo x).ok K && He.tupB K x (ns.map He.Dv.int)
    | none => false)
  | _ => false
def excB (K : PySem.W.Frag) (c : Str) : Bool :=
  decide (PySem.W.findIn K (.ref (He.ga K c)) "__getattribute__" = some (some (.builtin "BaseException.__getattribute__"))) && (decide (PySem.W.findIn K (.ref (He.ga K c)) "__getattr__" = some none) && (decide (PySem.W.subIn K (.ref (He.ga K c)) (.type "BaseException") = some true) &&
  (PySem.W.hasDictIn K (He.ga K c) && (decide (PySem.W.findIn K (.ref (He.ga K c)) "__class__" = some (some (.builtin "object.__class__"))) && (decide (PySem.W.specialIn K (.builtin "object.__class__") "__get__" = some (some (.builtin "getset_descriptor.__get__"))) &&
  (decide (PySem.W.takesIn K (.builtin "object.__class__") = some true) && decide (PySem.W.mroIn K (He.ga K c) (.type "object") = some true)))))))
def iskB (K : PySem.W.Frag) (x c : Str) (b : Bool) : Bool :=
  if c == ("ValueError" : Str) then (He.Fa.free c).ok K && decide (PySem.W.kitOne K (.ref (He.ga K x)) (.type "ValueError") = some b)
  else (He.Fa.glo c).ok K && decide (PySem.W.kitOne K (.ref (He.ga K x)) (.ref (He.ga K c)) = some b)
def wdB (g : G) (K : PySem.W.Frag) : Bool :=
  (bltNames.all fun x => (He.Fa.free x).ok K) && ((g.consts.all fun p => cstB K p.1 p.2) && ((g.isx.all fun p => iskB K p.1.1 p.1.2 p.2 && excB K p.1.1) && ((g.rai.all fun c => (He.Fa.glo c).ok K && (He.Fa.exc c).ok K) &&
  (g.exm.all fun p => (He.Fa.glo p.1.2).ok K && (He.Fa.exm p.1.1 p.1.2 p.2).ok K))))
theorem look_mem {α β : Type} [BEq α] [LawfulBEq α] : ∀ {l : List (α × β)} {x : α} {y : β}, l.lookup x = some y → (x, y) ∈ l
  | (a, b) :: r, x, y, h => by
    rw [List.lookup_cons] at h
    cases q : (x == a) with
    | true =>
      rw [q] at h
      have h : some b = some y := h
      cases h
      rw [beq_iff_eq.mp q]
      exact List.mem_cons_self
    | false =>
      rw [q] at h
      exact List.mem_cons_of_mem _ (look_mem h)
theorem excB_ok {K : PySem.W.Frag} {c : Str} (h : excB K c = true) : ExcC K (He.ga K c) := by
  obtain ⟨h1, h⟩ := bb h
  obtain ⟨h2, h⟩ := bb h
  obtain ⟨h3, h⟩ := bb h
  obtain ⟨h4, h⟩ := bb h
  obtain ⟨h5, h⟩ := bb h
  obtain ⟨h6, h⟩ := bb h
  obtain ⟨h7, h8⟩ := bb h
  exact ⟨of_decide_eq_true h1, of_decide_eq_true h2, of_decide_eq_true h3, h4, of_decide_eq_true h5, of_decide_eq_true h6, of_decide_eq_true h7, of_decide_eq_true h8⟩
theorem intsOf_eq : ∀ {l : List D} {ns : List Int}, intsOf l = some ns → l = ns.map .int
  | [], ns, h => by
    cases h
    rfl
  | .int i :: r, ns, h => by
    have h : (intsOf r).map (i :: ·) = some ns := h
    cases e : intsOf r with
    | none => rw [e] at h; cases h
    | some ms =>
      rw [e] at h
      cases h
      rw [intsOf_eq e]
      rfl
  | .none :: _, _, h => by cases h
  | .bool _ :: _, _, h => by cases h
  | .str _ :: _, _, h => by cases h
  | .list _ :: _, _, h => by cases h
  | .tuple _ :: _, _, h => by cases h
  | .dict _ :: _, _, h => by cases h
section
variable {K : PySem.W.Frag} {h : Heap} {mg : Str → Option Value} {g : G}
theorem cstB_ok (X : K.In h) (Gs : h.Ns mainGlobals mg) {x : Str} {d : D} (c : cstB K x d = true) : ∃ v u, mg x = some u ∧ RelV v u ∧ ∀ H P, Rep K H P d v := by
  cases d with
  | int i =>
    obtain ⟨t, e⟩ := He.int_ok X Gs c
    exact ⟨.int i, _, e, ⟨t, rfl⟩, fun H P => .int i⟩
  | str z =>
    obtain ⟨t, e⟩ := He.str_ok X Gs c
    exact ⟨.str z, _, e, ⟨t, rfl⟩, fun H P => .str z⟩
  | tuple l =>
    have c : (match intsOf l with
      | some ns => (He.Fa.glo x).ok K && He.tupB K x (ns.map He.Dv.int)
      | none => false) = true := c
    cases e : intsOf l with
    | none => rw [e] at c; cases c
    | some ns =>
      rw [e] at c
      obtain ⟨c1, c2⟩ := bb c
      refine ⟨.ref (He.ga K x), _, He.glo_ok X Gs c1, rfl, fun H P => ?_⟩
      have z := He.tupB_ok c2 (fun _ => none)
      rcases z with z | z
      · rcases z with z | ⟨o, z⟩ <;> cases z
      · rw [intsOf_eq e]
        refine .tup (.inr z) ?_
        rw [List.map_map]
        exact RepL.ints ns
  | _ => exact no c
theorem wd_of (X : K.In h) (Gs : h.Ns mainGlobals mg) (c : wdB g K = true) : Wd K mg g := by
  obtain ⟨c1, c⟩ := bb c
  obtain ⟨c2, c⟩ := bb c
  obtain ⟨c3, c⟩ := bb c
  obtain ⟨c4, c5⟩ := bb c
  rw [List.all_eq_true] at c1 c2 c3 c4 c5
  refine ⟨fun x hx => He.free_ok X Gs (c1 x hx), fun x d e => cstB_ok X Gs (c2 _ (look_mem e)), fun x c b e => ?_, fun c hc => ?_, fun x hx => ?_, fun c x b e => excB_ok (bb (c3 _ (look_mem e))).2⟩
  · have z := (bb (c3 _ (look_mem e))).1
    have z : (if c == ("ValueError" : Str) then (He.Fa.free c).ok K && decide (PySem.W.kitOne K (.ref (He.ga K x)) (.type "ValueError") = some b)
      else (He.Fa.glo c).ok K && decide (PySem.W.kitOne K (.ref (He.ga K x)) (.ref (He.ga K c)) = some b)) = true := z
    by_cases hc : (c == ("ValueError" : Str)) = true
    · rw [if_pos hc] at z
      obtain ⟨z1, z2⟩ := bb z
      have ec := beq_iff_eq.mp hc
      subst ec
      exact ⟨.ty "ValueError", .type "ValueError", .inr ⟨He.free_ok X Gs z1, by decide +kernel, by decide +kernel⟩, rfl, fun z hz => hz, of_decide_eq_true z2⟩
    · rw [if_neg hc] at z
      obtain ⟨z1, z2⟩ := bb z
      exact ⟨.ref (He.ga K c), _, .inl (He.glo_ok X Gs z1), rfl, fun z hz => hz, of_decide_eq_true z2⟩
  · obtain ⟨z1, z2⟩ := bb (c4 c hc)
    obtain ⟨k1, k2, k3, k4⟩ := He.exc_ok z2
    exact ⟨_, _, _, _, PySem.F.excBase_ValueError, k1, He.glo_ok X Gs z1, k2, k3, k4⟩
  · obtain ⟨p, hp, e⟩ := List.any_eq_true.mp hx
    have e := beq_iff_eq.mp e
    subst e
    refine ⟨_, .inl (He.glo_ok X Gs (bb (c5 p hp)).1), fun c b e => He.exm_ok (bb (c5 _ (look_mem e))).2⟩
end
/-! ### the Hook of facts -/
abbrev AlV : Type := He.AlD × Bool
def obsV (n : Nat) (fn : List He.DefD) (ex : PySem.W.Frag → Bool) (g : Addr → Option Obj) : AlV := (He.obsD [] fn (He.frG g (He.asD g n)), ex (He.frG g (He.asD g n)))
def valV (fn : List He.DefD) : AlV := (He.valD fn, true)
def hookV (n : Nat) (fn : List He.DefD) (ex : PySem.W.Frag → Bool) : PySem.W.Hook where
  α := AlV
  obs := fun s => obsV n fn ex s.heap.get?
  val := fun _ => valV fn
  says := fun _ h => ∃ K : PySem.W.Frag, K.In h ∧ He.SaysD [] fn K ∧ ex K = true
  of := fun _ _ e => ⟨_, He.frG_in, congrArg (fun z : AlV => z.1) e, congrArg (fun z : AlV => z.2) e⟩
  keeps := fun _ _ _ ⟨K, hK, c⟩ k => ⟨K, PySem.W.Frag.In.keeps hK k, c⟩
theorem obsV_eq {n : Nat} {fn : List He.DefD} {ex : PySem.W.Frag → Bool} {g : Addr → Option Obj} {s : Shared} (h : ∀ a, g a = s.heap.get? a) : obsV n fn ex g = (hookV n fn ex).obs s := by
  have e : g = s.heap.get? := funext h
  rw [e] <;> rfl
/-- a law's end -/
theorem walk_V {l : PySem.W.OpenLaw} {n k : Nat} {q : Program} {loose : List Str} {XP : (Str → Option Value) → Heap → Prop} {YP : World → Heap → Prop} {d : DefRec} {x : Str} {F : Fn}
    (hn : l.most = some n) (hn2 : n ≤ sizeLine) (hdf : d.params.defaults = []) (hr : Room k callerA)
    (FF : ∀ (w : World) (mg : Str → Option Value) (fa : Addr) (h : Heap), YP w h → h.Ns mainGlobals mg → mg d.name = some (.ref fa) →
      ∃ (K : PySem.W.Frag) (fd : FuncData), K.In h ∧ (∀ (s : Shared) (u : Value), BindsTo s fd ⟨[u], []⟩ [(x, u)]) ∧
        ∀ base : Heap, K.In base → base.Ns mainGlobals mg → FnOk l.prog w K mg base (L2.CX l.prog w) k fa fd [x] (spF K F))
    (plain : ∀ ns : List Int, ns.length ≤ n → (∀ z ∈ ns, Builtin.Int.intBits z ≤ 1048576) → F [.list (ns.map .int)] = some (.ret (.bool true))) :
    PySem.W.WalkO q loose XP YP l.row.toRowW d [] (fun f vs => PySem.call f vs) := by
  refine Att.attach_callB hn hdf fun w s₀ s₁ mg mb fa o pm cd doc a vs ns G Y ho hd hcd hmg hobj hints hlen hbits hg => ?_
  obtain ⟨K, fd, KX, hb, hF⟩ := FF w mg fa _ Y G.T.g hmg
  refine law_call KX G.T.g G.T.b G.T.builtins G.T.nolimit hg hobj hints (Nat.le_trans hlen hn2) hr hF hb (fun H hO hS => ?_) fun H e s' hx => ?_
  · refine ⟨fun _ => False, [.list (ns.map .int)], .ret (.bool true), fun a z => z.elim, .cons (.lst ?_ (RepL.ints ns)) .nil, plain ns hlen hbits, fun v H' _ rv => ?_⟩
    · exact hS.elim (fun z => .inl ⟨fun f => f, z⟩) .inr
    · cases rv
      rfl
  · obtain ⟨a, B, H', cls, d, _, _, _, _, _, _, _, e⟩ := hx
    exact e
end Vi

set_option maxRecDepth 100000
set_option maxHeartbeats 4000000
namespace Vi
open PySem PySem.Spec PyProof.Rows L2
section
variable {P : Program} {w : World} {K : PySem.W.Frag} {mg : Str → Option Value} {base : Heap}
theorem Wd.with {g : G} (W : Wd K mg g) (fns : List (Str × Fn)) : Wd K mg (g.with fns) := ⟨W.blt, W.consts, W.isk, W.rai, W.exk, W.exc⟩
theorem all_nil {k : Nat} : ∀ p ∈ ([] : List (Str × Fn)), Kn P w K mg base k p.1 p.2 := fun p h => by cases h
theorem all_cons {k : Nat} {p : Str × Fn} {l : List (Str × Fn)} (h : Kn P w K mg base k p.1 p.2) (t : ∀ p ∈ l, Kn P w K mg base k p.1 p.2) : ∀ q ∈ p :: l, Kn P w K mg base k q.1 q.2 := fun q hq => by
  rcases List.mem_cons.mp hq with rfl | hq
  · exact h
  · exact t q hq
theorem kn_ofL {g : G} {fns : List (Str × Fn)} {nm : Str} {params : Arguments} {body : List Stmt} {scope : Scope} {f : Addr} {fd : FuncData} {ps N : List Str} {k n : Nat} {b : S} (F : FunD K nm nm params body scope [] [] f fd) (S : FnScope N ps scope) (hps : ps.length = n) (hN : okN N = true)
    (hm : mS (g.with fns) N true b scope (.bl body) = true) (hg : mg nm = some (.ref f)) (hb : Binds K fd ps []) (Wk : Wd K mg g) (hf : ∀ p ∈ fns, Kn P w K mg base k p.1 p.2) :
    Kn P w K mg base (k + 1) nm (runF (g.with fns) n N.length b) :=
  kn_of F S hps hN hm hg hb (Wk.with fns) fun i x F e => hf (x, F) (List.mem_of_getElem? e)
theorem fn_ofL {g : G} {fns : List (Str × Fn)} {nm : Str} {params : Arguments} {body : List Stmt} {scope : Scope} {f : Addr} {fd : FuncData} {p : Str} {N : List Str} {k n : Nat} {b : S} (F : FunD K nm nm params body scope [] [] f fd) (S : FnScope N [p] scope) (hps : [p].length = n) (hN : okN N = true)
    (hm : mS (g.with fns) N true b scope (.bl body) = true) (Wk : Wd K mg g) (hf : ∀ p ∈ fns, Kn P w K mg base k p.1 p.2) :
    FnOk P w K mg base (L2.CX P w) (k + 1) f fd [p] (spF K (runF (g.with fns) n N.length b)) :=
  fn_of1 F S hps hN hm (Wk.with fns) fun i x F e => hf (x, F) (List.mem_of_getElem? e)
end
end Vi

set_option maxRecDepth 100000
set_option maxHeartbeats 4000000
namespace Vi
open PySem PySem.Spec PyProof.Rows L2
/-! ### reckoning with short forms -/
@[simp] theorem map2_ok {k : Kd} {p : List Nat} {d : D} {f : Kd → List Nat → D → Option Rs} : Rs.map2 (some (.ok k p d)) f = f k p d := rfl
@[simp] theorem map2_ex {c : Str} {f : Kd → List Nat → D → Option Rs} : Rs.map2 (some (.ex c)) f = some (.ex c) := rfl
@[simp] theorem toS_ok {ρ : REnv} {k : Kd} {p : List Nat} {d : D} {f : Kd → List Nat → D → Option SR} : toS ρ (some (.ok k p d)) f = f k p d := rfl
@[simp] theorem toS_ex {ρ : REnv} {c : Str} {f : Kd → List Nat → D → Option SR} : toS ρ (some (.ex c)) f = some (.ex c ρ) := rfl
@[simp] theorem disown_nil {ρ : REnv} : disown [] ρ = ρ := by
  refine List.ext_getElem? fun i => ?_
  rw [disown_get]
  cases ρ[i]? with
  | none => rfl
  | some s => cases s <;> rfl
@[simp] theorem tot_plain {p : List Nat} : Kd.tot .plain p = p := rfl
@[simp] theorem tot_fresh {p : List Nat} : Kd.tot .fresh p = p := rfl
@[simp] theorem put_int {ρ : REnv} {i : Nat} {n : Int} : put ρ i .plain [] (.int n) = ρ.set i (.val (.int n)) := by
  show (disown [] ρ).set i (.val (.int n)) = _
  rw [disown_nil]
theorem put_plain {ρ : REnv} {i : Nat} {d : D} : put ρ i .plain [] d = ρ.set i (.val d) := by
  show (disown [] ρ).set i (.val d) = _
  rw [disown_nil]
@[simp] theorem put_fresh {ρ : REnv} {i : Nat} {l : List D} : put ρ i .fresh [] (.list l) = ρ.set i (.own l) := rfl
/-- a def's end -/
def fin : Option SR → Option Rf
  | some (.rt d) => some (.ret d)
  | some (.rl l) => some (.lst l)
  | some (.nx _) => some (.ret .none)
  | some (.ex c _) => some (.ex c)
  | none => none
theorem runF_eq (g : G) (n m : Nat) (b : S) (ds : List D) (h : ds.length = n) : runF g n m b ds = fin (ex g b (ds.map .val ++ List.replicate (m - n) .un)) := by
  unfold runF
  rw [if_pos h]
  cases ex g b (ds.map .val ++ List.replicate (m - n) .un) with
  | none => rfl
  | some z => cases z <;> rfl
theorem runF1 (g : G) (m : Nat) (b : S) (a0 : D) : runF g 1 m b [a0] = fin (ex g b ([.val a0] ++ List.replicate (m - 1) .un)) := runF_eq _ _ _ _ _ rfl
theorem runF2 (g : G) (m : Nat) (b : S) (a0 a1 : D) : runF g 2 m b [a0, a1] = fin (ex g b ([.val a0, .val a1] ++ List.replicate (m - 2) .un)) := runF_eq _ _ _ _ _ rfl
theorem runF3 (g : G) (m : Nat) (b : S) (a0 a1 a2 : D) : runF g 3 m b [a0, a1, a2] = fin (ex g b ([.val a0, .val a1, .val a2] ++ List.replicate (m - 3) .un)) := runF_eq _ _ _ _ _ rfl
theorem runF4 (g : G) (m : Nat) (b : S) (a0 a1 a2 a3 : D) : runF g 4 m b [a0, a1, a2, a3] = fin (ex g b ([.val a0, .val a1, .val a2, .val a3] ++ List.replicate (m - 4) .un)) := runF_eq _ _ _ _ _ rfl
theorem runF5 (g : G) (m : Nat) (b : S) (a0 a1 a2 a3 a4 : D) : runF g 5 m b [a0, a1, a2, a3, a4] = fin (ex g b ([.val a0, .val a1, .val a2, .val a3, .val a4] ++ List.replicate (m - 5) .un)) := runF_eq _ _ _ _ _ rfl
theorem runF6 (g : G) (m : Nat) (b : S) (a0 a1 a2 a3 a4 a5 : D) : runF g 6 m b [a0, a1, a2, a3, a4, a5] = fin (ex g b ([.val a0, .val a1, .val a2, .val a3, .val a4, .val a5] ++ List.replicate (m - 6) .un)) := runF_eq _ _ _ _ _ rfl
@[simp] theorem fin_rt {d : D} : fin (some (.rt d)) = some (.ret d) := rfl
@[simp] theorem fin_rl {d : List D} : fin (some (.rl d)) = some (.lst d) := rfl
@[simp] theorem fin_nx {ρ : REnv} : fin (some (.nx ρ)) = some (.ret .none) := rfl
@[simp] theorem fin_ex {c : Str} {ρ : REnv} : fin (some (.ex c ρ)) = some (.ex c) := rfl
section
variable (ka : Kd) (i j : Int) (l m : List D)
@[simp] theorem b_add : binop ka .add (.int i) (.int j) = some (.plain, .int (i + j)) := rfl
@[simp] theorem b_sub : binop ka .sub (.int i) (.int j) = some (.plain, .int (i - j)) := rfl
theorem b_mul (h : (-(2 ^ 64) < i ∧ i < 2 ^ 64) ∨ (-(2 ^ 64) < j ∧ j < 2 ^ 64)) : binop ka .mul (.int i) (.int j) = some (.plain, .int (i * j)) := if_pos h
theorem b_mod (h : 0 < j) : binop ka .mod (.int i) (.int j) = some (.plain, .int (i % j)) := if_pos h
theorem b_fdiv (h : 0 < j ∧ j < 1073741824) : binop ka .fdiv (.int i) (.int j) = some (.plain, .int (i / j)) := if_pos h
theorem b_pow (h : 0 ≤ j ∧ (Builtin.Int.intBits i : Int) * j ≤ 2 ^ 27) : binop ka .pow (.int i) (.int j) = some (.plain, .int (i ^ j.toNat)) := if_pos h
theorem b_addT (h : l.length + m.length ≤ sizeLine) : binop ka .add (.tuple l) (.tuple m) = some (.plain, .tuple (l ++ m)) := if_pos h
theorem b_addL (h : l.length + m.length ≤ sizeLine) : binop ka .add (.list l) (.list m) = some (.fresh, .list (l ++ m)) := if_pos h
@[simp] theorem c_lt : cmpop .lt (.int i) (.int j) = some (decide (i < j)) := rfl
@[simp] theorem c_le : cmpop .le (.int i) (.int j) = some (decide (i ≤ j)) := rfl
@[simp] theorem c_gt : cmpop .gt (.int i) (.int j) = some (decide (j < i)) := rfl
@[simp] theorem c_ge : cmpop .ge (.int i) (.int j) = some (decide (j ≤ i)) := rfl
@[simp] theorem tr_bool {b : Bool} : truth (.bool b) = some b := rfl
@[simp] theorem tr_int : truth (.int i) = some (i != 0) := rfl
@[simp] theorem tr_list : truth (.list l) = some (!l.isEmpty) := rfl
@[simp] theorem tr_tuple : truth (.tuple l) = some (!l.isEmpty) := rfl
@[simp] theorem f_lenL : bfun .len (.list l) = some (.plain, .int l.length) := rfl
@[simp] theorem f_lenT : bfun .len (.tuple l) = some (.plain, .int l.length) := rfl
@[simp] theorem f_tupL : bfun .tuple (.list l) = some (.plain, .tuple l) := rfl
@[simp] theorem f_tupT : bfun .tuple (.tuple l) = some (.plain, .tuple l) := rfl
@[simp] theorem f_lstL : bfun .list (.list l) = some (.fresh, .list l) := rfl
@[simp] theorem f_lstT : bfun .list (.tuple l) = some (.fresh, .list l) := rfl
@[simp] theorem d_int {p : List Nat} : depOf (.int i) p = [] := rfl
@[simp] theorem d_intF {p : List Nat} : depF (.int i) p = [] := rfl
@[simp] theorem d_nil {d : D} : depOf d [] = [] := by unfold depOf; split <;> rfl
@[simp] theorem d_nilF {d : D} : depF d [] = [] := by unfold depF; split <;> rfl
@[simp] theorem d_nilL {d : List D} : depL d [] = [] := by unfold depL; split <;> rfl
theorem place_nat (n k : Nat) : place n (k : Int) = if k < n then some k else none := by
  unfold place
  rw [if_pos (Int.natCast_nonneg k)]
  by_cases h : k < n
  · rw [if_pos (by omega), if_pos h, Int.toNat_natCast]
  · rw [if_neg (by omega), if_neg h]
theorem getL_nat (k : Nat) : getAt (.list l) (k : Int) = l[k]? := by
  show (place l.length (k : Int)).bind (l[·]?) = _
  rw [place_nat]
  by_cases h : k < l.length
  · rw [if_pos h]; rfl
  · rw [if_neg h, List.getElem?_eq_none (by omega)]; rfl
theorem getT_nat (k : Nat) : getAt (.tuple l) (k : Int) = l[k]? := getL_nat l k
end
end Vi

set_option maxRecDepth 100000
set_option maxHeartbeats 0
namespace Vi
open PySem PySem.Spec PyProof.Rows L2
def b_L_cell : S := (.cons (.ite (.cmp .lt (.var 1) (.bf .len (.var 0))) (.cons (.ret (.idx (.var 0) (.var 1))) .nil) .nil) (.cons (.ret (.int 0)) .nil))
def c_L_cell (g : G) : List (Str × Fn) := []
def F_L_cell (g : G) : Fn := runF (g.with (c_L_cell g)) 2 2 b_L_cell
def b_is_within : S := (.cons (.ret (.land (.isi .int (.var 0)) (.land (.not (.isi .bool (.var 0))) (.one (.cmp2 .le .le (.var 1) (.var 0) (.var 2)))))) .nil)
def c_is_within (g : G) : List (Str × Fn) := []
def F_is_within (g : G) : Fn := runF (g.with (c_is_within g)) 3 3 b_is_within
def b_is_prime : S := (.cons (.ret (.land (.call 0 (.cons (.var 0) (.cons (.int 2) (.cons (.int 7) .nil)))) (.one (.cmp .inn (.var 0) (.glob "PRIMES"))))) .nil)
def c_is_prime (g : G) : List (Str × Fn) := [("is_within", F_is_within g)]
def F_is_prime (g : G) : Fn := runF (g.with (c_is_prime g)) 1 1 b_is_prime
def b_are_figures : S := (.cons (.ite (.lor (.not (.isi .tuple (.var 1))) (.one (.not (.cmp2 .le .le (.var 2) (.bf .len (.var 1)) (.var 3))))) (.cons (.ret (.bl false)) .nil) .nil) (.cons (.ret (.not (.comp (.one 4) (.var 1) (.not (.call 0 (.cons (.var 4) (.cons (.int 0) (.cons (.bin .sub (.var 0) (.int 1)) .nil))))) (.var 4)))) .nil))
def c_are_figures (g : G) : List (Str × Fn) := [("is_within", F_is_within g)]
def F_are_figures (g : G) : Fn := runF (g.with (c_are_figures g)) 4 5 b_are_figures
def b_times_as_0 : S := (.cons (.set 2 (.bin .mul (.var 2) (.var 0))) .nil)
def b_times_as : S := (.cons (.set 2 (.int 1)) (.cons (.for_ (.one 3) (.range1 (.var 1)) b_times_as_0) (.cons (.ret (.var 2)) .nil)))
def c_times_as (g : G) : List (Str × Fn) := []
def F_times_as (g : G) : Fn := runF (g.with (c_times_as g)) 2 4 b_times_as
def b_rows_of_0 : S := (.cons (.ext 4 (.comp (.one 6) (.range1 (.var 0)) .miss (.bin .add (.var 5) (.tup (.cons (.var 6) .nil))))) .nil)
def b_rows_of_1 : S := (.cons (.set 4 (.lst .nil)) (.cons (.for_ (.one 5) (.var 2) b_rows_of_0) (.cons (.set 2 (.var 4)) .nil)))
def b_rows_of : S := (.cons (.set 2 (.lst (.cons (.tup .nil) .nil))) (.cons (.for_ (.one 3) (.range1 (.var 1)) b_rows_of_1) (.cons (.ret (.var 2)) .nil)))
def c_rows_of (g : G) : List (Str × Fn) := []
def F_rows_of (g : G) : Fn := runF (g.with (c_rows_of g)) 2 7 b_rows_of
def b_full : S := (.cons (.ret (.bin .add (.bf .list (.var 0)) (.lst (.cons (.int 1) .nil)))) .nil)
def c_full (g : G) : List (Str × Fn) := []
def F_full (g : G) : Fn := runF (g.with (c_full g)) 1 1 b_full
def b_divided_0 : S := (.cons (.seti 3 (.bin .add (.var 6) (.var 8)) (.bin .mod (.bin .sub (.idx (.var 3) (.bin .add (.var 6) (.var 8))) (.bin .mul (.var 7) (.var 9))) (.var 0))) .nil)
def b_divided_1 : S := (.cons (.set 7 (.idx (.var 3) (.bin .add (.var 6) (.bf .len (.var 2))))) (.cons (.app 5 (.var 7)) (.cons (.for_ (.two 8 9) (.enum (.var 4)) b_divided_0) .nil)))
def b_divided : S := (.cons (.set 3 (.call 0 (.cons (.var 1) .nil))) (.cons (.set 4 (.call 0 (.cons (.var 2) .nil))) (.cons (.set 5 (.lst .nil)) (.cons (.for_ (.one 6) (.range3 (.bin .sub (.bf .len (.var 3)) (.bf .len (.var 4))) (.neg (.int 1)) (.neg (.int 1))) b_divided_1) (.cons (.ret (.tup (.cons (.bf .tuple (.slc (.rev (.var 5)) .miss (.neg (.int 1)))) (.cons (.slc (.var 3) .miss (.bf .len (.var 2))) .nil)))) .nil)))))
def c_divided (g : G) : List (Str × Fn) := [("full", F_full g)]
def F_divided (g : G) : Fn := runF (g.with (c_divided g)) 3 10 b_divided
def b_any_left : S := (.cons (.ret (.cmp .ne (.comp (.one 1) (.var 0) (.cmp .ne (.var 1) (.int 0)) (.var 1)) (.lst .nil))) .nil)
def c_any_left (g : G) : List (Str × Fn) := []
def F_any_left (g : G) : Fn := runF (g.with (c_any_left g)) 1 2 b_any_left
def b_first_part_0 : S := (.cons (.ite (.not (.call 2 (.cons (.idx (.call 1 (.cons (.var 0) (.cons (.var 1) (.cons (.var 3) .nil)))) (.int 1)) .nil))) (.cons (.ret (.var 3)) .nil) .nil) .nil)
def b_first_part_1 : S := (.cons (.for_ (.one 3) (.call 0 (.cons (.var 0) (.cons (.var 2) .nil))) b_first_part_0) .nil)
def b_first_part : S := (.cons (.for_ (.one 2) (.range2 (.int 1) (.bin .add (.bin .fdiv (.bf .len (.var 1)) (.int 2)) (.int 1))) b_first_part_1) (.cons (.ret (.var 1)) .nil))
def c_first_part (g : G) : List (Str × Fn) := [("rows_of", F_rows_of g), ("divided", F_divided g), ("any_left", F_any_left g)]
def F_first_part (g : G) : Fn := runF (g.with (c_first_part g)) 2 4 b_first_part
def b_is_whole : S := (.cons (.ret (.cmp .eq (.call 0 (.cons (.var 0) (.cons (.var 1) .nil))) (.var 1))) .nil)
def c_is_whole (g : G) : List (Str × Fn) := [("first_part", F_first_part g)]
def F_is_whole (g : G) : Fn := runF (g.with (c_is_whole g)) 2 2 b_is_whole
def b_is_field : S := (.cons (.ite (.lor (.not (.isi .tuple (.var 0))) (.lor (.cmp .ne (.bf .len (.var 0)) (.int 2)) (.one (.not (.call 0 (.cons (.idx (.var 0) (.int 0)) .nil)))))) (.cons (.ret (.bl false)) .nil) .nil) (.cons (.ite (.lor (.not (.call 1 (.cons (.idx (.var 0) (.int 0)) (.cons (.idx (.var 0) (.int 1)) (.cons (.int 1) (.cons (.glob "MOST_FIGURES") .nil)))))) (.one (.cmp .gt (.call 2 (.cons (.idx (.var 0) (.int 0)) (.cons (.bf .len (.idx (.var 0) (.int 1))) .nil))) (.glob "MOST_NUMBERS")))) (.cons (.ret (.bl false)) .nil) .nil) (.cons (.ret (.call 3 (.cons (.idx (.var 0) (.int 0)) (.cons (.idx (.var 0) (.int 1)) .nil)))) .nil)))
def c_is_field (g : G) : List (Str × Fn) := [("is_prime", F_is_prime g), ("are_figures", F_are_figures g), ("times_as", F_times_as g), ("is_whole", F_is_whole g)]
def F_is_field (g : G) : Fn := runF (g.with (c_is_field g)) 1 1 b_is_field
def b_checked : S := (.cons (.ite (.not (.call 0 (.cons (.var 0) .nil))) (.cons (.raise "BadField") .nil) .nil) (.cons (.ret (.var 0)) .nil))
def c_checked (g : G) : List (Str × Fn) := [("is_field", F_is_field g)]
def F_checked (g : G) : Fn := runF (g.with (c_checked g)) 1 1 b_checked
def b_is_number : S := (.cons (.ret (.call 0 (.cons (.idx (.var 0) (.int 0)) (.cons (.var 1) (.cons (.bf .len (.idx (.var 0) (.int 1))) (.cons (.bf .len (.idx (.var 0) (.int 1))) .nil)))))) .nil)
def c_is_number (g : G) : List (Str × Fn) := [("are_figures", F_are_figures g)]
def F_is_number (g : G) : Fn := runF (g.with (c_is_number g)) 2 2 b_is_number
def b_look_numbers_0 : S := (.cons (.ite (.not (.call 1 (.cons (.var 0) (.cons (.var 2) .nil)))) (.cons (.raise "BadNumber") .nil) .nil) .nil)
def b_look_numbers : S := (.cons (.expr (.call 0 (.cons (.var 0) .nil))) (.cons (.for_ (.one 2) (.var 1) b_look_numbers_0) .nil))
def c_look_numbers (g : G) : List (Str × Fn) := [("checked", F_checked g), ("is_number", F_is_number g)]
def F_look_numbers (g : G) : Fn := runF (g.with (c_look_numbers g)) 2 3 b_look_numbers
def b_sum_of : S := (.cons (.ret (.bf .tuple (.comp (.two 3 4) (.zip (.var 1) (.var 2)) .miss (.bin .mod (.bin .add (.var 3) (.var 4)) (.idx (.var 0) (.int 0)))))) .nil)
def c_sum_of (g : G) : List (Str × Fn) := []
def F_sum_of (g : G) : Fn := runF (g.with (c_sum_of g)) 3 5 b_sum_of
def b_plus : S := (.cons (.expr (.call 0 (.cons (.var 0) (.cons (.lst (.cons (.var 1) (.cons (.var 2) .nil))) .nil)))) (.cons (.ret (.call 1 (.cons (.var 0) (.cons (.var 1) (.cons (.var 2) .nil))))) .nil))
def c_plus (g : G) : List (Str × Fn) := [("look_numbers", F_look_numbers g), ("sum_of", F_sum_of g)]
def F_plus (g : G) : Fn := runF (g.with (c_plus g)) 3 3 b_plus
def b_look_prime : S := (.cons (.ite (.not (.call 0 (.cons (.var 0) .nil))) (.cons (.raise "BadWhole") .nil) .nil) .nil)
def c_look_prime (g : G) : List (Str × Fn) := [("is_prime", F_is_prime g)]
def F_look_prime (g : G) : Fn := runF (g.with (c_look_prime g)) 1 1 b_look_prime
def b_rules : S := (.cons (.expr (.call 0 (.cons (.var 0) .nil))) (.cons (.ite (.lor (.not (.call 1 (.cons (.var 1) (.cons (.int 1) (.cons (.glob "MOST_FIGURES") .nil))))) (.one (.cmp .gt (.call 2 (.cons (.var 0) (.cons (.var 1) .nil))) (.glob "MOST_NUMBERS")))) (.cons (.raise "BadWhole") .nil) .nil) (.cons (.ret (.comp (.one 2) (.call 3 (.cons (.var 0) (.cons (.var 1) .nil))) (.call 4 (.cons (.var 0) (.cons (.var 2) .nil))) (.var 2))) .nil)))
def c_rules (g : G) : List (Str × Fn) := [("look_prime", F_look_prime g), ("is_within", F_is_within g), ("times_as", F_times_as g), ("rows_of", F_rows_of g), ("is_whole", F_is_whole g)]
def F_rules (g : G) : Fn := runF (g.with (c_rules g)) 2 3 b_rules
def b_nought : S := (.cons (.ret (.bin .mul (.tup (.cons (.int 0) .nil)) (.bf .len (.idx (.var 0) (.int 1))))) .nil)
def c_nought (g : G) : List (Str × Fn) := []
def F_nought (g : G) : Fn := runF (g.with (c_nought g)) 1 1 b_nought
def b_size_of : S := (.cons (.ret (.call 0 (.cons (.idx (.var 0) (.int 0)) (.cons (.bf .len (.idx (.var 0) (.int 1))) .nil)))) .nil)
def c_size_of (g : G) : List (Str × Fn) := [("times_as", F_times_as g)]
def F_size_of (g : G) : Fn := runF (g.with (c_size_of g)) 1 1 b_size_of
def b_whole : S := (.cons (.ret (.bin .add (.tup (.cons (.bin .mod (.var 1) (.idx (.var 0) (.int 0))) .nil)) (.bin .mul (.tup (.cons (.int 0) .nil)) (.bin .sub (.bf .len (.idx (.var 0) (.int 1))) (.int 1))))) .nil)
def c_whole (g : G) : List (Str × Fn) := []
def F_whole (g : G) : Fn := runF (g.with (c_whole g)) 2 2 b_whole
def b_product_of_0 : S := (.cons (.seti 6 (.bin .add (.var 8) (.var 10)) (.bin .mod (.bin .add (.idx (.var 6) (.bin .add (.var 8) (.var 10))) (.bin .mul (.var 9) (.var 11))) (.var 3))) .nil)
def b_product_of_1 : S := (.cons (.for_ (.two 10 11) (.enum (.var 2)) b_product_of_0) .nil)
def b_product_of_2 : S := (.cons (.seti 6 (.bin .add (.bin .sub (.var 8) (.var 5)) (.var 7)) (.bin .mod (.bin .sub (.idx (.var 6) (.bin .add (.bin .sub (.var 8) (.var 5)) (.var 7))) (.bin .mul (.var 12) (.var 13))) (.var 3))) .nil)
def b_product_of_3 : S := (.cons (.set 12 (.idx (.var 6) (.var 8))) (.cons (.for_ (.two 7 13) (.enum (.var 4)) b_product_of_2) .nil))
def b_product_of : S := (.cons (.set2 3 4 (.var 0)) (.cons (.set 5 (.bf .len (.var 4))) (.cons (.set 6 (.comp (.one 7) (.range1 (.bin .sub (.bin .mul (.int 2) (.var 5)) (.int 1))) .miss (.int 0))) (.cons (.for_ (.two 8 9) (.enum (.var 1)) b_product_of_1) (.cons (.for_ (.one 8) (.range3 (.bin .sub (.bin .mul (.int 2) (.var 5)) (.int 2)) (.bin .sub (.var 5) (.int 1)) (.neg (.int 1))) b_product_of_3) (.cons (.ret (.bf .tuple (.slc (.var 6) .miss (.var 5)))) .nil))))))
def c_product_of (g : G) : List (Str × Fn) := []
def F_product_of (g : G) : Fn := runF (g.with (c_product_of g)) 3 14 b_product_of
def b_power_of_0 : S := (.cons (.ite (.cmp .eq (.bin .mod (.var 2) (.int 2)) (.int 1)) (.cons (.set 3 (.call 1 (.cons (.var 0) (.cons (.var 3) (.cons (.var 1) .nil))))) .nil) .nil) (.cons (.set 1 (.call 1 (.cons (.var 0) (.cons (.var 1) (.cons (.var 1) .nil))))) (.cons (.set 2 (.bin .fdiv (.var 2) (.int 2))) .nil)))
def b_power_of : S := (.cons (.set 3 (.call 0 (.cons (.var 0) (.cons (.int 1) .nil)))) (.cons (.whl (.cmp .gt (.var 2) (.int 0)) b_power_of_0) (.cons (.ret (.var 3)) .nil)))
def c_power_of (g : G) : List (Str × Fn) := [("whole", F_whole g), ("product_of", F_product_of g)]
def F_power_of (g : G) : Fn := runF (g.with (c_power_of g)) 3 4 b_power_of
def b_inverse_of : S := (.cons (.ret (.call 1 (.cons (.var 0) (.cons (.var 1) (.cons (.bin .sub (.call 0 (.cons (.var 0) .nil)) (.int 2)) .nil))))) .nil)
def c_inverse_of (g : G) : List (Str × Fn) := [("size_of", F_size_of g), ("power_of", F_power_of g)]
def F_inverse_of (g : G) : Fn := runF (g.with (c_inverse_of g)) 2 2 b_inverse_of
def b_over : S := (.cons (.expr (.call 0 (.cons (.var 0) (.cons (.lst (.cons (.var 1) (.cons (.var 2) .nil))) .nil)))) (.cons (.ite (.cmp .eq (.var 2) (.call 1 (.cons (.var 0) .nil))) (.cons (.raise "Zero") .nil) .nil) (.cons (.ret (.call 3 (.cons (.var 0) (.cons (.var 1) (.cons (.call 2 (.cons (.var 0) (.cons (.var 2) .nil))) .nil))))) .nil)))
def c_over (g : G) : List (Str × Fn) := [("look_numbers", F_look_numbers g), ("nought", F_nought g), ("inverse_of", F_inverse_of g), ("product_of", F_product_of g)]
def F_over (g : G) : Fn := runF (g.with (c_over g)) 3 3 b_over
def b_is_row : S := (.cons (.ite (.lor (.not (.isi .tuple (.var 1))) (.lor (.cmp .gt (.bf .len (.var 1)) (.glob "MOST_ROW")) (.one (.comp (.one 2) (.var 1) (.not (.call 0 (.cons (.var 0) (.cons (.var 2) .nil)))) (.var 2))))) (.cons (.ret (.bl false)) .nil) .nil) (.cons (.ret (.lor (.not (.var 1)) (.one (.cmp .ne (.idx (.var 1) (.neg (.int 1))) (.call 1 (.cons (.var 0) .nil)))))) .nil))
def c_is_row (g : G) : List (Str × Fn) := [("is_number", F_is_number g), ("nought", F_nought g)]
def F_is_row (g : G) : Fn := runF (g.with (c_is_row g)) 2 3 b_is_row
def b_look_rows_0 : S := (.cons (.ite (.not (.call 1 (.cons (.var 0) (.cons (.var 2) .nil)))) (.cons (.raise "BadRow") .nil) .nil) .nil)
def b_look_rows : S := (.cons (.expr (.call 0 (.cons (.var 0) .nil))) (.cons (.for_ (.one 2) (.var 1) b_look_rows_0) .nil))
def c_look_rows (g : G) : List (Str × Fn) := [("checked", F_checked g), ("is_row", F_is_row g)]
def F_look_rows (g : G) : Fn := runF (g.with (c_look_rows g)) 2 3 b_look_rows
def b_numbers_of : S := (.cons (.ret (.call 0 (.cons (.idx (.var 0) (.int 0)) (.cons (.bf .len (.idx (.var 0) (.int 1))) .nil)))) .nil)
def c_numbers_of (g : G) : List (Str × Fn) := [("rows_of", F_rows_of g)]
def F_numbers_of (g : G) : Fn := runF (g.with (c_numbers_of g)) 1 1 b_numbers_of
def b_value_of_0 : S := (.cons (.set 3 (.call 2 (.cons (.var 0) (.cons (.call 1 (.cons (.var 0) (.cons (.var 3) (.cons (.var 2) .nil)))) (.cons (.var 4) .nil))))) .nil)
def b_value_of : S := (.cons (.set 3 (.call 0 (.cons (.var 0) .nil))) (.cons (.for_ (.one 4) (.rev (.var 1)) b_value_of_0) (.cons (.ret (.var 3)) .nil)))
def c_value_of (g : G) : List (Str × Fn) := [("nought", F_nought g), ("product_of", F_product_of g), ("sum_of", F_sum_of g)]
def F_value_of (g : G) : Fn := runF (g.with (c_value_of g)) 3 5 b_value_of
def b_roots_of : S := (.cons (.ret (.comp (.one 2) (.call 0 (.cons (.var 0) .nil)) (.cmp .eq (.call 1 (.cons (.var 0) (.cons (.var 1) (.cons (.var 2) .nil)))) (.call 2 (.cons (.var 0) .nil))) (.var 2))) .nil)
def c_roots_of (g : G) : List (Str × Fn) := [("numbers_of", F_numbers_of g), ("value_of", F_value_of g), ("nought", F_nought g)]
def F_roots_of (g : G) : Fn := runF (g.with (c_roots_of g)) 2 3 b_roots_of
def b_less : S := (.cons (.ret (.bf .tuple (.comp (.two 3 4) (.zip (.var 1) (.var 2)) .miss (.bin .mod (.bin .sub (.var 3) (.var 4)) (.idx (.var 0) (.int 0)))))) .nil)
def c_less (g : G) : List (Str × Fn) := []
def F_less (g : G) : Fn := runF (g.with (c_less g)) 3 5 b_less
def b_root_row : S := (.cons (.ret (.tup (.cons (.call 1 (.cons (.var 0) (.cons (.call 0 (.cons (.var 0) .nil)) (.cons (.var 1) .nil)))) (.cons (.call 2 (.cons (.var 0) (.cons (.int 1) .nil))) .nil)))) .nil)
def c_root_row (g : G) : List (Str × Fn) := [("nought", F_nought g), ("less", F_less g), ("whole", F_whole g)]
def F_root_row (g : G) : Fn := runF (g.with (c_root_row g)) 2 2 b_root_row
def b_row_times_0 : S := (.cons (.seti 3 (.bin .add (.var 5) (.var 7)) (.call 2 (.cons (.var 0) (.cons (.idx (.var 3) (.bin .add (.var 5) (.var 7))) (.cons (.call 1 (.cons (.var 0) (.cons (.var 6) (.cons (.var 8) .nil)))) .nil))))) .nil)
def b_row_times_1 : S := (.cons (.for_ (.two 7 8) (.enum (.var 2)) b_row_times_0) .nil)
def b_row_times : S := (.cons (.ite (.lor (.not (.var 1)) (.one (.not (.var 2)))) (.cons (.ret (.tup .nil)) .nil) .nil) (.cons (.set 3 (.comp (.one 4) (.range1 (.bin .sub (.bin .add (.bf .len (.var 1)) (.bf .len (.var 2))) (.int 1))) .miss (.call 0 (.cons (.var 0) .nil)))) (.cons (.for_ (.two 5 6) (.enum (.var 1)) b_row_times_1) (.cons (.ret (.bf .tuple (.var 3))) .nil))))
def c_row_times (g : G) : List (Str × Fn) := [("nought", F_nought g), ("product_of", F_product_of g), ("sum_of", F_sum_of g)]
def F_row_times (g : G) : Fn := runF (g.with (c_row_times g)) 3 9 b_row_times
def b_cut_0 : S := (.cons (.pop 1) .nil)
def b_cut : S := (.cons (.set 1 (.bf .list (.var 1))) (.cons (.whl (.land (.var 1) (.one (.cmp .eq (.idx (.var 1) (.neg (.int 1))) (.call 0 (.cons (.var 0) .nil))))) b_cut_0) (.cons (.ret (.bf .tuple (.var 1))) .nil)))
def c_cut (g : G) : List (Str × Fn) := [("nought", F_nought g)]
def F_cut (g : G) : Fn := runF (g.with (c_cut g)) 2 2 b_cut
def b_row_less : S := (.cons (.set 3 (.max2 (.bf .len (.var 1)) (.bf .len (.var 2)))) (.cons (.set 4 (.bin .add (.var 1) (.bin .mul (.tup (.cons (.call 0 (.cons (.var 0) .nil)) .nil)) (.bin .sub (.var 3) (.bf .len (.var 1)))))) (.cons (.set 5 (.bin .add (.var 2) (.bin .mul (.tup (.cons (.call 0 (.cons (.var 0) .nil)) .nil)) (.bin .sub (.var 3) (.bf .len (.var 2)))))) (.cons (.ret (.call 2 (.cons (.var 0) (.cons (.comp (.two 6 7) (.zip (.var 4) (.var 5)) .miss (.call 1 (.cons (.var 0) (.cons (.var 6) (.cons (.var 7) .nil))))) .nil)))) .nil))))
def c_row_less (g : G) : List (Str × Fn) := [("nought", F_nought g), ("less", F_less g), ("cut", F_cut g)]
def F_row_less (g : G) : Fn := runF (g.with (c_row_less g)) 3 8 b_row_less
def b_row_divided_0 : S := (.cons (.set 6 (.bin .sub (.bf .len (.var 1)) (.bf .len (.var 2)))) (.cons (.seti 4 (.var 6) (.call 2 (.cons (.var 0) (.cons (.idx (.var 1) (.neg (.int 1))) (.cons (.var 3) .nil))))) (.cons (.set 1 (.call 4 (.cons (.var 0) (.cons (.var 1) (.cons (.call 3 (.cons (.var 0) (.cons (.bin .add (.bin .mul (.tup (.cons (.call 1 (.cons (.var 0) .nil)) .nil)) (.var 6)) (.tup (.cons (.idx (.var 4) (.var 6)) .nil))) (.cons (.var 2) .nil)))) .nil))))) .nil)))
def b_row_divided : S := (.cons (.set 3 (.call 0 (.cons (.var 0) (.cons (.idx (.var 2) (.neg (.int 1))) .nil)))) (.cons (.set 4 (.comp (.one 5) (.range1 (.max2 (.bin .add (.bin .sub (.bf .len (.var 1)) (.bf .len (.var 2))) (.int 1)) (.int 0))) .miss (.call 1 (.cons (.var 0) .nil)))) (.cons (.whl (.cmp .ge (.bf .len (.var 1)) (.bf .len (.var 2))) b_row_divided_0) (.cons (.ret (.tup (.cons (.call 5 (.cons (.var 0) (.cons (.var 4) .nil))) (.cons (.var 1) .nil)))) .nil))))
def c_row_divided (g : G) : List (Str × Fn) := [("inverse_of", F_inverse_of g), ("nought", F_nought g), ("product_of", F_product_of g), ("row_times", F_row_times g), ("row_less", F_row_less g), ("cut", F_cut g)]
def F_row_divided (g : G) : Fn := runF (g.with (c_row_divided g)) 3 7 b_row_divided
def b_split_0 : S := (.cons (.set 1 (.idx (.call 5 (.cons (.var 0) (.cons (.var 1) (.cons (.call 4 (.cons (.var 0) (.cons (.var 3) .nil))) .nil)))) (.int 0))) (.cons (.aug 4 .add (.int 1)) .nil))
def b_split_1 : S := (.cons (.set 4 (.int 0)) (.cons (.whl (.cmp .eq (.call 2 (.cons (.var 0) (.cons (.var 1) (.cons (.var 3) .nil)))) (.call 3 (.cons (.var 0) .nil))) b_split_0) (.cons (.app 2 (.tup (.cons (.var 3) (.cons (.var 4) .nil)))) .nil)))
def b_split : S := (.cons (.expr (.call 0 (.cons (.var 0) (.cons (.lst (.cons (.var 1) .nil)) .nil)))) (.cons (.ite (.not (.var 1)) (.cons (.raise "Zero") .nil) .nil) (.cons (.set 2 (.lst .nil)) (.cons (.for_ (.one 3) (.call 1 (.cons (.var 0) (.cons (.var 1) .nil))) b_split_1) (.cons (.ret (.tup (.cons (.var 2) (.cons (.var 1) .nil)))) .nil)))))
def c_split (g : G) : List (Str × Fn) := [("look_rows", F_look_rows g), ("roots_of", F_roots_of g), ("value_of", F_value_of g), ("nought", F_nought g), ("root_row", F_root_row g), ("row_divided", F_row_divided g)]
def F_split (g : G) : Fn := runF (g.with (c_split g)) 2 5 b_split
def b_roots : S := (.cons (.ret (.idx (.call 0 (.cons (.var 0) (.cons (.var 1) .nil))) (.int 0))) .nil)
def c_roots (g : G) : List (Str × Fn) := [("split", F_split g)]
def F_roots (g : G) : Fn := runF (g.with (c_roots g)) 2 2 b_roots
def b_row_of : S := (.cons (.ret (.bin .add (.bf .tuple (.comp (.one 2) (.var 1) .miss (.call 0 (.cons (.var 0) (.cons (.var 2) .nil))))) (.tup (.cons (.call 0 (.cons (.var 0) (.cons (.int 1) .nil))) .nil)))) .nil)
def c_row_of (g : G) : List (Str × Fn) := [("whole", F_whole g)]
def F_row_of (g : G) : Fn := runF (g.with (c_row_of g)) 2 3 b_row_of
def b_look_way : S := (.cons (.expr (.call 0 (.cons (.var 0) .nil))) (.cons (.expr (.call 0 (.cons (.var 1) .nil))) (.cons (.ite (.lor (.cmp .ne (.idx (.var 0) (.int 0)) (.idx (.var 1) (.int 0))) (.one (.not (.call 1 (.cons (.var 1) (.cons (.var 2) .nil)))))) (.cons (.raise "BadWay") .nil) .nil) (.cons (.ite (.cmp .ne (.call 3 (.cons (.var 1) (.cons (.call 2 (.cons (.var 1) (.cons (.idx (.var 0) (.int 1)) .nil))) (.cons (.var 2) .nil)))) (.call 4 (.cons (.var 1) .nil))) (.cons (.raise "BadWay") .nil) .nil) .nil))))
def c_look_way (g : G) : List (Str × Fn) := [("checked", F_checked g), ("is_number", F_is_number g), ("row_of", F_row_of g), ("value_of", F_value_of g), ("nought", F_nought g)]
def F_look_way (g : G) : Fn := runF (g.with (c_look_way g)) 3 3 b_look_way
def b_carried : S := (.cons (.ret (.call 1 (.cons (.var 0) (.cons (.bf .tuple (.comp (.one 3) (.var 2) .miss (.call 0 (.cons (.var 0) (.cons (.var 3) .nil))))) (.cons (.var 1) .nil))))) .nil)
def c_carried (g : G) : List (Str × Fn) := [("whole", F_whole g), ("value_of", F_value_of g)]
def F_carried (g : G) : Fn := runF (g.with (c_carried g)) 3 4 b_carried
def b_led : S := (.cons (.expr (.call 0 (.cons (.var 0) (.cons (.var 1) (.cons (.var 2) .nil))))) (.cons (.ite (.not (.call 1 (.cons (.var 0) (.cons (.var 3) .nil)))) (.cons (.raise "BadNumber") .nil) .nil) (.cons (.ret (.call 2 (.cons (.var 1) (.cons (.var 2) (.cons (.var 3) .nil))))) .nil)))
def c_led (g : G) : List (Str × Fn) := [("look_way", F_look_way g), ("is_number", F_is_number g), ("carried", F_carried g)]
def F_led (g : G) : Fn := runF (g.with (c_led g)) 4 4 b_led
def b_solved_0 : S := (.cons (.ite (.cmp .ne (.var 6) (.var 4)) (.cons (.set 9 (.idx (.idx (.var 1) (.var 6)) (.var 4))) (.cons (.seti 1 (.var 6) (.comp (.two 10 11) (.zip (.idx (.var 1) (.var 6)) (.idx (.var 1) (.var 4))) .miss (.bin .mod (.bin .sub (.var 10) (.bin .mul (.var 9) (.var 11))) (.var 0)))) .nil)) .nil) .nil)
def b_solved_1 : S := (.cons (.set 5 (.comp (.one 6) (.range2 (.var 4) (.var 2)) (.cmp .ne (.idx (.idx (.var 1) (.var 6)) (.var 4)) (.int 0)) (.var 6))) (.cons (.ite (.not (.var 5)) (.cons (.ret .non) .nil) .nil) (.cons (.swap 1 (.var 4) (.idx (.var 5) (.int 0)) (.idx (.var 5) (.int 0)) (.var 4)) (.cons (.set 7 (.idx (.comp (.one 8) (.range2 (.int 1) (.var 0)) (.cmp .eq (.bin .mod (.bin .mul (.var 8) (.idx (.idx (.var 1) (.var 4)) (.var 4))) (.var 0)) (.int 1)) (.var 8)) (.int 0))) (.cons (.seti 1 (.var 4) (.comp (.one 8) (.idx (.var 1) (.var 4)) .miss (.bin .mod (.bin .mul (.var 8) (.var 7)) (.var 0)))) (.cons (.for_ (.one 6) (.range1 (.var 2)) b_solved_0) .nil))))))
def b_solved : S := (.cons (.set 2 (.bf .len (.var 1))) (.cons (.set 1 (.comp (.one 3) (.var 1) .miss (.bf .list (.var 3)))) (.cons (.for_ (.one 4) (.range1 (.var 2)) b_solved_1) (.cons (.ret (.bf .tuple (.comp (.one 3) (.var 1) .miss (.idx (.var 3) (.neg (.int 1)))))) .nil))))
def c_solved (g : G) : List (Str × Fn) := []
def F_solved (g : G) : Fn := runF (g.with (c_solved g)) 2 12 b_solved
def b_figures_of_0 : S := (.cons (.app 3 (.bin .add (.comp (.one 5) (.var 1) .miss (.idx (.var 5) (.var 4))) (.lst (.cons (.idx (.var 2) (.var 4)) .nil)))) .nil)
def b_figures_of : S := (.cons (.set 3 (.lst .nil)) (.cons (.for_ (.one 4) (.range1 (.bf .len (.idx (.var 0) (.int 1)))) b_figures_of_0) (.cons (.ret (.call 0 (.cons (.idx (.var 0) (.int 0)) (.cons (.var 3) .nil)))) .nil)))
def c_figures_of (g : G) : List (Str × Fn) := [("solved", F_solved g)]
def F_figures_of (g : G) : Fn := runF (g.with (c_figures_of g)) 3 6 b_figures_of
def b_is_base : S := (.cons (.ite (.lor (.not (.isi .tuple (.var 1))) (.one (.cmp .ne (.bf .len (.var 1)) (.bf .len (.idx (.var 0) (.int 1)))))) (.cons (.ret (.bl false)) .nil) .nil) (.cons (.ite (.comp (.one 2) (.var 1) (.not (.call 0 (.cons (.var 0) (.cons (.var 2) .nil)))) (.var 2)) (.cons (.ret (.bl false)) .nil) .nil) (.cons (.ret (.cmp .notn (.call 2 (.cons (.var 0) (.cons (.var 1) (.cons (.call 1 (.cons (.var 0) .nil)) .nil)))) .non)) .nil)))
def c_is_base (g : G) : List (Str × Fn) := [("is_number", F_is_number g), ("nought", F_nought g), ("figures_of", F_figures_of g)]
def F_is_base (g : G) : Fn := runF (g.with (c_is_base g)) 2 3 b_is_base
def b_checked_base : S := (.cons (.expr (.call 0 (.cons (.var 0) .nil))) (.cons (.ite (.not (.call 1 (.cons (.var 0) (.cons (.var 1) .nil)))) (.cons (.raise "BadBase") .nil) .nil) (.cons (.ret (.var 1)) .nil)))
def c_checked_base (g : G) : List (Str × Fn) := [("checked", F_checked g), ("is_base", F_is_base g)]
def F_checked_base (g : G) : Fn := runF (g.with (c_checked_base g)) 2 2 b_checked_base
def b_raised_to : S := (.cons (.ret (.call 1 (.cons (.var 0) (.cons (.var 1) (.cons (.call 0 (.cons (.idx (.var 0) (.int 0)) (.cons (.bin .mod (.var 2) (.bf .len (.idx (.var 0) (.int 1)))) .nil))) .nil))))) .nil)
def c_raised_to (g : G) : List (Str × Fn) := [("times_as", F_times_as g), ("power_of", F_power_of g)]
def F_raised_to (g : G) : Fn := runF (g.with (c_raised_to g)) 3 3 b_raised_to
def b_steps_of : S := (.cons (.ret (.comp (.one 3) (.range1 (.bin .fdiv (.bf .len (.idx (.var 0) (.int 1))) (.var 2))) .miss (.call 0 (.cons (.var 0) (.cons (.var 1) (.cons (.bin .mul (.var 2) (.var 3)) .nil)))))) .nil)
def c_steps_of (g : G) : List (Str × Fn) := [("raised_to", F_raised_to g)]
def F_steps_of (g : G) : Fn := runF (g.with (c_steps_of g)) 3 4 b_steps_of
def b_trace_figure_0 : S := (.cons (.set 2 (.call 2 (.cons (.var 0) (.cons (.var 2) (.cons (.var 3) .nil))))) .nil)
def b_trace_figure : S := (.cons (.set 2 (.call 0 (.cons (.var 0) .nil))) (.cons (.for_ (.one 3) (.call 1 (.cons (.var 0) (.cons (.var 1) (.cons (.int 1) .nil)))) b_trace_figure_0) (.cons (.ret (.idx (.var 2) (.int 0))) .nil)))
def c_trace_figure (g : G) : List (Str × Fn) := [("nought", F_nought g), ("steps_of", F_steps_of g), ("sum_of", F_sum_of g)]
def F_trace_figure (g : G) : Fn := runF (g.with (c_trace_figure g)) 2 4 b_trace_figure
def b_dual_0 : S := (.cons (.set 8 (.comp (.one 9) (.var 2) .miss (.call 3 (.cons (.var 0) (.cons (.call 2 (.cons (.var 0) (.cons (.var 7) (.cons (.var 9) .nil)))) .nil))))) (.cons (.app 5 (.bin .add (.var 8) (.lst (.cons (.bf .int (.cmp .eq (.var 3) (.var 6))) .nil)))) .nil))
def b_dual_1 : S := (.cons (.set 5 (.lst .nil)) (.cons (.for_ (.two 6 7) (.enum (.var 1)) b_dual_0) (.cons (.app 4 (.call 4 (.cons (.idx (.var 0) (.int 0)) (.cons (.var 5) .nil)))) .nil)))
def b_dual : S := (.cons (.expr (.call 0 (.cons (.var 0) (.cons (.var 1) .nil)))) (.cons (.set 2 (.comp (.one 3) (.range1 (.bf .len (.var 1))) .miss (.bin .add (.bin .add (.slc (.call 1 (.cons (.var 0) (.cons (.int 0) .nil))) .miss (.var 3)) (.tup (.cons (.int 1) .nil))) (.slc (.call 1 (.cons (.var 0) (.cons (.int 0) .nil))) (.bin .add (.var 3) (.int 1)) .miss)))) (.cons (.set 4 (.lst .nil)) (.cons (.for_ (.one 3) (.range1 (.bf .len (.var 1))) b_dual_1) (.cons (.ret (.bf .tuple (.var 4))) .nil)))))
def c_dual (g : G) : List (Str × Fn) := [("checked_base", F_checked_base g), ("whole", F_whole g), ("product_of", F_product_of g), ("trace_figure", F_trace_figure g), ("solved", F_solved g)]
def F_dual (g : G) : Fn := runF (g.with (c_dual g)) 2 10 b_dual
def b_look_number : S := (.cons (.expr (.call 0 (.cons (.var 0) (.cons (.lst (.cons (.var 1) .nil)) .nil)))) (.cons (.ite (.cmp .eq (.var 1) (.call 1 (.cons (.var 0) .nil))) (.cons (.raise "Zero") .nil) .nil) .nil))
def c_look_number (g : G) : List (Str × Fn) := [("look_numbers", F_look_numbers g), ("nought", F_nought g)]
def F_look_number (g : G) : Fn := runF (g.with (c_look_number g)) 2 2 b_look_number
def b_primes_in_0 : S := (.cons (.set 0 (.bin .fdiv (.var 0) (.var 2))) .nil)
def b_primes_in_1 : S := (.cons (.ite (.cmp .eq (.bin .mod (.var 0) (.var 2)) (.int 0)) (.cons (.app 1 (.var 2)) (.cons (.whl (.cmp .eq (.bin .mod (.var 0) (.var 2)) (.int 0)) b_primes_in_0) .nil)) .nil) (.cons (.aug 2 .add (.int 1)) .nil))
def b_primes_in : S := (.cons (.set 1 (.lst .nil)) (.cons (.set 2 (.int 2)) (.cons (.whl (.cmp .gt (.var 0) (.int 1)) b_primes_in_1) (.cons (.ret (.var 1)) .nil))))
def c_primes_in (g : G) : List (Str × Fn) := []
def F_primes_in (g : G) : Fn := runF (g.with (c_primes_in g)) 1 3 b_primes_in
def b_turns_of_0 : S := (.cons (.set 2 (.bin .fdiv (.var 2) (.var 3))) .nil)
def b_turns_of_1 : S := (.cons (.whl (.land (.cmp .eq (.bin .mod (.var 2) (.var 3)) (.int 0)) (.one (.cmp .eq (.call 2 (.cons (.var 0) (.cons (.var 1) (.cons (.bin .fdiv (.var 2) (.var 3)) .nil)))) (.call 3 (.cons (.var 0) (.cons (.int 1) .nil)))))) b_turns_of_0) .nil)
def b_turns_of : S := (.cons (.set 2 (.bin .sub (.call 0 (.cons (.var 0) .nil)) (.int 1))) (.cons (.for_ (.one 3) (.call 1 (.cons (.var 2) .nil)) b_turns_of_1) (.cons (.ret (.var 2)) .nil)))
def c_turns_of (g : G) : List (Str × Fn) := [("size_of", F_size_of g), ("primes_in", F_primes_in g), ("power_of", F_power_of g), ("whole", F_whole g)]
def F_turns_of (g : G) : Fn := runF (g.with (c_turns_of g)) 2 4 b_turns_of
def b_log_0 : S := (.cons (.set 4 (.call 4 (.cons (.var 0) (.cons (.var 4) (.cons (.var 1) .nil))))) (.cons (.aug 3 .add (.int 1)) .nil))
def b_log : S := (.cons (.expr (.call 0 (.cons (.var 0) (.cons (.var 1) .nil)))) (.cons (.ite (.cmp .ne (.call 1 (.cons (.var 0) (.cons (.var 1) .nil))) (.bin .sub (.call 2 (.cons (.var 0) .nil)) (.int 1))) (.cons (.raise "NoMaker") .nil) .nil) (.cons (.expr (.call 0 (.cons (.var 0) (.cons (.var 2) .nil)))) (.cons (.set 3 (.int 0)) (.cons (.set 4 (.call 3 (.cons (.var 0) (.cons (.int 1) .nil)))) (.cons (.whl (.cmp .ne (.var 4) (.var 2)) b_log_0) (.cons (.ret (.var 3)) .nil)))))))
def c_log (g : G) : List (Str × Fn) := [("look_number", F_look_number g), ("turns_of", F_turns_of g), ("size_of", F_size_of g), ("whole", F_whole g), ("product_of", F_product_of g)]
def F_log (g : G) : Fn := runF (g.with (c_log g)) 3 5 b_log
def b_read_0 : S := (.cons (.ite (.cmp .nin (.var 1) (.glob "FIGURES")) (.cons (.raise "BadText") .nil) .nil) .nil)
def b_read : S := (.cons (.ite (.lor (.not (.isi .str (.var 0))) (.lor (.cmp .lt (.bf .len (.var 0)) (.int 3)) (.one (.cmp .ne (.idx (.var 0) (.int 1)) (.str ":"))))) (.cons (.raise "BadText") .nil) .nil) (.cons (.for_ (.one 1) (.bin .add (.slc (.var 0) .miss (.int 1)) (.slc (.var 0) (.int 2) .miss)) b_read_0) (.cons (.set 2 (.tup (.cons (.met .sindex (.glob "FIGURES") (.idx (.var 0) (.int 0))) (.cons (.bf .tuple (.comp (.one 1) (.slc (.var 0) (.int 2) .miss) .miss (.met .sindex (.glob "FIGURES") (.var 1)))) .nil)))) (.cons (.ite (.not (.call 0 (.cons (.var 2) .nil))) (.cons (.raise "BadText") .nil) .nil) (.cons (.ret (.var 2)) .nil)))))
def c_read (g : G) : List (Str × Fn) := [("is_field", F_is_field g)]
def F_read (g : G) : Fn := runF (g.with (c_read g)) 1 3 b_read
def b_L_deed : S := (.cons (.set 1 (.tup (.cons (.int 3) (.cons (.tup (.cons (.int 1) (.cons (.int 0) .nil))) .nil)))) (.cons (.ite (.cmp .eq (.var 0) (.int 0)) (.cons (.ret (.call 0 (.cons (.tup (.cons (.int 2) (.cons (.tup (.cons (.int 0) (.cons (.int 1) .nil))) .nil))) .nil))) .nil) .nil) (.cons (.ite (.cmp .eq (.var 0) (.int 1)) (.cons (.ret (.call 1 (.cons (.var 1) (.cons (.tup (.cons (.int 3) (.cons (.int 0) .nil))) (.cons (.tup (.cons (.int 0) (.cons (.int 0) .nil))) .nil))))) .nil) .nil) (.cons (.ite (.cmp .eq (.var 0) (.int 2)) (.cons (.ret (.call 2 (.cons (.int 6) (.cons (.int 1) .nil)))) .nil) .nil) (.cons (.ite (.cmp .eq (.var 0) (.int 3)) (.cons (.ret (.call 3 (.cons (.var 1) (.cons (.tup (.cons (.int 1) (.cons (.int 0) .nil))) (.cons (.tup (.cons (.int 0) (.cons (.int 0) .nil))) .nil))))) .nil) .nil) (.cons (.ite (.cmp .eq (.var 0) (.int 4)) (.cons (.ret (.call 4 (.cons (.var 1) (.cons (.tup (.cons (.tup (.cons (.int 0) (.cons (.int 0) .nil))) .nil)) .nil)))) .nil) .nil) (.cons (.ite (.cmp .eq (.var 0) (.int 5)) (.cons (.ret (.call 5 (.cons (.var 1) (.cons (.var 1) (.cons (.tup (.cons (.int 0) (.cons (.int 0) .nil))) (.cons (.tup (.cons (.int 1) (.cons (.int 0) .nil))) .nil)))))) .nil) .nil) (.cons (.ite (.cmp .eq (.var 0) (.int 6)) (.cons (.ret (.call 6 (.cons (.var 1) (.cons (.tup (.cons (.tup (.cons (.int 1) (.cons (.int 0) .nil))) (.cons (.tup (.cons (.int 2) (.cons (.int 0) .nil))) .nil))) .nil)))) .nil) .nil) (.cons (.ite (.cmp .eq (.var 0) (.int 7)) (.cons (.ret (.call 7 (.cons (.var 1) (.cons (.tup (.cons (.int 0) (.cons (.int 1) .nil))) (.cons (.tup (.cons (.int 1) (.cons (.int 0) .nil))) .nil))))) .nil) .nil) (.cons (.ret (.call 8 (.cons (.str "") .nil))) .nil))))))))))
def c_L_deed (g : G) : List (Str × Fn) := [("checked", F_checked g), ("plus", F_plus g), ("rules", F_rules g), ("over", F_over g), ("roots", F_roots g), ("led", F_led g), ("dual", F_dual g), ("log", F_log g), ("read", F_read g)]
def F_L_deed (g : G) : Fn := runF (g.with (c_L_deed g)) 1 2 b_L_deed
def b_L_kinds_of : S := (.cons (.set 1 (.lst .nil)) (.cons (.tryx (.cons (.expr (.call 0 (.cons (.var 0) .nil))) .nil) "FieldError" (some 2) (.cons (.set 1 (.lst (.cons (.isx 2 "BadField") (.cons (.isx 2 "BadNumber") (.cons (.isx 2 "BadWhole") (.cons (.isx 2 "Zero") .nil)))))) (.cons (.set 1 (.bin .add (.var 1) (.lst (.cons (.isx 2 "BadRow") (.cons (.isx 2 "BadWay") (.cons (.isx 2 "BadBase") .nil)))))) (.cons (.set 1 (.bin .add (.var 1) (.lst (.cons (.isx 2 "NoMaker") .nil)))) (.cons (.app 1 (.isx 2 "BadText")) .nil))))) (.cons (.ret (.var 1)) .nil)))
def c_L_kinds_of (g : G) : List (Str × Fn) := [("_law_deed", F_L_deed g)]
def F_L_kinds_of (g : G) : Fn := runF (g.with (c_L_kinds_of g)) 1 3 b_L_kinds_of
def b_law : S := (.cons (.set 1 (.bin .mod (.call 0 (.cons (.var 0) (.cons (.int 0) .nil))) (.int 9))) (.cons (.ret (.cmp .eq (.call 1 (.cons (.var 1) .nil)) (.comp (.one 2) (.range1 (.int 9)) .miss (.cmp .eq (.var 2) (.var 1))))) .nil))
def c_law (g : G) : List (Str × Fn) := [("_law_cell", F_L_cell g), ("_law_kinds_of", F_L_kinds_of g)]
def F_law (g : G) : Fn := runF (g.with (c_law g)) 1 3 b_law
def g0 : G where
  fns := []
  consts := [("FIGURES", .str "0123456789"), ("MOST_FIGURES", .int 8), ("MOST_NUMBERS", .int 256), ("MOST_ROW", .int 9), ("PRIMES", .tuple [.int 2, .int 3, .int 5, .int 7])]
  isx := [(((Str.ofString "BadBase"), (Str.ofString "BadBase")), true), (((Str.ofString "BadBase"), (Str.ofString "BadField")), false), (((Str.ofString "BadBase"), (Str.ofString "BadNumber")), false), (((Str.ofString "BadBase"), (Str.ofString "BadRow")), false), (((Str.ofString "BadBase"), (Str.ofString "BadText")), false), (((Str.ofString "BadBase"), (Str.ofString "BadWay")), false), (((Str.ofString "BadBase"), (Str.ofString "BadWhole")), false), (((Str.ofString "BadBase"), (Str.ofString "NoMaker")), false), (((Str.ofString "BadBase"), (Str.ofString "Zero")), false), (((Str.ofString "BadField"), (Str.ofString "BadBase")), false), (((Str.ofString "BadField"), (Str.ofString "BadField")), true), (((Str.ofString "BadField"), (Str.ofString "BadNumber")), false), (((Str.ofString "BadField"), (Str.ofString "BadRow")), false), (((Str.ofString "BadField"), (Str.ofString "BadText")), false), (((Str.ofString "BadField"), (Str.ofString "BadWay")), false), (((Str.ofString "BadField"), (Str.ofString "BadWhole")), false), (((Str.ofString "BadField"), (Str.ofString "NoMaker")), false), (((Str.ofString "BadField"), (Str.ofString "Zero")), false), (((Str.ofString "BadNumber"), (Str.ofString "BadBase")), false), (((Str.ofString "BadNumber"), (Str.ofString "BadField")), false), (((Str.ofString "BadNumber"), (Str.ofString "BadNumber")), true), (((Str.ofString "BadNumber"), (Str.ofString "BadRow")), false), (((Str.ofString "BadNumber"), (Str.ofString "BadText")), false), (((Str.ofString "BadNumber"), (Str.ofString "BadWay")), false), (((Str.ofString "BadNumber"), (Str.ofString "BadWhole")), false), (((Str.ofString "BadNumber"), (Str.ofString "NoMaker")), false), (((Str.ofString "BadNumber"), (Str.ofString "Zero")), false), (((Str.ofString "BadRow"), (Str.ofString "BadBase")), false), (((Str.ofString "BadRow"), (Str.ofString "BadField")), false), (((Str.ofString "BadRow"), (Str.ofString "BadNumber")), false), (((Str.ofString "BadRow"), (Str.ofString "BadRow")), true), (((Str.ofString "BadRow"), (Str.ofString "BadText")), false), (((Str.ofString "BadRow"), (Str.ofString "BadWay")), false), (((Str.ofString "BadRow"), (Str.ofString "BadWhole")), false), (((Str.ofString "BadRow"), (Str.ofString "NoMaker")), false), (((Str.ofString "BadRow"), (Str.ofString "Zero")), false), (((Str.ofString "BadText"), (Str.ofString "BadBase")), false), (((Str.ofString "BadText"), (Str.ofString "BadField")), false), (((Str.ofString "BadText"), (Str.ofString "BadNumber")), false), (((Str.ofString "BadText"), (Str.ofString "BadRow")), false), (((Str.ofString "BadText"), (Str.ofString "BadText")), true), (((Str.ofString "BadText"), (Str.ofString "BadWay")), false), (((Str.ofString "BadText"), (Str.ofString "BadWhole")), false), (((Str.ofString "BadText"), (Str.ofString "NoMaker")), false), (((Str.ofString "BadText"), (Str.ofString "Zero")), false), (((Str.ofString "BadWay"), (Str.ofString "BadBase")), false), (((Str.ofString "BadWay"), (Str.ofString "BadField")), false), (((Str.ofString "BadWay"), (Str.ofString "BadNumber")), false), (((Str.ofString "BadWay"), (Str.ofString "BadRow")), false), (((Str.ofString "BadWay"), (Str.ofString "BadText")), false), (((Str.ofString "BadWay"), (Str.ofString "BadWay")), true), (((Str.ofString "BadWay"), (Str.ofString "BadWhole")), false), (((Str.ofString "BadWay"), (Str.ofString "NoMaker")), false), (((Str.ofString "BadWay"), (Str.ofString "Zero")), false), (((Str.ofString "BadWhole"), (Str.ofString "BadBase")), false), (((Str.ofString "BadWhole"), (Str.ofString "BadField")), false), (((Str.ofString "BadWhole"), (Str.ofString "BadNumber")), false), (((Str.ofString "BadWhole"), (Str.ofString "BadRow")), false), (((Str.ofString "BadWhole"), (Str.ofString "BadText")), false), (((Str.ofString "BadWhole"), (Str.ofString "BadWay")), false), (((Str.ofString "BadWhole"), (Str.ofString "BadWhole")), true), (((Str.ofString "BadWhole"), (Str.ofString "NoMaker")), false), (((Str.ofString "BadWhole"), (Str.ofString "Zero")), false), (((Str.ofString "NoMaker"), (Str.ofString "BadBase")), false), (((Str.ofString "NoMaker"), (Str.ofString "BadField")), false), (((Str.ofString "NoMaker"), (Str.ofString "BadNumber")), false), (((Str.ofString "NoMaker"), (Str.ofString "BadRow")), false), (((Str.ofString "NoMaker"), (Str.ofString "BadText")), false), (((Str.ofString "NoMaker"), (Str.ofString "BadWay")), false), (((Str.ofString "NoMaker"), (Str.ofString "BadWhole")), false), (((Str.ofString "NoMaker"), (Str.ofString "NoMaker")), true), (((Str.ofString "NoMaker"), (Str.ofString "Zero")), false), (((Str.ofString "Zero"), (Str.ofString "BadBase")), false), (((Str.ofString "Zero"), (Str.ofString "BadField")), false), (((Str.ofString "Zero"), (Str.ofString "BadNumber")), false), (((Str.ofString "Zero"), (Str.ofString "BadRow")), false), (((Str.ofString "Zero"), (Str.ofString "BadText")), false), (((Str.ofString "Zero"), (Str.ofString "BadWay")), false), (((Str.ofString "Zero"), (Str.ofString "BadWhole")), false), (((Str.ofString "Zero"), (Str.ofString "NoMaker")), false), (((Str.ofString "Zero"), (Str.ofString "Zero")), true)]
  exm := [(((Str.ofString "BadBase"), (Str.ofString "FieldError")), true), (((Str.ofString "BadField"), (Str.ofString "FieldError")), true), (((Str.ofString "BadNumber"), (Str.ofString "FieldError")), true), (((Str.ofString "BadRow"), (Str.ofString "FieldError")), true), (((Str.ofString "BadText"), (Str.ofString "FieldError")), true), (((Str.ofString "BadWay"), (Str.ofString "FieldError")), true), (((Str.ofString "BadWhole"), (Str.ofString "FieldError")), true), (((Str.ofString "NoMaker"), (Str.ofString "FieldError")), true), (((Str.ofString "Zero"), (Str.ofString "FieldError")), true)]
  rai := ["BadBase", "BadField", "BadNumber", "BadRow", "BadText", "BadWay", "BadWhole", "NoMaker", "Zero"]
  fuel := 4194304
theorem L_cell_eq (g : G) (ns : List Int) (k : Nat) : F_L_cell g [.list (ns.map .int), .int k] = some (.ret (.int (ns.getD k 0))) := by
  unfold F_L_cell
  rw [runF2]
  by_cases h : k < ns.length
  · simp [b_L_cell, ex, ev, h, getL_nat, retOf]
  · simp [b_L_cell, ex, ev, h, getL_nat, retOf]

theorem w_cases (c : Int) : c % 9 = 0 ∨ c % 9 = 1 ∨ c % 9 = 2 ∨ c % 9 = 3 ∨ c % 9 = 4 ∨ c % 9 = 5 ∨ c % 9 = 6 ∨ c % 9 = 7 ∨ c % 9 = 8 := by omega
theorem law_plain (ns : List Int) (h : ns.length ≤ 63) (hb : ∀ z ∈ ns, Builtin.Int.intBits z ≤ 1048576) : F_law g0 [.list (ns.map .int)] = some (.ret (.bool true)) := by
  unfold F_law
  rw [runF1]
  have c := L_cell_eq g0 ns 0
  generalize PyData.list (ns.map .int) = d at c ⊢
  generalize ns.getD 0 0 = n at c
  have e : ex (g0.with (c_law g0)) (.set 1 (.bin .mod (.call 0 (.cons (.var 0) (.cons (.int 0) .nil))) (.int 9))) [.val d, .un, .un] = some (.nx [.val d, .val (.int (n % 9)), .un]) := by
    have c0 : F_L_cell g0 [d, .int 0] = some (.ret (.int n)) := c
    simp [ex, ev, c_law, G.with, c0, b_mod]
  have e2 : ∀ r : S, ex (g0.with (c_law g0)) (.cons (.set 1 (.bin .mod (.call 0 (.cons (.var 0) (.cons (.int 0) .nil))) (.int 9))) r) [.val d, .un, .un] = ex (g0.with (c_law g0)) r [.val d, .val (.int (n % 9)), .un] := fun r => by
    show (match ex (g0.with (c_law g0)) (.set 1 (.bin .mod (.call 0 (.cons (.var 0) (.cons (.int 0) .nil))) (.int 9))) [.val d, .un, .un] with
      | some (.nx ρ1) => ex (g0.with (c_law g0)) r ρ1
      | x => x) = _
    rw [e]
  show fin (ex (g0.with (c_law g0)) b_law [.val d, .un, .un]) = _
  unfold b_law
  rw [e2]
  rcases w_cases n with h | h | h | h | h | h | h | h | h <;> rw [h] <;> kernel_rfl

def top (i : Nat) : Stmt := PySem.Challenge.pw_fieldsteps_k21_refusals_stand_apart.main.body.getD i (.Pass ⟨0, 0, 0, 0⟩)
abbrev t_L_cell : Stmt := top 82
def d_L_cell : He.DefD := ⟨("_law_cell", none), "_law_cell", "_law_cell", defArgs t_L_cell, defBody t_L_cell, defScope t_L_cell, [], []⟩
abbrev n_L_cell : List Str := ["_law_script", "_law_k"]
def cc_L_cell : List (Str × Fn) := []
theorem m_L_cell : mS (g0.with cc_L_cell) n_L_cell true b_L_cell (defScope t_L_cell) (.bl (defBody t_L_cell)) = true := by decide +kernel
abbrev t_is_within : Stmt := top 15
def d_is_within : He.DefD := ⟨("is_within", none), "is_within", "is_within", defArgs t_is_within, defBody t_is_within, defScope t_is_within, [], []⟩
abbrev n_is_within : List Str := ["thing", "low", "high"]
def cc_is_within : List (Str × Fn) := []
theorem m_is_within : mS (g0.with cc_is_within) n_is_within true b_is_within (defScope t_is_within) (.bl (defBody t_is_within)) = true := by decide +kernel
abbrev t_is_prime : Stmt := top 16
def d_is_prime : He.DefD := ⟨("is_prime", none), "is_prime", "is_prime", defArgs t_is_prime, defBody t_is_prime, defScope t_is_prime, [], []⟩
abbrev n_is_prime : List Str := ["thing"]
def cc_is_prime : List (Str × Fn) := [("is_within", F_is_within g0)]
theorem m_is_prime : mS (g0.with cc_is_prime) n_is_prime true b_is_prime (defScope t_is_prime) (.bl (defBody t_is_prime)) = true := by decide +kernel
abbrev t_are_figures : Stmt := top 17
def d_are_figures : He.DefD := ⟨("are_figures", none), "are_figures", "are_figures", defArgs t_are_figures, defBody t_are_figures, defScope t_are_figures, [], []⟩
abbrev n_are_figures : List Str := ["prime", "thing", "least", "most", "figure"]
def cc_are_figures : List (Str × Fn) := [("is_within", F_is_within g0)]
theorem m_are_figures : mS (g0.with cc_are_figures) n_are_figures true b_are_figures (defScope t_are_figures) (.bl (defBody t_are_figures)) = true := by decide +kernel
abbrev t_times_as : Stmt := top 18
def d_times_as : He.DefD := ⟨("times_as", none), "times_as", "times_as", defArgs t_times_as, defBody t_times_as, defScope t_times_as, [], []⟩
abbrev n_times_as : List Str := ["number", "often", "found", "time"]
def cc_times_as : List (Str × Fn) := []
theorem m_times_as : mS (g0.with cc_times_as) n_times_as true b_times_as (defScope t_times_as) (.bl (defBody t_times_as)) = true := by decide +kernel
abbrev t_rows_of : Stmt := top 21
def d_rows_of : He.DefD := ⟨("rows_of", none), "rows_of", "rows_of", defArgs t_rows_of, defBody t_rows_of, defScope t_rows_of, [], []⟩
abbrev n_rows_of : List Str := ["prime", "many", "found", "place", "longer", "row", "figure"]
def cc_rows_of : List (Str × Fn) := []
theorem m_rows_of : mS (g0.with cc_rows_of) n_rows_of true b_rows_of (defScope t_rows_of) (.bl (defBody t_rows_of)) = true := by decide +kernel
abbrev t_full : Stmt := top 19
def d_full : He.DefD := ⟨("full", none), "full", "full", defArgs t_full, defBody t_full, defScope t_full, [], []⟩
abbrev n_full : List Str := ["rule"]
def cc_full : List (Str × Fn) := []
theorem m_full : mS (g0.with cc_full) n_full true b_full (defScope t_full) (.bl (defBody t_full)) = true := by decide +kernel
abbrev t_divided : Stmt := top 20
def d_divided : He.DefD := ⟨("divided", none), "divided", "divided", defArgs t_divided, defBody t_divided, defScope t_divided, [], []⟩
abbrev n_divided : List Str := ["prime", "rule", "other", "left", "part", "found", "at", "lead", "place", "figure"]
def cc_divided : List (Str × Fn) := [("full", F_full g0)]
theorem m_divided : mS (g0.with cc_divided) n_divided true b_divided (defScope t_divided) (.bl (defBody t_divided)) = true := by decide +kernel
abbrev t_any_left : Stmt := top 23
def d_any_left : He.DefD := ⟨("any_left", none), "any_left", "any_left", defArgs t_any_left, defBody t_any_left, defScope t_any_left, [], []⟩
abbrev n_any_left : List Str := ["rest", "figure"]
def cc_any_left : List (Str × Fn) := []
theorem m_any_left : mS (g0.with cc_any_left) n_any_left true b_any_left (defScope t_any_left) (.bl (defBody t_any_left)) = true := by decide +kernel
abbrev t_first_part : Stmt := top 22
def d_first_part : He.DefD := ⟨("first_part", none), "first_part", "first_part", defArgs t_first_part, defBody t_first_part, defScope t_first_part, [], []⟩
abbrev n_first_part : List Str := ["prime", "rule", "many", "other"]
def cc_first_part : List (Str × Fn) := [("rows_of", F_rows_of g0), ("divided", F_divided g0), ("any_left", F_any_left g0)]
theorem m_first_part : mS (g0.with cc_first_part) n_first_part true b_first_part (defScope t_first_part) (.bl (defBody t_first_part)) = true := by decide +kernel
abbrev t_is_whole : Stmt := top 24
def d_is_whole : He.DefD := ⟨("is_whole", none), "is_whole", "is_whole", defArgs t_is_whole, defBody t_is_whole, defScope t_is_whole, [], []⟩
abbrev n_is_whole : List Str := ["prime", "rule"]
def cc_is_whole : List (Str × Fn) := [("first_part", F_first_part g0)]
theorem m_is_whole : mS (g0.with cc_is_whole) n_is_whole true b_is_whole (defScope t_is_whole) (.bl (defBody t_is_whole)) = true := by decide +kernel
abbrev t_is_field : Stmt := top 28
def d_is_field : He.DefD := ⟨("is_field", none), "is_field", "is_field", defArgs t_is_field, defBody t_is_field, defScope t_is_field, [], []⟩
abbrev n_is_field : List Str := ["thing"]
def cc_is_field : List (Str × Fn) := [("is_prime", F_is_prime g0), ("are_figures", F_are_figures g0), ("times_as", F_times_as g0), ("is_whole", F_is_whole g0)]
theorem m_is_field : mS (g0.with cc_is_field) n_is_field true b_is_field (defScope t_is_field) (.bl (defBody t_is_field)) = true := by decide +kernel
abbrev t_checked : Stmt := top 29
def d_checked : He.DefD := ⟨("checked", none), "checked", "checked", defArgs t_checked, defBody t_checked, defScope t_checked, [], []⟩
abbrev n_checked : List Str := ["field"]
def cc_checked : List (Str × Fn) := [("is_field", F_is_field g0)]
theorem m_checked : mS (g0.with cc_checked) n_checked true b_checked (defScope t_checked) (.bl (defBody t_checked)) = true := by decide +kernel
abbrev t_is_number : Stmt := top 31
def d_is_number : He.DefD := ⟨("is_number", none), "is_number", "is_number", defArgs t_is_number, defBody t_is_number, defScope t_is_number, [], []⟩
abbrev n_is_number : List Str := ["field", "thing"]
def cc_is_number : List (Str × Fn) := [("are_figures", F_are_figures g0)]
theorem m_is_number : mS (g0.with cc_is_number) n_is_number true b_is_number (defScope t_is_number) (.bl (defBody t_is_number)) = true := by decide +kernel
abbrev t_look_numbers : Stmt := top 32
def d_look_numbers : He.DefD := ⟨("look_numbers", none), "look_numbers", "look_numbers", defArgs t_look_numbers, defBody t_look_numbers, defScope t_look_numbers, [], []⟩
abbrev n_look_numbers : List Str := ["field", "some", "one"]
def cc_look_numbers : List (Str × Fn) := [("checked", F_checked g0), ("is_number", F_is_number g0)]
theorem m_look_numbers : mS (g0.with cc_look_numbers) n_look_numbers true b_look_numbers (defScope t_look_numbers) (.bl (defBody t_look_numbers)) = true := by decide +kernel
abbrev t_sum_of : Stmt := top 37
def d_sum_of : He.DefD := ⟨("sum_of", none), "sum_of", "sum_of", defArgs t_sum_of, defBody t_sum_of, defScope t_sum_of, [], []⟩
abbrev n_sum_of : List Str := ["field", "one", "other", "left", "right"]
def cc_sum_of : List (Str × Fn) := []
theorem m_sum_of : mS (g0.with cc_sum_of) n_sum_of true b_sum_of (defScope t_sum_of) (.bl (defBody t_sum_of)) = true := by decide +kernel
abbrev t_plus : Stmt := top 42
def d_plus : He.DefD := ⟨("plus", none), "plus", "plus", defArgs t_plus, defBody t_plus, defScope t_plus, [], []⟩
abbrev n_plus : List Str := ["field", "one", "other"]
def cc_plus : List (Str × Fn) := [("look_numbers", F_look_numbers g0), ("sum_of", F_sum_of g0)]
theorem m_plus : mS (g0.with cc_plus) n_plus true b_plus (defScope t_plus) (.bl (defBody t_plus)) = true := by decide +kernel
abbrev t_look_prime : Stmt := top 25
def d_look_prime : He.DefD := ⟨("look_prime", none), "look_prime", "look_prime", defArgs t_look_prime, defBody t_look_prime, defScope t_look_prime, [], []⟩
abbrev n_look_prime : List Str := ["prime"]
def cc_look_prime : List (Str × Fn) := [("is_prime", F_is_prime g0)]
theorem m_look_prime : mS (g0.with cc_look_prime) n_look_prime true b_look_prime (defScope t_look_prime) (.bl (defBody t_look_prime)) = true := by decide +kernel
abbrev t_rules : Stmt := top 26
def d_rules : He.DefD := ⟨("rules", none), "rules", "rules", defArgs t_rules, defBody t_rules, defScope t_rules, [], []⟩
abbrev n_rules : List Str := ["prime", "many", "rule"]
def cc_rules : List (Str × Fn) := [("look_prime", F_look_prime g0), ("is_within", F_is_within g0), ("times_as", F_times_as g0), ("rows_of", F_rows_of g0), ("is_whole", F_is_whole g0)]
theorem m_rules : mS (g0.with cc_rules) n_rules true b_rules (defScope t_rules) (.bl (defBody t_rules)) = true := by decide +kernel
abbrev t_nought : Stmt := top 34
def d_nought : He.DefD := ⟨("nought", none), "nought", "nought", defArgs t_nought, defBody t_nought, defScope t_nought, [], []⟩
abbrev n_nought : List Str := ["field"]
def cc_nought : List (Str × Fn) := []
theorem m_nought : mS (g0.with cc_nought) n_nought true b_nought (defScope t_nought) (.bl (defBody t_nought)) = true := by decide +kernel
abbrev t_size_of : Stmt := top 30
def d_size_of : He.DefD := ⟨("size_of", none), "size_of", "size_of", defArgs t_size_of, defBody t_size_of, defScope t_size_of, [], []⟩
abbrev n_size_of : List Str := ["field"]
def cc_size_of : List (Str × Fn) := [("times_as", F_times_as g0)]
theorem m_size_of : mS (g0.with cc_size_of) n_size_of true b_size_of (defScope t_size_of) (.bl (defBody t_size_of)) = true := by decide +kernel
abbrev t_whole : Stmt := top 35
def d_whole : He.DefD := ⟨("whole", none), "whole", "whole", defArgs t_whole, defBody t_whole, defScope t_whole, [], []⟩
abbrev n_whole : List Str := ["field", "number"]
def cc_whole : List (Str × Fn) := []
theorem m_whole : mS (g0.with cc_whole) n_whole true b_whole (defScope t_whole) (.bl (defBody t_whole)) = true := by decide +kernel
abbrev t_product_of : Stmt := top 39
def d_product_of : He.DefD := ⟨("product_of", none), "product_of", "product_of", defArgs t_product_of, defBody t_product_of, defScope t_product_of, [], []⟩
abbrev n_product_of : List Str := ["field", "one", "other", "prime", "rule", "many", "found", "place", "at", "left", "to", "right", "lead", "figure"]
def cc_product_of : List (Str × Fn) := []
theorem m_product_of : mS (g0.with cc_product_of) n_product_of true b_product_of (defScope t_product_of) (.bl (defBody t_product_of)) = true := by decide +kernel
abbrev t_power_of : Stmt := top 40
def d_power_of : He.DefD := ⟨("power_of", none), "power_of", "power_of", defArgs t_power_of, defBody t_power_of, defScope t_power_of, [], []⟩
abbrev n_power_of : List Str := ["field", "number", "often", "found"]
def cc_power_of : List (Str × Fn) := [("whole", F_whole g0), ("product_of", F_product_of g0)]
theorem m_power_of : mS (g0.with cc_power_of) n_power_of true b_power_of (defScope t_power_of) (.bl (defBody t_power_of)) = true := by decide +kernel
abbrev t_inverse_of : Stmt := top 41
def d_inverse_of : He.DefD := ⟨("inverse_of", none), "inverse_of", "inverse_of", defArgs t_inverse_of, defBody t_inverse_of, defScope t_inverse_of, [], []⟩
abbrev n_inverse_of : List Str := ["field", "number"]
def cc_inverse_of : List (Str × Fn) := [("size_of", F_size_of g0), ("power_of", F_power_of g0)]
theorem m_inverse_of : mS (g0.with cc_inverse_of) n_inverse_of true b_inverse_of (defScope t_inverse_of) (.bl (defBody t_inverse_of)) = true := by decide +kernel
abbrev t_over : Stmt := top 43
def d_over : He.DefD := ⟨("over", none), "over", "over", defArgs t_over, defBody t_over, defScope t_over, [], []⟩
abbrev n_over : List Str := ["field", "one", "other"]
def cc_over : List (Str × Fn) := [("look_numbers", F_look_numbers g0), ("nought", F_nought g0), ("inverse_of", F_inverse_of g0), ("product_of", F_product_of g0)]
theorem m_over : mS (g0.with cc_over) n_over true b_over (defScope t_over) (.bl (defBody t_over)) = true := by decide +kernel
abbrev t_is_row : Stmt := top 51
def d_is_row : He.DefD := ⟨("is_row", none), "is_row", "is_row", defArgs t_is_row, defBody t_is_row, defScope t_is_row, [], []⟩
abbrev n_is_row : List Str := ["field", "thing", "one"]
def cc_is_row : List (Str × Fn) := [("is_number", F_is_number g0), ("nought", F_nought g0)]
theorem m_is_row : mS (g0.with cc_is_row) n_is_row true b_is_row (defScope t_is_row) (.bl (defBody t_is_row)) = true := by decide +kernel
abbrev t_look_rows : Stmt := top 52
def d_look_rows : He.DefD := ⟨("look_rows", none), "look_rows", "look_rows", defArgs t_look_rows, defBody t_look_rows, defScope t_look_rows, [], []⟩
abbrev n_look_rows : List Str := ["field", "some", "row"]
def cc_look_rows : List (Str × Fn) := [("checked", F_checked g0), ("is_row", F_is_row g0)]
theorem m_look_rows : mS (g0.with cc_look_rows) n_look_rows true b_look_rows (defScope t_look_rows) (.bl (defBody t_look_rows)) = true := by decide +kernel
abbrev t_numbers_of : Stmt := top 33
def d_numbers_of : He.DefD := ⟨("numbers_of", none), "numbers_of", "numbers_of", defArgs t_numbers_of, defBody t_numbers_of, defScope t_numbers_of, [], []⟩
abbrev n_numbers_of : List Str := ["field"]
def cc_numbers_of : List (Str × Fn) := [("rows_of", F_rows_of g0)]
theorem m_numbers_of : mS (g0.with cc_numbers_of) n_numbers_of true b_numbers_of (defScope t_numbers_of) (.bl (defBody t_numbers_of)) = true := by decide +kernel
abbrev t_value_of : Stmt := top 54
def d_value_of : He.DefD := ⟨("value_of", none), "value_of", "value_of", defArgs t_value_of, defBody t_value_of, defScope t_value_of, [], []⟩
abbrev n_value_of : List Str := ["field", "row", "number", "found", "one"]
def cc_value_of : List (Str × Fn) := [("nought", F_nought g0), ("product_of", F_product_of g0), ("sum_of", F_sum_of g0)]
theorem m_value_of : mS (g0.with cc_value_of) n_value_of true b_value_of (defScope t_value_of) (.bl (defBody t_value_of)) = true := by decide +kernel
abbrev t_roots_of : Stmt := top 60
def d_roots_of : He.DefD := ⟨("roots_of", none), "roots_of", "roots_of", defArgs t_roots_of, defBody t_roots_of, defScope t_roots_of, [], []⟩
abbrev n_roots_of : List Str := ["field", "row", "number"]
def cc_roots_of : List (Str × Fn) := [("numbers_of", F_numbers_of g0), ("value_of", F_value_of g0), ("nought", F_nought g0)]
theorem m_roots_of : mS (g0.with cc_roots_of) n_roots_of true b_roots_of (defScope t_roots_of) (.bl (defBody t_roots_of)) = true := by decide +kernel
abbrev t_less : Stmt := top 38
def d_less : He.DefD := ⟨("less", none), "less", "less", defArgs t_less, defBody t_less, defScope t_less, [], []⟩
abbrev n_less : List Str := ["field", "one", "other", "left", "right"]
def cc_less : List (Str × Fn) := []
theorem m_less : mS (g0.with cc_less) n_less true b_less (defScope t_less) (.bl (defBody t_less)) = true := by decide +kernel
abbrev t_root_row : Stmt := top 61
def d_root_row : He.DefD := ⟨("root_row", none), "root_row", "root_row", defArgs t_root_row, defBody t_root_row, defScope t_root_row, [], []⟩
abbrev n_root_row : List Str := ["field", "number"]
def cc_root_row : List (Str × Fn) := [("nought", F_nought g0), ("less", F_less g0), ("whole", F_whole g0)]
theorem m_root_row : mS (g0.with cc_root_row) n_root_row true b_root_row (defScope t_root_row) (.bl (defBody t_root_row)) = true := by decide +kernel
abbrev t_row_times : Stmt := top 55
def d_row_times : He.DefD := ⟨("row_times", none), "row_times", "row_times", defArgs t_row_times, defBody t_row_times, defScope t_row_times, [], []⟩
abbrev n_row_times : List Str := ["field", "one", "other", "found", "place", "at", "left", "to", "right"]
def cc_row_times : List (Str × Fn) := [("nought", F_nought g0), ("product_of", F_product_of g0), ("sum_of", F_sum_of g0)]
theorem m_row_times : mS (g0.with cc_row_times) n_row_times true b_row_times (defScope t_row_times) (.bl (defBody t_row_times)) = true := by decide +kernel
abbrev t_cut : Stmt := top 53
def d_cut : He.DefD := ⟨("cut", none), "cut", "cut", defArgs t_cut, defBody t_cut, defScope t_cut, [], []⟩
abbrev n_cut : List Str := ["field", "row"]
def cc_cut : List (Str × Fn) := [("nought", F_nought g0)]
theorem m_cut : mS (g0.with cc_cut) n_cut true b_cut (defScope t_cut) (.bl (defBody t_cut)) = true := by decide +kernel
abbrev t_row_less : Stmt := top 56
def d_row_less : He.DefD := ⟨("row_less", none), "row_less", "row_less", defArgs t_row_less, defBody t_row_less, defScope t_row_less, [], []⟩
abbrev n_row_less : List Str := ["field", "one", "other", "many", "left", "right", "a", "b"]
def cc_row_less : List (Str × Fn) := [("nought", F_nought g0), ("less", F_less g0), ("cut", F_cut g0)]
theorem m_row_less : mS (g0.with cc_row_less) n_row_less true b_row_less (defScope t_row_less) (.bl (defBody t_row_less)) = true := by decide +kernel
abbrev t_row_divided : Stmt := top 57
def d_row_divided : He.DefD := ⟨("row_divided", none), "row_divided", "row_divided", defArgs t_row_divided, defBody t_row_divided, defScope t_row_divided, [], []⟩
abbrev n_row_divided : List Str := ["field", "one", "other", "back", "found", "place", "at"]
def cc_row_divided : List (Str × Fn) := [("inverse_of", F_inverse_of g0), ("nought", F_nought g0), ("product_of", F_product_of g0), ("row_times", F_row_times g0), ("row_less", F_row_less g0), ("cut", F_cut g0)]
theorem m_row_divided : mS (g0.with cc_row_divided) n_row_divided true b_row_divided (defScope t_row_divided) (.bl (defBody t_row_divided)) = true := by decide +kernel
abbrev t_split : Stmt := top 62
def d_split : He.DefD := ⟨("split", none), "split", "split", defArgs t_split, defBody t_split, defScope t_split, [], []⟩
abbrev n_split : List Str := ["field", "row", "found", "number", "often"]
def cc_split : List (Str × Fn) := [("look_rows", F_look_rows g0), ("roots_of", F_roots_of g0), ("value_of", F_value_of g0), ("nought", F_nought g0), ("root_row", F_root_row g0), ("row_divided", F_row_divided g0)]
theorem m_split : mS (g0.with cc_split) n_split true b_split (defScope t_split) (.bl (defBody t_split)) = true := by decide +kernel
abbrev t_roots : Stmt := top 63
def d_roots : He.DefD := ⟨("roots", none), "roots", "roots", defArgs t_roots, defBody t_roots, defScope t_roots, [], []⟩
abbrev n_roots : List Str := ["field", "row"]
def cc_roots : List (Str × Fn) := [("split", F_split g0)]
theorem m_roots : mS (g0.with cc_roots) n_roots true b_roots (defScope t_roots) (.bl (defBody t_roots)) = true := by decide +kernel
abbrev t_row_of : Stmt := top 58
def d_row_of : He.DefD := ⟨("row_of", none), "row_of", "row_of", defArgs t_row_of, defBody t_row_of, defScope t_row_of, [], []⟩
abbrev n_row_of : List Str := ["field", "figures", "figure"]
def cc_row_of : List (Str × Fn) := [("whole", F_whole g0)]
theorem m_row_of : mS (g0.with cc_row_of) n_row_of true b_row_of (defScope t_row_of) (.bl (defBody t_row_of)) = true := by decide +kernel
abbrev t_look_way : Stmt := top 78
def d_look_way : He.DefD := ⟨("look_way", none), "look_way", "look_way", defArgs t_look_way, defBody t_look_way, defScope t_look_way, [], []⟩
abbrev n_look_way : List Str := ["one", "other", "image"]
def cc_look_way : List (Str × Fn) := [("checked", F_checked g0), ("is_number", F_is_number g0), ("row_of", F_row_of g0), ("value_of", F_value_of g0), ("nought", F_nought g0)]
theorem m_look_way : mS (g0.with cc_look_way) n_look_way true b_look_way (defScope t_look_way) (.bl (defBody t_look_way)) = true := by decide +kernel
abbrev t_carried : Stmt := top 79
def d_carried : He.DefD := ⟨("carried", none), "carried", "carried", defArgs t_carried, defBody t_carried, defScope t_carried, [], []⟩
abbrev n_carried : List Str := ["other", "image", "number", "figure"]
def cc_carried : List (Str × Fn) := [("whole", F_whole g0), ("value_of", F_value_of g0)]
theorem m_carried : mS (g0.with cc_carried) n_carried true b_carried (defScope t_carried) (.bl (defBody t_carried)) = true := by decide +kernel
abbrev t_led : Stmt := top 80
def d_led : He.DefD := ⟨("led", none), "led", "led", defArgs t_led, defBody t_led, defScope t_led, [], []⟩
abbrev n_led : List Str := ["one", "other", "image", "number"]
def cc_led : List (Str × Fn) := [("look_way", F_look_way g0), ("is_number", F_is_number g0), ("carried", F_carried g0)]
theorem m_led : mS (g0.with cc_led) n_led true b_led (defScope t_led) (.bl (defBody t_led)) = true := by decide +kernel
abbrev t_solved : Stmt := top 68
def d_solved : He.DefD := ⟨("solved", none), "solved", "solved", defArgs t_solved, defBody t_solved, defScope t_solved, [], []⟩
abbrev n_solved : List Str := ["prime", "rows", "many", "row", "place", "some", "at", "back", "figure", "lead", "left", "right"]
def cc_solved : List (Str × Fn) := []
theorem m_solved : mS (g0.with cc_solved) n_solved true b_solved (defScope t_solved) (.bl (defBody t_solved)) = true := by decide +kernel
abbrev t_figures_of : Stmt := top 69
def d_figures_of : He.DefD := ⟨("figures_of", none), "figures_of", "figures_of", defArgs t_figures_of, defBody t_figures_of, defScope t_figures_of, [], []⟩
abbrev n_figures_of : List Str := ["field", "base", "number", "rows", "place", "one"]
def cc_figures_of : List (Str × Fn) := [("solved", F_solved g0)]
theorem m_figures_of : mS (g0.with cc_figures_of) n_figures_of true b_figures_of (defScope t_figures_of) (.bl (defBody t_figures_of)) = true := by decide +kernel
abbrev t_is_base : Stmt := top 70
def d_is_base : He.DefD := ⟨("is_base", none), "is_base", "is_base", defArgs t_is_base, defBody t_is_base, defScope t_is_base, [], []⟩
abbrev n_is_base : List Str := ["field", "thing", "one"]
def cc_is_base : List (Str × Fn) := [("is_number", F_is_number g0), ("nought", F_nought g0), ("figures_of", F_figures_of g0)]
theorem m_is_base : mS (g0.with cc_is_base) n_is_base true b_is_base (defScope t_is_base) (.bl (defBody t_is_base)) = true := by decide +kernel
abbrev t_checked_base : Stmt := top 71
def d_checked_base : He.DefD := ⟨("checked_base", none), "checked_base", "checked_base", defArgs t_checked_base, defBody t_checked_base, defScope t_checked_base, [], []⟩
abbrev n_checked_base : List Str := ["field", "base"]
def cc_checked_base : List (Str × Fn) := [("checked", F_checked g0), ("is_base", F_is_base g0)]
theorem m_checked_base : mS (g0.with cc_checked_base) n_checked_base true b_checked_base (defScope t_checked_base) (.bl (defBody t_checked_base)) = true := by decide +kernel
abbrev t_raised_to : Stmt := top 65
def d_raised_to : He.DefD := ⟨("raised_to", none), "raised_to", "raised_to", defArgs t_raised_to, defBody t_raised_to, defScope t_raised_to, [], []⟩
abbrev n_raised_to : List Str := ["field", "number", "often"]
def cc_raised_to : List (Str × Fn) := [("times_as", F_times_as g0), ("power_of", F_power_of g0)]
theorem m_raised_to : mS (g0.with cc_raised_to) n_raised_to true b_raised_to (defScope t_raised_to) (.bl (defBody t_raised_to)) = true := by decide +kernel
abbrev t_steps_of : Stmt := top 66
def d_steps_of : He.DefD := ⟨("steps_of", none), "steps_of", "steps_of", defArgs t_steps_of, defBody t_steps_of, defScope t_steps_of, [], []⟩
abbrev n_steps_of : List Str := ["field", "number", "many", "time"]
def cc_steps_of : List (Str × Fn) := [("raised_to", F_raised_to g0)]
theorem m_steps_of : mS (g0.with cc_steps_of) n_steps_of true b_steps_of (defScope t_steps_of) (.bl (defBody t_steps_of)) = true := by decide +kernel
abbrev t_trace_figure : Stmt := top 72
def d_trace_figure : He.DefD := ⟨("trace_figure", none), "trace_figure", "trace_figure", defArgs t_trace_figure, defBody t_trace_figure, defScope t_trace_figure, [], []⟩
abbrev n_trace_figure : List Str := ["field", "number", "found", "one"]
def cc_trace_figure : List (Str × Fn) := [("nought", F_nought g0), ("steps_of", F_steps_of g0), ("sum_of", F_sum_of g0)]
theorem m_trace_figure : mS (g0.with cc_trace_figure) n_trace_figure true b_trace_figure (defScope t_trace_figure) (.bl (defBody t_trace_figure)) = true := by decide +kernel
abbrev t_dual : Stmt := top 73
def d_dual : He.DefD := ⟨("dual", none), "dual", "dual", defArgs t_dual, defBody t_dual, defScope t_dual, [], []⟩
abbrev n_dual : List Str := ["field", "base", "plain", "at", "found", "rows", "to", "one", "row", "other"]
def cc_dual : List (Str × Fn) := [("checked_base", F_checked_base g0), ("whole", F_whole g0), ("product_of", F_product_of g0), ("trace_figure", F_trace_figure g0), ("solved", F_solved g0)]
theorem m_dual : mS (g0.with cc_dual) n_dual true b_dual (defScope t_dual) (.bl (defBody t_dual)) = true := by decide +kernel
abbrev t_look_number : Stmt := top 47
def d_look_number : He.DefD := ⟨("look_number", none), "look_number", "look_number", defArgs t_look_number, defBody t_look_number, defScope t_look_number, [], []⟩
abbrev n_look_number : List Str := ["field", "number"]
def cc_look_number : List (Str × Fn) := [("look_numbers", F_look_numbers g0), ("nought", F_nought g0)]
theorem m_look_number : mS (g0.with cc_look_number) n_look_number true b_look_number (defScope t_look_number) (.bl (defBody t_look_number)) = true := by decide +kernel
abbrev t_primes_in : Stmt := top 45
def d_primes_in : He.DefD := ⟨("primes_in", none), "primes_in", "primes_in", defArgs t_primes_in, defBody t_primes_in, defScope t_primes_in, [], []⟩
abbrev n_primes_in : List Str := ["number", "found", "part"]
def cc_primes_in : List (Str × Fn) := []
theorem m_primes_in : mS (g0.with cc_primes_in) n_primes_in true b_primes_in (defScope t_primes_in) (.bl (defBody t_primes_in)) = true := by decide +kernel
abbrev t_turns_of : Stmt := top 46
def d_turns_of : He.DefD := ⟨("turns_of", none), "turns_of", "turns_of", defArgs t_turns_of, defBody t_turns_of, defScope t_turns_of, [], []⟩
abbrev n_turns_of : List Str := ["field", "number", "found", "prime"]
def cc_turns_of : List (Str × Fn) := [("size_of", F_size_of g0), ("primes_in", F_primes_in g0), ("power_of", F_power_of g0), ("whole", F_whole g0)]
theorem m_turns_of : mS (g0.with cc_turns_of) n_turns_of true b_turns_of (defScope t_turns_of) (.bl (defBody t_turns_of)) = true := by decide +kernel
abbrev t_log : Stmt := top 48
def d_log : He.DefD := ⟨("log", none), "log", "log", defArgs t_log, defBody t_log, defScope t_log, [], []⟩
abbrev n_log : List Str := ["field", "maker", "number", "found", "here"]
def cc_log : List (Str × Fn) := [("look_number", F_look_number g0), ("turns_of", F_turns_of g0), ("size_of", F_size_of g0), ("whole", F_whole g0), ("product_of", F_product_of g0)]
theorem m_log : mS (g0.with cc_log) n_log true b_log (defScope t_log) (.bl (defBody t_log)) = true := by decide +kernel
abbrev t_read : Stmt := top 76
def d_read : He.DefD := ⟨("read", none), "read", "read", defArgs t_read, defBody t_read, defScope t_read, [], []⟩
abbrev n_read : List Str := ["text", "sign", "found"]
def cc_read : List (Str × Fn) := [("is_field", F_is_field g0)]
theorem m_read : mS (g0.with cc_read) n_read true b_read (defScope t_read) (.bl (defBody t_read)) = true := by decide +kernel
abbrev t_L_deed : Stmt := top 83
def d_L_deed : He.DefD := ⟨("_law_deed", none), "_law_deed", "_law_deed", defArgs t_L_deed, defBody t_L_deed, defScope t_L_deed, [], []⟩
abbrev n_L_deed : List Str := ["_law_way", "_law_field"]
def cc_L_deed : List (Str × Fn) := [("checked", F_checked g0), ("plus", F_plus g0), ("rules", F_rules g0), ("over", F_over g0), ("roots", F_roots g0), ("led", F_led g0), ("dual", F_dual g0), ("log", F_log g0), ("read", F_read g0)]
theorem m_L_deed : mS (g0.with cc_L_deed) n_L_deed true b_L_deed (defScope t_L_deed) (.bl (defBody t_L_deed)) = true := by decide +kernel
abbrev t_L_kinds_of : Stmt := top 84
def d_L_kinds_of : He.DefD := ⟨("_law_kinds_of", none), "_law_kinds_of", "_law_kinds_of", defArgs t_L_kinds_of, defBody t_L_kinds_of, defScope t_L_kinds_of, [], []⟩
abbrev n_L_kinds_of : List Str := ["_law_way", "_law_some", "e"]
def cc_L_kinds_of : List (Str × Fn) := [("_law_deed", F_L_deed g0)]
theorem m_L_kinds_of : mS (g0.with cc_L_kinds_of) n_L_kinds_of true b_L_kinds_of (defScope t_L_kinds_of) (.bl (defBody t_L_kinds_of)) = true := by decide +kernel
abbrev t_law : Stmt := top 85
def d_law : He.DefD := ⟨("law", none), "law", "law", defArgs t_law, defBody t_law, defScope t_law, [], []⟩
abbrev n_law : List Str := ["_law_script", "_law_way", "_law_k"]
def cc_law : List (Str × Fn) := [("_law_cell", F_L_cell g0), ("_law_kinds_of", F_L_kinds_of g0)]
theorem m_law : mS (g0.with cc_law) n_law true b_law (defScope t_law) (.bl (defBody t_law)) = true := by decide +kernel
def fn : List He.DefD := [d_L_cell, d_is_within, d_is_prime, d_are_figures, d_times_as, d_rows_of, d_full, d_divided, d_any_left, d_first_part, d_is_whole, d_is_field, d_checked, d_is_number, d_look_numbers, d_sum_of, d_plus, d_look_prime, d_rules, d_nought, d_size_of, d_whole, d_product_of, d_power_of, d_inverse_of, d_over, d_is_row, d_look_rows, d_numbers_of, d_value_of, d_roots_of, d_less, d_root_row, d_row_times, d_cut, d_row_less, d_row_divided, d_split, d_roots, d_row_of, d_look_way, d_carried, d_led, d_solved, d_figures_of, d_is_base, d_checked_base, d_raised_to, d_steps_of, d_trace_figure, d_dual, d_look_number, d_primes_in, d_turns_of, d_log, d_read, d_L_deed, d_L_kinds_of, d_law]
def exAll (K : PySem.W.Frag) : Bool := wdB g0 K && (fn.all fun d => (He.Fa.glo d.name).ok K)
section
variable {P : Program} {w : World} {K : PySem.W.Frag} {mg : Str → Option Value} {base h : Heap}
theorem glo_fn (X : K.In h) (Gs : h.Ns mainGlobals mg) (e : exAll K = true) (i : Nat) {d : He.DefD} (hd : fn[i]? = some d) : mg d.name = some (.ref (He.ga K d.name)) := He.glo_ok X Gs (List.all_eq_true.mp (bb e).2 d (List.mem_of_getElem? hd))
theorem kn_L_cell (X : K.In h) (Gs : h.Ns mainGlobals mg) (c : He.SaysD [] fn K) (e : exAll K = true) : Kn P w K mg base 1 "_law_cell" (F_L_cell g0) := by
  obtain ⟨fd, F⟩ := c.def_ 0 (d := d_L_cell) rfl
  exact kn_ofL (N := n_L_cell) (ps := ["_law_script", "_law_k"]) F ⟨rfl, rfl, rfl, by decide +kernel, rfl, by decide +kernel, by decide +kernel⟩ rfl (by decide +kernel) m_L_cell (glo_fn X Gs e 0 (d := d_L_cell) rfl) (F.bindsN fun _ _ _ _ _ _ us hl => match us, hl with | [_, _], _ => rfl) (wd_of X Gs (bb e).1) all_nil
theorem kn_is_within (X : K.In h) (Gs : h.Ns mainGlobals mg) (c : He.SaysD [] fn K) (e : exAll K = true) : Kn P w K mg base 1 "is_within" (F_is_within g0) := by
  obtain ⟨fd, F⟩ := c.def_ 1 (d := d_is_within) rfl
  exact kn_ofL (N := n_is_within) (ps := ["thing", "low", "high"]) F ⟨rfl, rfl, rfl, by decide +kernel, rfl, by decide +kernel, by decide +kernel⟩ rfl (by decide +kernel) m_is_within (glo_fn X Gs e 1 (d := d_is_within) rfl) (F.bindsN fun _ _ _ _ _ _ us hl => match us, hl with | [_, _, _], _ => rfl) (wd_of X Gs (bb e).1) all_nil
theorem kn_is_prime (X : K.In h) (Gs : h.Ns mainGlobals mg) (c : He.SaysD [] fn K) (e : exAll K = true) : Kn P w K mg base 2 "is_prime" (F_is_prime g0) := by
  obtain ⟨fd, F⟩ := c.def_ 2 (d := d_is_prime) rfl
  exact kn_ofL (N := n_is_prime) (ps := ["thing"]) F ⟨rfl, rfl, rfl, by decide +kernel, rfl, by decide +kernel, by decide +kernel⟩ rfl (by decide +kernel) m_is_prime (glo_fn X Gs e 2 (d := d_is_prime) rfl) (F.bindsN fun _ _ _ _ _ _ us hl => match us, hl with | [_], _ => rfl) (wd_of X Gs (bb e).1) (all_cons ((kn_is_within X Gs c e).mono (by decide)) all_nil)
theorem kn_are_figures (X : K.In h) (Gs : h.Ns mainGlobals mg) (c : He.SaysD [] fn K) (e : exAll K = true) : Kn P w K mg base 2 "are_figures" (F_are_figures g0) := by
  obtain ⟨fd, F⟩ := c.def_ 3 (d := d_are_figures) rfl
  exact kn_ofL (N := n_are_figures) (ps := ["prime", "thing", "least", "most"]) F ⟨rfl, rfl, rfl, by decide +kernel, rfl, by decide +kernel, by decide +kernel⟩ rfl (by decide +kernel) m_are_figures (glo_fn X Gs e 3 (d := d_are_figures) rfl) (F.bindsN fun _ _ _ _ _ _ us hl => match us, hl with | [_, _, _, _], _ => rfl) (wd_of X Gs (bb e).1) (all_cons ((kn_is_within X Gs c e).mono (by decide)) all_nil)
theorem kn_times_as (X : K.In h) (Gs : h.Ns mainGlobals mg) (c : He.SaysD [] fn K) (e : exAll K = true) : Kn P w K mg base 1 "times_as" (F_times_as g0) := by
  obtain ⟨fd, F⟩ := c.def_ 4 (d := d_times_as) rfl
  exact kn_ofL (N := n_times_as) (ps := ["number", "often"]) F ⟨rfl, rfl, rfl, by decide +kernel, rfl, by decide +kernel, by decide +kernel⟩ rfl (by decide +kernel) m_times_as (glo_fn X Gs e 4 (d := d_times_as) rfl) (F.bindsN fun _ _ _ _ _ _ us hl => match us, hl with | [_, _], _ => rfl) (wd_of X Gs (bb e).1) all_nil
theorem kn_rows_of (X : K.In h) (Gs : h.Ns mainGlobals mg) (c : He.SaysD [] fn K) (e : exAll K = true) : Kn P w K mg base 1 "rows_of" (F_rows_of g0) := by
  obtain ⟨fd, F⟩ := c.def_ 5 (d := d_rows_of) rfl
  exact kn_ofL (N := n_rows_of) (ps := ["prime", "many"]) F ⟨rfl, rfl, rfl, by decide +kernel, rfl, by decide +kernel, by decide +kernel⟩ rfl (by decide +kernel) m_rows_of (glo_fn X Gs e 5 (d := d_rows_of) rfl) (F.bindsN fun _ _ _ _ _ _ us hl => match us, hl with | [_, _], _ => rfl) (wd_of X Gs (bb e).1) all_nil
theorem kn_full (X : K.In h) (Gs : h.Ns mainGlobals mg) (c : He.SaysD [] fn K) (e : exAll K = true) : Kn P w K mg base 1 "full" (F_full g0) := by
  obtain ⟨fd, F⟩ := c.def_ 6 (d := d_full) rfl
  exact kn_ofL (N := n_full) (ps := ["rule"]) F ⟨rfl, rfl, rfl, by decide +kernel, rfl, by decide +kernel, by decide +kernel⟩ rfl (by decide +kernel) m_full (glo_fn X Gs e 6 (d := d_full) rfl) (F.bindsN fun _ _ _ _ _ _ us hl => match us, hl with | [_], _ => rfl) (wd_of X Gs (bb e).1) all_nil
theorem kn_divided (X : K.In h) (Gs : h.Ns mainGlobals mg) (c : He.SaysD [] fn K) (e : exAll K = true) : Kn P w K mg base 2 "divided" (F_divided g0) := by
  obtain ⟨fd, F⟩ := c.def_ 7 (d := d_divided) rfl
  exact kn_ofL (N := n_divided) (ps := ["prime", "rule", "other"]) F ⟨rfl, rfl, rfl, by decide +kernel, rfl, by decide +kernel, by decide +kernel⟩ rfl (by decide +kernel) m_divided (glo_fn X Gs e 7 (d := d_divided) rfl) (F.bindsN fun _ _ _ _ _ _ us hl => match us, hl with | [_, _, _], _ => rfl) (wd_of X Gs (bb e).1) (all_cons ((kn_full X Gs c e).mono (by decide)) all_nil)
theorem kn_any_left (X : K.In h) (Gs : h.Ns mainGlobals mg) (c : He.SaysD [] fn K) (e : exAll K = true) : Kn P w K mg base 1 "any_left" (F_any_left g0) := by
  obtain ⟨fd, F⟩ := c.def_ 8 (d := d_any_left) rfl
  exact kn_ofL (N := n_any_left) (ps := ["rest"]) F ⟨rfl, rfl, rfl, by decide +kernel, rfl, by decide +kernel, by decide +kernel⟩ rfl (by decide +kernel) m_any_left (glo_fn X Gs e 8 (d := d_any_left) rfl) (F.bindsN fun _ _ _ _ _ _ us hl => match us, hl with | [_], _ => rfl) (wd_of X Gs (bb e).1) all_nil
theorem kn_first_part (X : K.In h) (Gs : h.Ns mainGlobals mg) (c : He.SaysD [] fn K) (e : exAll K = true) : Kn P w K mg base 3 "first_part" (F_first_part g0) := by
  obtain ⟨fd, F⟩ := c.def_ 9 (d := d_first_part) rfl
  exact kn_ofL (N := n_first_part) (ps := ["prime", "rule"]) F ⟨rfl, rfl, rfl, by decide +kernel, rfl, by decide +kernel, by decide +kernel⟩ rfl (by decide +kernel) m_first_part (glo_fn X Gs e 9 (d := d_first_part) rfl) (F.bindsN fun _ _ _ _ _ _ us hl => match us, hl with | [_, _], _ => rfl) (wd_of X Gs (bb e).1) (all_cons ((kn_rows_of X Gs c e).mono (by decide)) (all_cons ((kn_divided X Gs c e).mono (by decide)) (all_cons ((kn_any_left X Gs c e).mono (by decide)) all_nil)))
theorem kn_is_whole (X : K.In h) (Gs : h.Ns mainGlobals mg) (c : He.SaysD [] fn K) (e : exAll K = true) : Kn P w K mg base 4 "is_whole" (F_is_whole g0) := by
  obtain ⟨fd, F⟩ := c.def_ 10 (d := d_is_whole) rfl
  exact kn_ofL (N := n_is_whole) (ps := ["prime", "rule"]) F ⟨rfl, rfl, rfl, by decide +kernel, rfl, by decide +kernel, by decide +kernel⟩ rfl (by decide +kernel) m_is_whole (glo_fn X Gs e 10 (d := d_is_whole) rfl) (F.bindsN fun _ _ _ _ _ _ us hl => match us, hl with | [_, _], _ => rfl) (wd_of X Gs (bb e).1) (all_cons ((kn_first_part X Gs c e).mono (by decide)) all_nil)
theorem kn_is_field (X : K.In h) (Gs : h.Ns mainGlobals mg) (c : He.SaysD [] fn K) (e : exAll K = true) : Kn P w K mg base 5 "is_field" (F_is_field g0) := by
  obtain ⟨fd, F⟩ := c.def_ 11 (d := d_is_field) rfl
  exact kn_ofL (N := n_is_field) (ps := ["thing"]) F ⟨rfl, rfl, rfl, by decide +kernel, rfl, by decide +kernel, by decide +kernel⟩ rfl (by decide +kernel) m_is_field (glo_fn X Gs e 11 (d := d_is_field) rfl) (F.bindsN fun _ _ _ _ _ _ us hl => match us, hl with | [_], _ => rfl) (wd_of X Gs (bb e).1) (all_cons ((kn_is_prime X Gs c e).mono (by decide)) (all_cons ((kn_are_figures X Gs c e).mono (by decide)) (all_cons ((kn_times_as X Gs c e).mono (by decide)) (all_cons ((kn_is_whole X Gs c e).mono (by decide)) all_nil))))
theorem kn_checked (X : K.In h) (Gs : h.Ns mainGlobals mg) (c : He.SaysD [] fn K) (e : exAll K = true) : Kn P w K mg base 6 "checked" (F_checked g0) := by
  obtain ⟨fd, F⟩ := c.def_ 12 (d := d_checked) rfl
  exact kn_ofL (N := n_checked) (ps := ["field"]) F ⟨rfl, rfl, rfl, by decide +kernel, rfl, by decide +kernel, by decide +kernel⟩ rfl (by decide +kernel) m_checked (glo_fn X Gs e 12 (d := d_checked) rfl) (F.bindsN fun _ _ _ _ _ _ us hl => match us, hl with | [_], _ => rfl) (wd_of X Gs (bb e).1) (all_cons ((kn_is_field X Gs c e).mono (by decide)) all_nil)
theorem kn_is_number (X : K.In h) (Gs : h.Ns mainGlobals mg) (c : He.SaysD [] fn K) (e : exAll K = true) : Kn P w K mg base 3 "is_number" (F_is_number g0) := by
  obtain ⟨fd, F⟩ := c.def_ 13 (d := d_is_number) rfl
  exact kn_ofL (N := n_is_number) (ps := ["field", "thing"]) F ⟨rfl, rfl, rfl, by decide +kernel, rfl, by decide +kernel, by decide +kernel⟩ rfl (by decide +kernel) m_is_number (glo_fn X Gs e 13 (d := d_is_number) rfl) (F.bindsN fun _ _ _ _ _ _ us hl => match us, hl with | [_, _], _ => rfl) (wd_of X Gs (bb e).1) (all_cons ((kn_are_figures X Gs c e).mono (by decide)) all_nil)
theorem kn_look_numbers (X : K.In h) (Gs : h.Ns mainGlobals mg) (c : He.SaysD [] fn K) (e : exAll K = true) : Kn P w K mg base 7 "look_numbers" (F_look_numbers g0) := by
  obtain ⟨fd, F⟩ := c.def_ 14 (d := d_look_numbers) rfl
  exact kn_ofL (N := n_look_numbers) (ps := ["field", "some"]) F ⟨rfl, rfl, rfl, by decide +kernel, rfl, by decide +kernel, by decide +kernel⟩ rfl (by decide +kernel) m_look_numbers (glo_fn X Gs e 14 (d := d_look_numbers) rfl) (F.bindsN fun _ _ _ _ _ _ us hl => match us, hl with | [_, _], _ => rfl) (wd_of X Gs (bb e).1) (all_cons ((kn_checked X Gs c e).mono (by decide)) (all_cons ((kn_is_number X Gs c e).mono (by decide)) all_nil))
theorem kn_sum_of (X : K.In h) (Gs : h.Ns mainGlobals mg) (c : He.SaysD [] fn K) (e : exAll K = true) : Kn P w K mg base 1 "sum_of" (F_sum_of g0) := by
  obtain ⟨fd, F⟩ := c.def_ 15 (d := d_sum_of) rfl
  exact kn_ofL (N := n_sum_of) (ps := ["field", "one", "other"]) F ⟨rfl, rfl, rfl, by decide +kernel, rfl, by decide +kernel, by decide +kernel⟩ rfl (by decide +kernel) m_sum_of (glo_fn X Gs e 15 (d := d_sum_of) rfl) (F.bindsN fun _ _ _ _ _ _ us hl => match us, hl with | [_, _, _], _ => rfl) (wd_of X Gs (bb e).1) all_nil
theorem kn_plus (X : K.In h) (Gs : h.Ns mainGlobals mg) (c : He.SaysD [] fn K) (e : exAll K = true) : Kn P w K mg base 8 "plus" (F_plus g0) := by
  obtain ⟨fd, F⟩ := c.def_ 16 (d := d_plus) rfl
  exact kn_ofL (N := n_plus) (ps := ["field", "one", "other"]) F ⟨rfl, rfl, rfl, by decide +kernel, rfl, by decide +kernel, by decide +kernel⟩ rfl (by decide +kernel) m_plus (glo_fn X Gs e 16 (d := d_plus) rfl) (F.bindsN fun _ _ _ _ _ _ us hl => match us, hl with | [_, _, _], _ => rfl) (wd_of X Gs (bb e).1) (all_cons ((kn_look_numbers X Gs c e).mono (by decide)) (all_cons ((kn_sum_of X Gs c e).mono (by decide)) all_nil))
theorem kn_look_prime (X : K.In h) (Gs : h.Ns mainGlobals mg) (c : He.SaysD [] fn K) (e : exAll K = true) : Kn P w K mg base 3 "look_prime" (F_look_prime g0) := by
  obtain ⟨fd, F⟩ := c.def_ 17 (d := d_look_prime) rfl
  exact kn_ofL (N := n_look_prime) (ps := ["prime"]) F ⟨rfl, rfl, rfl, by decide +kernel, rfl, by decide +kernel, by decide +kernel⟩ rfl (by decide +kernel) m_look_prime (glo_fn X Gs e 17 (d := d_look_prime) rfl) (F.bindsN fun _ _ _ _ _ _ us hl => match us, hl with | [_], _ => rfl) (wd_of X Gs (bb e).1) (all_cons ((kn_is_prime X Gs c e).mono (by decide)) all_nil)
theorem kn_rules (X : K.In h) (Gs : h.Ns mainGlobals mg) (c : He.SaysD [] fn K) (e : exAll K = true) : Kn P w K mg base 5 "rules" (F_rules g0) := by
  obtain ⟨fd, F⟩ := c.def_ 18 (d := d_rules) rfl
  exact kn_ofL (N := n_rules) (ps := ["prime", "many"]) F ⟨rfl, rfl, rfl, by decide +kernel, rfl, by decide +kernel, by decide +kernel⟩ rfl (by decide +kernel) m_rules (glo_fn X Gs e 18 (d := d_rules) rfl) (F.bindsN fun _ _ _ _ _ _ us hl => match us, hl with | [_, _], _ => rfl) (wd_of X Gs (bb e).1) (all_cons ((kn_look_prime X Gs c e).mono (by decide)) (all_cons ((kn_is_within X Gs c e).mono (by decide)) (all_cons ((kn_times_as X Gs c e).mono (by decide)) (all_cons ((kn_rows_of X Gs c e).mono (by decide)) (all_cons ((kn_is_whole X Gs c e).mono (by decide)) all_nil)))))
theorem kn_nought (X : K.In h) (Gs : h.Ns mainGlobals mg) (c : He.SaysD [] fn K) (e : exAll K = true) : Kn P w K mg base 1 "nought" (F_nought g0) := by
  obtain ⟨fd, F⟩ := c.def_ 19 (d := d_nought) rfl
  exact kn_ofL (N := n_nought) (ps := ["field"]) F ⟨rfl, rfl, rfl, by decide +kernel, rfl, by decide +kernel, by decide +kernel⟩ rfl (by decide +kernel) m_nought (glo_fn X Gs e 19 (d := d_nought) rfl) (F.bindsN fun _ _ _ _ _ _ us hl => match us, hl with | [_], _ => rfl) (wd_of X Gs (bb e).1) all_nil
theorem kn_size_of (X : K.In h) (Gs : h.Ns mainGlobals mg) (c : He.SaysD [] fn K) (e : exAll K = true) : Kn P w K mg base 2 "size_of" (F_size_of g0) := by
  obtain ⟨fd, F⟩ := c.def_ 20 (d := d_size_of) rfl
  exact kn_ofL (N := n_size_of) (ps := ["field"]) F ⟨rfl, rfl, rfl, by decide +kernel, rfl, by decide +kernel, by decide +kernel⟩ rfl (by decide +kernel) m_size_of (glo_fn X Gs e 20 (d := d_size_of) rfl) (F.bindsN fun _ _ _ _ _ _ us hl => match us, hl with | [_], _ => rfl) (wd_of X Gs (bb e).1) (all_cons ((kn_times_as X Gs c e).mono (by decide)) all_nil)
theorem kn_whole (X : K.In h) (Gs : h.Ns mainGlobals mg) (c : He.SaysD [] fn K) (e : exAll K = true) : Kn P w K mg base 1 "whole" (F_whole g0) := by
  obtain ⟨fd, F⟩ := c.def_ 21 (d := d_whole) rfl
  exact kn_ofL (N := n_whole) (ps := ["field", "number"]) F ⟨rfl, rfl, rfl, by decide +kernel, rfl, by decide +kernel, by decide +kernel⟩ rfl (by decide +kernel) m_whole (glo_fn X Gs e 21 (d := d_whole) rfl) (F.bindsN fun _ _ _ _ _ _ us hl => match us, hl with | [_, _], _ => rfl) (wd_of X Gs (bb e).1) all_nil
theorem kn_product_of (X : K.In h) (Gs : h.Ns mainGlobals mg) (c : He.SaysD [] fn K) (e : exAll K = true) : Kn P w K mg base 1 "product_of" (F_product_of g0) := by
  obtain ⟨fd, F⟩ := c.def_ 22 (d := d_product_of) rfl
  exact kn_ofL (N := n_product_of) (ps := ["field", "one", "other"]) F ⟨rfl, rfl, rfl, by decide +kernel, rfl, by decide +kernel, by decide +kernel⟩ rfl (by decide +kernel) m_product_of (glo_fn X Gs e 22 (d := d_product_of) rfl) (F.bindsN fun _ _ _ _ _ _ us hl => match us, hl with | [_, _, _], _ => rfl) (wd_of X Gs (bb e).1) all_nil
theorem kn_power_of (X : K.In h) (Gs : h.Ns mainGlobals mg) (c : He.SaysD [] fn K) (e : exAll K = true) : Kn P w K mg base 2 "power_of" (F_power_of g0) := by
  obtain ⟨fd, F⟩ := c.def_ 23 (d := d_power_of) rfl
  exact kn_ofL (N := n_power_of) (ps := ["field", "number", "often"]) F ⟨rfl, rfl, rfl, by decide +kernel, rfl, by decide +kernel, by decide +kernel⟩ rfl (by decide +kernel) m_power_of (glo_fn X Gs e 23 (d := d_power_of) rfl) (F.bindsN fun _ _ _ _ _ _ us hl => match us, hl with | [_, _, _], _ => rfl) (wd_of X Gs (bb e).1) (all_cons ((kn_whole X Gs c e).mono (by decide)) (all_cons ((kn_product_of X Gs c e).mono (by decide)) all_nil))
theorem kn_inverse_of (X : K.In h) (Gs : h.Ns mainGlobals mg) (c : He.SaysD [] fn K) (e : exAll K = true) : Kn P w K mg base 3 "inverse_of" (F_inverse_of g0) := by
  obtain ⟨fd, F⟩ := c.def_ 24 (d := d_inverse_of) rfl
  exact kn_ofL (N := n_inverse_of) (ps := ["field", "number"]) F ⟨rfl, rfl, rfl, by decide +kernel, rfl, by decide +kernel, by decide +kernel⟩ rfl (by decide +kernel) m_inverse_of (glo_fn X Gs e 24 (d := d_inverse_of) rfl) (F.bindsN fun _ _ _ _ _ _ us hl => match us, hl with | [_, _], _ => rfl) (wd_of X Gs (bb e).1) (all_cons ((kn_size_of X Gs c e).mono (by decide)) (all_cons ((kn_power_of X Gs c e).mono (by decide)) all_nil))
theorem kn_over (X : K.In h) (Gs : h.Ns mainGlobals mg) (c : He.SaysD [] fn K) (e : exAll K = true) : Kn P w K mg base 8 "over" (F_over g0) := by
  obtain ⟨fd, F⟩ := c.def_ 25 (d := d_over) rfl
  exact kn_ofL (N := n_over) (ps := ["field", "one", "other"]) F ⟨rfl, rfl, rfl, by decide +kernel, rfl, by decide +kernel, by decide +kernel⟩ rfl (by decide +kernel) m_over (glo_fn X Gs e 25 (d := d_over) rfl) (F.bindsN fun _ _ _ _ _ _ us hl => match us, hl with | [_, _, _], _ => rfl) (wd_of X Gs (bb e).1) (all_cons ((kn_look_numbers X Gs c e).mono (by decide)) (all_cons ((kn_nought X Gs c e).mono (by decide)) (all_cons ((kn_inverse_of X Gs c e).mono (by decide)) (all_cons ((kn_product_of X Gs c e).mono (by decide)) all_nil))))
theorem kn_is_row (X : K.In h) (Gs : h.Ns mainGlobals mg) (c : He.SaysD [] fn K) (e : exAll K = true) : Kn P w K mg base 4 "is_row" (F_is_row g0) := by
  obtain ⟨fd, F⟩ := c.def_ 26 (d := d_is_row) rfl
  exact kn_ofL (N := n_is_row) (ps := ["field", "thing"]) F ⟨rfl, rfl, rfl, by decide +kernel, rfl, by decide +kernel, by decide +kernel⟩ rfl (by decide +kernel) m_is_row (glo_fn X Gs e 26 (d := d_is_row) rfl) (F.bindsN fun _ _ _ _ _ _ us hl => match us, hl with | [_, _], _ => rfl) (wd_of X Gs (bb e).1) (all_cons ((kn_is_number X Gs c e).mono (by decide)) (all_cons ((kn_nought X Gs c e).mono (by decide)) all_nil))
theorem kn_look_rows (X : K.In h) (Gs : h.Ns mainGlobals mg) (c : He.SaysD [] fn K) (e : exAll K = true) : Kn P w K mg base 7 "look_rows" (F_look_rows g0) := by
  obtain ⟨fd, F⟩ := c.def_ 27 (d := d_look_rows) rfl
  exact kn_ofL (N := n_look_rows) (ps := ["field", "some"]) F ⟨rfl, rfl, rfl, by decide +kernel, rfl, by decide +kernel, by decide +kernel⟩ rfl (by decide +kernel) m_look_rows (glo_fn X Gs e 27 (d := d_look_rows) rfl) (F.bindsN fun _ _ _ _ _ _ us hl => match us, hl with | [_, _], _ => rfl) (wd_of X Gs (bb e).1) (all_cons ((kn_checked X Gs c e).mono (by decide)) (all_cons ((kn_is_row X Gs c e).mono (by decide)) all_nil))
theorem kn_numbers_of (X : K.In h) (Gs : h.Ns mainGlobals mg) (c : He.SaysD [] fn K) (e : exAll K = true) : Kn P w K mg base 2 "numbers_of" (F_numbers_of g0) := by
  obtain ⟨fd, F⟩ := c.def_ 28 (d := d_numbers_of) rfl
  exact kn_ofL (N := n_numbers_of) (ps := ["field"]) F ⟨rfl, rfl, rfl, by decide +kernel, rfl, by decide +kernel, by decide +kernel⟩ rfl (by decide +kernel) m_numbers_of (glo_fn X Gs e 28 (d := d_numbers_of) rfl) (F.bindsN fun _ _ _ _ _ _ us hl => match us, hl with | [_], _ => rfl) (wd_of X Gs (bb e).1) (all_cons ((kn_rows_of X Gs c e).mono (by decide)) all_nil)
theorem kn_value_of (X : K.In h) (Gs : h.Ns mainGlobals mg) (c : He.SaysD [] fn K) (e : exAll K = true) : Kn P w K mg base 2 "value_of" (F_value_of g0) := by
  obtain ⟨fd, F⟩ := c.def_ 29 (d := d_value_of) rfl
  exact kn_ofL (N := n_value_of) (ps := ["field", "row", "number"]) F ⟨rfl, rfl, rfl, by decide +kernel, rfl, by decide +kernel, by decide +kernel⟩ rfl (by decide +kernel) m_value_of (glo_fn X Gs e 29 (d := d_value_of) rfl) (F.bindsN fun _ _ _ _ _ _ us hl => match us, hl with | [_, _, _], _ => rfl) (wd_of X Gs (bb e).1) (all_cons ((kn_nought X Gs c e).mono (by decide)) (all_cons ((kn_product_of X Gs c e).mono (by decide)) (all_cons ((kn_sum_of X Gs c e).mono (by decide)) all_nil)))
theorem kn_roots_of (X : K.In h) (Gs : h.Ns mainGlobals mg) (c : He.SaysD [] fn K) (e : exAll K = true) : Kn P w K mg base 3 "roots_of" (F_roots_of g0) := by
  obtain ⟨fd, F⟩ := c.def_ 30 (d := d_roots_of) rfl
  exact kn_ofL (N := n_roots_of) (ps := ["field", "row"]) F ⟨rfl, rfl, rfl, by decide +kernel, rfl, by decide +kernel, by decide +kernel⟩ rfl (by decide +kernel) m_roots_of (glo_fn X Gs e 30 (d := d_roots_of) rfl) (F.bindsN fun _ _ _ _ _ _ us hl => match us, hl with | [_, _], _ => rfl) (wd_of X Gs (bb e).1) (all_cons ((kn_numbers_of X Gs c e).mono (by decide)) (all_cons ((kn_value_of X Gs c e).mono (by decide)) (all_cons ((kn_nought X Gs c e).mono (by decide)) all_nil)))
theorem kn_less (X : K.In h) (Gs : h.Ns mainGlobals mg) (c : He.SaysD [] fn K) (e : exAll K = true) : Kn P w K mg base 1 "less" (F_less g0) := by
  obtain ⟨fd, F⟩ := c.def_ 31 (d := d_less) rfl
  exact kn_ofL (N := n_less) (ps := ["field", "one", "other"]) F ⟨rfl, rfl, rfl, by decide +kernel, rfl, by decide +kernel, by decide +kernel⟩ rfl (by decide +kernel) m_less (glo_fn X Gs e 31 (d := d_less) rfl) (F.bindsN fun _ _ _ _ _ _ us hl => match us, hl with | [_, _, _], _ => rfl) (wd_of X Gs (bb e).1) all_nil
theorem kn_root_row (X : K.In h) (Gs : h.Ns mainGlobals mg) (c : He.SaysD [] fn K) (e : exAll K = true) : Kn P w K mg base 2 "root_row" (F_root_row g0) := by
  obtain ⟨fd, F⟩ := c.def_ 32 (d := d_root_row) rfl
  exact kn_ofL (N := n_root_row) (ps := ["field", "number"]) F ⟨rfl, rfl, rfl, by decide +kernel, rfl, by decide +kernel, by decide +kernel⟩ rfl (by decide +kernel) m_root_row (glo_fn X Gs e 32 (d := d_root_row) rfl) (F.bindsN fun _ _ _ _ _ _ us hl => match us, hl with | [_, _], _ => rfl) (wd_of X Gs (bb e).1) (all_cons ((kn_nought X Gs c e).mono (by decide)) (all_cons ((kn_less X Gs c e).mono (by decide)) (all_cons ((kn_whole X Gs c e).mono (by decide)) all_nil)))
theorem kn_row_times (X : K.In h) (Gs : h.Ns mainGlobals mg) (c : He.SaysD [] fn K) (e : exAll K = true) : Kn P w K mg base 2 "row_times" (F_row_times g0) := by
  obtain ⟨fd, F⟩ := c.def_ 33 (d := d_row_times) rfl
  exact kn_ofL (N := n_row_times) (ps := ["field", "one", "other"]) F ⟨rfl, rfl, rfl, by decide +kernel, rfl, by decide +kernel, by decide +kernel⟩ rfl (by decide +kernel) m_row_times (glo_fn X Gs e 33 (d := d_row_times) rfl) (F.bindsN fun _ _ _ _ _ _ us hl => match us, hl with | [_, _, _], _ => rfl) (wd_of X Gs (bb e).1) (all_cons ((kn_nought X Gs c e).mono (by decide)) (all_cons ((kn_product_of X Gs c e).mono (by decide)) (all_cons ((kn_sum_of X Gs c e).mono (by decide)) all_nil)))
theorem kn_cut (X : K.In h) (Gs : h.Ns mainGlobals mg) (c : He.SaysD [] fn K) (e : exAll K = true) : Kn P w K mg base 2 "cut" (F_cut g0) := by
  obtain ⟨fd, F⟩ := c.def_ 34 (d := d_cut) rfl
  exact kn_ofL (N := n_cut) (ps := ["field", "row"]) F ⟨rfl, rfl, rfl, by decide +kernel, rfl, by decide +kernel, by decide +kernel⟩ rfl (by decide +kernel) m_cut (glo_fn X Gs e 34 (d := d_cut) rfl) (F.bindsN fun _ _ _ _ _ _ us hl => match us, hl with | [_, _], _ => rfl) (wd_of X Gs (bb e).1) (all_cons ((kn_nought X Gs c e).mono (by decide)) all_nil)
theorem kn_row_less (X : K.In h) (Gs : h.Ns mainGlobals mg) (c : He.SaysD [] fn K) (e : exAll K = true) : Kn P w K mg base 3 "row_less" (F_row_less g0) := by
  obtain ⟨fd, F⟩ := c.def_ 35 (d := d_row_less) rfl
  exact kn_ofL (N := n_row_less) (ps := ["field", "one", "other"]) F ⟨rfl, rfl, rfl, by decide +kernel, rfl, by decide +kernel, by decide +kernel⟩ rfl (by decide +kernel) m_row_less (glo_fn X Gs e 35 (d := d_row_less) rfl) (F.bindsN fun _ _ _ _ _ _ us hl => match us, hl with | [_, _, _], _ => rfl) (wd_of X Gs (bb e).1) (all_cons ((kn_nought X Gs c e).mono (by decide)) (all_cons ((kn_less X Gs c e).mono (by decide)) (all_cons ((kn_cut X Gs c e).mono (by decide)) all_nil)))
theorem kn_row_divided (X : K.In h) (Gs : h.Ns mainGlobals mg) (c : He.SaysD [] fn K) (e : exAll K = true) : Kn P w K mg base 4 "row_divided" (F_row_divided g0) := by
  obtain ⟨fd, F⟩ := c.def_ 36 (d := d_row_divided) rfl
  exact kn_ofL (N := n_row_divided) (ps := ["field", "one", "other"]) F ⟨rfl, rfl, rfl, by decide +kernel, rfl, by decide +kernel, by decide +kernel⟩ rfl (by decide +kernel) m_row_divided (glo_fn X Gs e 36 (d := d_row_divided) rfl) (F.bindsN fun _ _ _ _ _ _ us hl => match us, hl with | [_, _, _], _ => rfl) (wd_of X Gs (bb e).1) (all_cons ((kn_inverse_of X Gs c e).mono (by decide)) (all_cons ((kn_nought X Gs c e).mono (by decide)) (all_cons ((kn_product_of X Gs c e).mono (by decide)) (all_cons ((kn_row_times X Gs c e).mono (by decide)) (all_cons ((kn_row_less X Gs c e).mono (by decide)) (all_cons ((kn_cut X Gs c e).mono (by decide)) all_nil))))))
theorem kn_split (X : K.In h) (Gs : h.Ns mainGlobals mg) (c : He.SaysD [] fn K) (e : exAll K = true) : Kn P w K mg base 8 "split" (F_split g0) := by
  obtain ⟨fd, F⟩ := c.def_ 37 (d := d_split) rfl
  exact kn_ofL (N := n_split) (ps := ["field", "row"]) F ⟨rfl, rfl, rfl, by decide +kernel, rfl, by decide +kernel, by decide +kernel⟩ rfl (by decide +kernel) m_split (glo_fn X Gs e 37 (d := d_split) rfl) (F.bindsN fun _ _ _ _ _ _ us hl => match us, hl with | [_, _], _ => rfl) (wd_of X Gs (bb e).1) (all_cons ((kn_look_rows X Gs c e).mono (by decide)) (all_cons ((kn_roots_of X Gs c e).mono (by decide)) (all_cons ((kn_value_of X Gs c e).mono (by decide)) (all_cons ((kn_nought X Gs c e).mono (by decide)) (all_cons ((kn_root_row X Gs c e).mono (by decide)) (all_cons ((kn_row_divided X Gs c e).mono (by decide)) all_nil))))))
theorem kn_roots (X : K.In h) (Gs : h.Ns mainGlobals mg) (c : He.SaysD [] fn K) (e : exAll K = true) : Kn P w K mg base 9 "roots" (F_roots g0) := by
  obtain ⟨fd, F⟩ := c.def_ 38 (d := d_roots) rfl
  exact kn_ofL (N := n_roots) (ps := ["field", "row"]) F ⟨rfl, rfl, rfl, by decide +kernel, rfl, by decide +kernel, by decide +kernel⟩ rfl (by decide +kernel) m_roots (glo_fn X Gs e 38 (d := d_roots) rfl) (F.bindsN fun _ _ _ _ _ _ us hl => match us, hl with | [_, _], _ => rfl) (wd_of X Gs (bb e).1) (all_cons ((kn_split X Gs c e).mono (by decide)) all_nil)
theorem kn_row_of (X : K.In h) (Gs : h.Ns mainGlobals mg) (c : He.SaysD [] fn K) (e : exAll K = true) : Kn P w K mg base 2 "row_of" (F_row_of g0) := by
  obtain ⟨fd, F⟩ := c.def_ 39 (d := d_row_of) rfl
  exact kn_ofL (N := n_row_of) (ps := ["field", "figures"]) F ⟨rfl, rfl, rfl, by decide +kernel, rfl, by decide +kernel, by decide +kernel⟩ rfl (by decide +kernel) m_row_of (glo_fn X Gs e 39 (d := d_row_of) rfl) (F.bindsN fun _ _ _ _ _ _ us hl => match us, hl with | [_, _], _ => rfl) (wd_of X Gs (bb e).1) (all_cons ((kn_whole X Gs c e).mono (by decide)) all_nil)
theorem kn_look_way (X : K.In h) (Gs : h.Ns mainGlobals mg) (c : He.SaysD [] fn K) (e : exAll K = true) : Kn P w K mg base 7 "look_way" (F_look_way g0) := by
  obtain ⟨fd, F⟩ := c.def_ 40 (d := d_look_way) rfl
  exact kn_ofL (N := n_look_way) (ps := ["one", "other", "image"]) F ⟨rfl, rfl, rfl, by decide +kernel, rfl, by decide +kernel, by decide +kernel⟩ rfl (by decide +kernel) m_look_way (glo_fn X Gs e 40 (d := d_look_way) rfl) (F.bindsN fun _ _ _ _ _ _ us hl => match us, hl with | [_, _, _], _ => rfl) (wd_of X Gs (bb e).1) (all_cons ((kn_checked X Gs c e).mono (by decide)) (all_cons ((kn_is_number X Gs c e).mono (by decide)) (all_cons ((kn_row_of X Gs c e).mono (by decide)) (all_cons ((kn_value_of X Gs c e).mono (by decide)) (all_cons ((kn_nought X Gs c e).mono (by decide)) all_nil)))))
theorem kn_carried (X : K.In h) (Gs : h.Ns mainGlobals mg) (c : He.SaysD [] fn K) (e : exAll K = true) : Kn P w K mg base 3 "carried" (F_carried g0) := by
  obtain ⟨fd, F⟩ := c.def_ 41 (d := d_carried) rfl
  exact kn_ofL (N := n_carried) (ps := ["other", "image", "number"]) F ⟨rfl, rfl, rfl, by decide +kernel, rfl, by decide +kernel, by decide +kernel⟩ rfl (by decide +kernel) m_carried (glo_fn X Gs e 41 (d := d_carried) rfl) (F.bindsN fun _ _ _ _ _ _ us hl => match us, hl with | [_, _, _], _ => rfl) (wd_of X Gs (bb e).1) (all_cons ((kn_whole X Gs c e).mono (by decide)) (all_cons ((kn_value_of X Gs c e).mono (by decide)) all_nil))
theorem kn_led (X : K.In h) (Gs : h.Ns mainGlobals mg) (c : He.SaysD [] fn K) (e : exAll K = true) : Kn P w K mg base 8 "led" (F_led g0) := by
  obtain ⟨fd, F⟩ := c.def_ 42 (d := d_led) rfl
  exact kn_ofL (N := n_led) (ps := ["one", "other", "image", "number"]) F ⟨rfl, rfl, rfl, by decide +kernel, rfl, by decide +kernel, by decide +kernel⟩ rfl (by decide +kernel) m_led (glo_fn X Gs e 42 (d := d_led) rfl) (F.bindsN fun _ _ _ _ _ _ us hl => match us, hl with | [_, _, _, _], _ => rfl) (wd_of X Gs (bb e).1) (all_cons ((kn_look_way X Gs c e).mono (by decide)) (all_cons ((kn_is_number X Gs c e).mono (by decide)) (all_cons ((kn_carried X Gs c e).mono (by decide)) all_nil)))
theorem kn_solved (X : K.In h) (Gs : h.Ns mainGlobals mg) (c : He.SaysD [] fn K) (e : exAll K = true) : Kn P w K mg base 1 "solved" (F_solved g0) := by
  obtain ⟨fd, F⟩ := c.def_ 43 (d := d_solved) rfl
  exact kn_ofL (N := n_solved) (ps := ["prime", "rows"]) F ⟨rfl, rfl, rfl, by decide +kernel, rfl, by decide +kernel, by decide +kernel⟩ rfl (by decide +kernel) m_solved (glo_fn X Gs e 43 (d := d_solved) rfl) (F.bindsN fun _ _ _ _ _ _ us hl => match us, hl with | [_, _], _ => rfl) (wd_of X Gs (bb e).1) all_nil
theorem kn_figures_of (X : K.In h) (Gs : h.Ns mainGlobals mg) (c : He.SaysD [] fn K) (e : exAll K = true) : Kn P w K mg base 2 "figures_of" (F_figures_of g0) := by
  obtain ⟨fd, F⟩ := c.def_ 44 (d := d_figures_of) rfl
  exact kn_ofL (N := n_figures_of) (ps := ["field", "base", "number"]) F ⟨rfl, rfl, rfl, by decide +kernel, rfl, by decide +kernel, by decide +kernel⟩ rfl (by decide +kernel) m_figures_of (glo_fn X Gs e 44 (d := d_figures_of) rfl) (F.bindsN fun _ _ _ _ _ _ us hl => match us, hl with | [_, _, _], _ => rfl) (wd_of X Gs (bb e).1) (all_cons ((kn_solved X Gs c e).mono (by decide)) all_nil)
theorem kn_is_base (X : K.In h) (Gs : h.Ns mainGlobals mg) (c : He.SaysD [] fn K) (e : exAll K = true) : Kn P w K mg base 4 "is_base" (F_is_base g0) := by
  obtain ⟨fd, F⟩ := c.def_ 45 (d := d_is_base) rfl
  exact kn_ofL (N := n_is_base) (ps := ["field", "thing"]) F ⟨rfl, rfl, rfl, by decide +kernel, rfl, by decide +kernel, by decide +kernel⟩ rfl (by decide +kernel) m_is_base (glo_fn X Gs e 45 (d := d_is_base) rfl) (F.bindsN fun _ _ _ _ _ _ us hl => match us, hl with | [_, _], _ => rfl) (wd_of X Gs (bb e).1) (all_cons ((kn_is_number X Gs c e).mono (by decide)) (all_cons ((kn_nought X Gs c e).mono (by decide)) (all_cons ((kn_figures_of X Gs c e).mono (by decide)) all_nil)))
theorem kn_checked_base (X : K.In h) (Gs : h.Ns mainGlobals mg) (c : He.SaysD [] fn K) (e : exAll K = true) : Kn P w K mg base 7 "checked_base" (F_checked_base g0) := by
  obtain ⟨fd, F⟩ := c.def_ 46 (d := d_checked_base) rfl
  exact kn_ofL (N := n_checked_base) (ps := ["field", "base"]) F ⟨rfl, rfl, rfl, by decide +kernel, rfl, by decide +kernel, by decide +kernel⟩ rfl (by decide +kernel) m_checked_base (glo_fn X Gs e 46 (d := d_checked_base) rfl) (F.bindsN fun _ _ _ _ _ _ us hl => match us, hl with | [_, _], _ => rfl) (wd_of X Gs (bb e).1) (all_cons ((kn_checked X Gs c e).mono (by decide)) (all_cons ((kn_is_base X Gs c e).mono (by decide)) all_nil))
theorem kn_raised_to (X : K.In h) (Gs : h.Ns mainGlobals mg) (c : He.SaysD [] fn K) (e : exAll K = true) : Kn P w K mg base 3 "raised_to" (F_raised_to g0) := by
  obtain ⟨fd, F⟩ := c.def_ 47 (d := d_raised_to) rfl
  exact kn_ofL (N := n_raised_to) (ps := ["field", "number", "often"]) F ⟨rfl, rfl, rfl, by decide +kernel, rfl, by decide +kernel, by decide +kernel⟩ rfl (by decide +kernel) m_raised_to (glo_fn X Gs e 47 (d := d_raised_to) rfl) (F.bindsN fun _ _ _ _ _ _ us hl => match us, hl with | [_, _, _], _ => rfl) (wd_of X Gs (bb e).1) (all_cons ((kn_times_as X Gs c e).mono (by decide)) (all_cons ((kn_power_of X Gs c e).mono (by decide)) all_nil))
theorem kn_steps_of (X : K.In h) (Gs : h.Ns mainGlobals mg) (c : He.SaysD [] fn K) (e : exAll K = true) : Kn P w K mg base 4 "steps_of" (F_steps_of g0) := by
  obtain ⟨fd, F⟩ := c.def_ 48 (d := d_steps_of) rfl
  exact kn_ofL (N := n_steps_of) (ps := ["field", "number", "many"]) F ⟨rfl, rfl, rfl, by decide +kernel, rfl, by decide +kernel, by decide +kernel⟩ rfl (by decide +kernel) m_steps_of (glo_fn X Gs e 48 (d := d_steps_of) rfl) (F.bindsN fun _ _ _ _ _ _ us hl => match us, hl with | [_, _, _], _ => rfl) (wd_of X Gs (bb e).1) (all_cons ((kn_raised_to X Gs c e).mono (by decide)) all_nil)
theorem kn_trace_figure (X : K.In h) (Gs : h.Ns mainGlobals mg) (c : He.SaysD [] fn K) (e : exAll K = true) : Kn P w K mg base 5 "trace_figure" (F_trace_figure g0) := by
  obtain ⟨fd, F⟩ := c.def_ 49 (d := d_trace_figure) rfl
  exact kn_ofL (N := n_trace_figure) (ps := ["field", "number"]) F ⟨rfl, rfl, rfl, by decide +kernel, rfl, by decide +kernel, by decide +kernel⟩ rfl (by decide +kernel) m_trace_figure (glo_fn X Gs e 49 (d := d_trace_figure) rfl) (F.bindsN fun _ _ _ _ _ _ us hl => match us, hl with | [_, _], _ => rfl) (wd_of X Gs (bb e).1) (all_cons ((kn_nought X Gs c e).mono (by decide)) (all_cons ((kn_steps_of X Gs c e).mono (by decide)) (all_cons ((kn_sum_of X Gs c e).mono (by decide)) all_nil)))
theorem kn_dual (X : K.In h) (Gs : h.Ns mainGlobals mg) (c : He.SaysD [] fn K) (e : exAll K = true) : Kn P w K mg base 8 "dual" (F_dual g0) := by
  obtain ⟨fd, F⟩ := c.def_ 50 (d := d_dual) rfl
  exact kn_ofL (N := n_dual) (ps := ["field", "base"]) F ⟨rfl, rfl, rfl, by decide +kernel, rfl, by decide +kernel, by decide +kernel⟩ rfl (by decide +kernel) m_dual (glo_fn X Gs e 50 (d := d_dual) rfl) (F.bindsN fun _ _ _ _ _ _ us hl => match us, hl with | [_, _], _ => rfl) (wd_of X Gs (bb e).1) (all_cons ((kn_checked_base X Gs c e).mono (by decide)) (all_cons ((kn_whole X Gs c e).mono (by decide)) (all_cons ((kn_product_of X Gs c e).mono (by decide)) (all_cons ((kn_trace_figure X Gs c e).mono (by decide)) (all_cons ((kn_solved X Gs c e).mono (by decide)) all_nil)))))
theorem kn_look_number (X : K.In h) (Gs : h.Ns mainGlobals mg) (c : He.SaysD [] fn K) (e : exAll K = true) : Kn P w K mg base 8 "look_number" (F_look_number g0) := by
  obtain ⟨fd, F⟩ := c.def_ 51 (d := d_look_number) rfl
  exact kn_ofL (N := n_look_number) (ps := ["field", "number"]) F ⟨rfl, rfl, rfl, by decide +kernel, rfl, by decide +kernel, by decide +kernel⟩ rfl (by decide +kernel) m_look_number (glo_fn X Gs e 51 (d := d_look_number) rfl) (F.bindsN fun _ _ _ _ _ _ us hl => match us, hl with | [_, _], _ => rfl) (wd_of X Gs (bb e).1) (all_cons ((kn_look_numbers X Gs c e).mono (by decide)) (all_cons ((kn_nought X Gs c e).mono (by decide)) all_nil))
theorem kn_primes_in (X : K.In h) (Gs : h.Ns mainGlobals mg) (c : He.SaysD [] fn K) (e : exAll K = true) : Kn P w K mg base 1 "primes_in" (F_primes_in g0) := by
  obtain ⟨fd, F⟩ := c.def_ 52 (d := d_primes_in) rfl
  exact kn_ofL (N := n_primes_in) (ps := ["number"]) F ⟨rfl, rfl, rfl, by decide +kernel, rfl, by decide +kernel, by decide +kernel⟩ rfl (by decide +kernel) m_primes_in (glo_fn X Gs e 52 (d := d_primes_in) rfl) (F.bindsN fun _ _ _ _ _ _ us hl => match us, hl with | [_], _ => rfl) (wd_of X Gs (bb e).1) all_nil
theorem kn_turns_of (X : K.In h) (Gs : h.Ns mainGlobals mg) (c : He.SaysD [] fn K) (e : exAll K = true) : Kn P w K mg base 3 "turns_of" (F_turns_of g0) := by
  obtain ⟨fd, F⟩ := c.def_ 53 (d := d_turns_of) rfl
  exact kn_ofL (N := n_turns_of) (ps := ["field", "number"]) F ⟨rfl, rfl, rfl, by decide +kernel, rfl, by decide +kernel, by decide +kernel⟩ rfl (by decide +kernel) m_turns_of (glo_fn X Gs e 53 (d := d_turns_of) rfl) (F.bindsN fun _ _ _ _ _ _ us hl => match us, hl with | [_, _], _ => rfl) (wd_of X Gs (bb e).1) (all_cons ((kn_size_of X Gs c e).mono (by decide)) (all_cons ((kn_primes_in X Gs c e).mono (by decide)) (all_cons ((kn_power_of X Gs c e).mono (by decide)) (all_cons ((kn_whole X Gs c e).mono (by decide)) all_nil))))
theorem kn_log (X : K.In h) (Gs : h.Ns mainGlobals mg) (c : He.SaysD [] fn K) (e : exAll K = true) : Kn P w K mg base 9 "log" (F_log g0) := by
  obtain ⟨fd, F⟩ := c.def_ 54 (d := d_log) rfl
  exact kn_ofL (N := n_log) (ps := ["field", "maker", "number"]) F ⟨rfl, rfl, rfl, by decide +kernel, rfl, by decide +kernel, by decide +kernel⟩ rfl (by decide +kernel) m_log (glo_fn X Gs e 54 (d := d_log) rfl) (F.bindsN fun _ _ _ _ _ _ us hl => match us, hl with | [_, _, _], _ => rfl) (wd_of X Gs (bb e).1) (all_cons ((kn_look_number X Gs c e).mono (by decide)) (all_cons ((kn_turns_of X Gs c e).mono (by decide)) (all_cons ((kn_size_of X Gs c e).mono (by decide)) (all_cons ((kn_whole X Gs c e).mono (by decide)) (all_cons ((kn_product_of X Gs c e).mono (by decide)) all_nil)))))
theorem kn_read (X : K.In h) (Gs : h.Ns mainGlobals mg) (c : He.SaysD [] fn K) (e : exAll K = true) : Kn P w K mg base 6 "read" (F_read g0) := by
  obtain ⟨fd, F⟩ := c.def_ 55 (d := d_read) rfl
  exact kn_ofL (N := n_read) (ps := ["text"]) F ⟨rfl, rfl, rfl, by decide +kernel, rfl, by decide +kernel, by decide +kernel⟩ rfl (by decide +kernel) m_read (glo_fn X Gs e 55 (d := d_read) rfl) (F.bindsN fun _ _ _ _ _ _ us hl => match us, hl with | [_], _ => rfl) (wd_of X Gs (bb e).1) (all_cons ((kn_is_field X Gs c e).mono (by decide)) all_nil)
theorem kn_L_deed (X : K.In h) (Gs : h.Ns mainGlobals mg) (c : He.SaysD [] fn K) (e : exAll K = true) : Kn P w K mg base 10 "_law_deed" (F_L_deed g0) := by
  obtain ⟨fd, F⟩ := c.def_ 56 (d := d_L_deed) rfl
  exact kn_ofL (N := n_L_deed) (ps := ["_law_way"]) F ⟨rfl, rfl, rfl, by decide +kernel, rfl, by decide +kernel, by decide +kernel⟩ rfl (by decide +kernel) m_L_deed (glo_fn X Gs e 56 (d := d_L_deed) rfl) (F.bindsN fun _ _ _ _ _ _ us hl => match us, hl with | [_], _ => rfl) (wd_of X Gs (bb e).1) (all_cons ((kn_checked X Gs c e).mono (by decide)) (all_cons ((kn_plus X Gs c e).mono (by decide)) (all_cons ((kn_rules X Gs c e).mono (by decide)) (all_cons ((kn_over X Gs c e).mono (by decide)) (all_cons ((kn_roots X Gs c e).mono (by decide)) (all_cons ((kn_led X Gs c e).mono (by decide)) (all_cons ((kn_dual X Gs c e).mono (by decide)) (all_cons ((kn_log X Gs c e).mono (by decide)) (all_cons ((kn_read X Gs c e).mono (by decide)) all_nil)))))))))
theorem kn_L_kinds_of (X : K.In h) (Gs : h.Ns mainGlobals mg) (c : He.SaysD [] fn K) (e : exAll K = true) : Kn P w K mg base 11 "_law_kinds_of" (F_L_kinds_of g0) := by
  obtain ⟨fd, F⟩ := c.def_ 57 (d := d_L_kinds_of) rfl
  exact kn_ofL (N := n_L_kinds_of) (ps := ["_law_way"]) F ⟨rfl, rfl, rfl, by decide +kernel, rfl, by decide +kernel, by decide +kernel⟩ rfl (by decide +kernel) m_L_kinds_of (glo_fn X Gs e 57 (d := d_L_kinds_of) rfl) (F.bindsN fun _ _ _ _ _ _ us hl => match us, hl with | [_], _ => rfl) (wd_of X Gs (bb e).1) (all_cons ((kn_L_deed X Gs c e).mono (by decide)) all_nil)
theorem kn_law (X : K.In h) (Gs : h.Ns mainGlobals mg) (c : He.SaysD [] fn K) (e : exAll K = true) : Kn P w K mg base 12 "law" (F_law g0) := by
  obtain ⟨fd, F⟩ := c.def_ 58 (d := d_law) rfl
  exact kn_ofL (N := n_law) (ps := ["_law_script"]) F ⟨rfl, rfl, rfl, by decide +kernel, rfl, by decide +kernel, by decide +kernel⟩ rfl (by decide +kernel) m_law (glo_fn X Gs e 58 (d := d_law) rfl) (F.bindsN fun _ _ _ _ _ _ us hl => match us, hl with | [_], _ => rfl) (wd_of X Gs (bb e).1) (all_cons ((kn_L_cell X Gs c e).mono (by decide)) (all_cons ((kn_L_kinds_of X Gs c e).mono (by decide)) all_nil))
end
abbrev R : PySem.W.OpenRow := PySem.W.OpenLaw.row PySem.Challenge.rw_fieldsteps_k21_refusals_stand_apart
abbrev hk : PySem.W.Hook := hookV 4 fn exAll
def ob (s : PySem.W.SharedT) : AlV := obsV 4 fn exAll (HandSHeadRun.getT s)
theorem ob_eq (s : PySem.W.SharedT) : ob s = hk.obs s.abs := obsV_eq (HandSHeadRun.getT_eq s)
def loose : List Str := [.ofString "FieldError", .ofString "BadField", .ofString "BadNumber", .ofString "BadWhole", .ofString "Zero", .ofString "BadRow", .ofString "BadWay", .ofString "BadBase", .ofString "NoMaker", .ofString "BadText", .ofString "PRIMES", .ofString "MOST_NUMBERS", .ofString "MOST_FIGURES", .ofString "MOST_ROW", .ofString "FIGURES", .ofString "is_within", .ofString "is_prime", .ofString "are_figures", .ofString "times_as", .ofString "full", .ofString "divided", .ofString "rows_of", .ofString "first_part", .ofString "any_left", .ofString "is_whole", .ofString "look_prime", .ofString "rules", .ofString "is_field", .ofString "checked", .ofString "size_of", .ofString "is_number", .ofString "look_numbers", .ofString "numbers_of", .ofString "nought", .ofString "whole", .ofString "sum_of", .ofString "less", .ofString "product_of", .ofString "power_of", .ofString "inverse_of", .ofString "plus", .ofString "over", .ofString "primes_in", .ofString "turns_of", .ofString "look_number", .ofString "log", .ofString "is_row", .ofString "look_rows", .ofString "cut", .ofString "value_of", .ofString "row_times", .ofString "row_less", .ofString "row_divided", .ofString "row_of", .ofString "roots_of", .ofString "root_row", .ofString "split", .ofString "roots", .ofString "raised_to", .ofString "steps_of", .ofString "solved", .ofString "figures_of", .ofString "is_base", .ofString "checked_base", .ofString "trace_figure", .ofString "dual", .ofString "read", .ofString "look_way", .ofString "carried", .ofString "led", .ofString "_law_cell", .ofString "_law_deed", .ofString "_law_kinds_of"]
theorem run (w : World) : HandSHeadRun.RunEq R (PySem.W.view R.prog [85]) hk ob 4000 loose w := by
  intro os
  kernel_rfl
theorem ff (w : World) (mg : Str → Option Value) (fa : Addr) (h : Heap) (Y : ∃ K : PySem.W.Frag, K.In h ∧ He.SaysD [] fn K ∧ exAll K = true) (Gs : h.Ns mainGlobals mg) (hmg : mg "law" = some (.ref fa)) :
    ∃ (K : PySem.W.Frag) (fd : FuncData), K.In h ∧ (∀ (s : Shared) (u : Value), BindsTo s fd ⟨[u], []⟩ [("_law_script", u)]) ∧
      ∀ base : Heap, K.In base → base.Ns mainGlobals mg → FnOk PySem.Challenge.pw_fieldsteps_k21_refusals_stand_apart w K mg base (L2.CX PySem.Challenge.pw_fieldsteps_k21_refusals_stand_apart w) 12 fa fd ["_law_script"] (spF K (F_law g0)) := by
  obtain ⟨K, KX, c, e⟩ := Y
  obtain ⟨fd, F⟩ := c.def_ 58 (d := d_law) rfl
  have e1 := hmg.symm.trans (glo_fn KX Gs e 58 (d := d_law) rfl)
  cases e1
  refine ⟨K, fd, KX, fun s v => (FunD.bindsA (ps := ["_law_script"]) F fun _ _ _ _ _ _ us hl => match us, hl with | [_], _ => rfl) s [v] rfl, fun base _ _ => ?_⟩
  exact fn_ofL (N := n_law) F ⟨rfl, rfl, rfl, by decide +kernel, rfl, by decide +kernel, by decide +kernel⟩ rfl (by decide +kernel) m_law (wd_of KX Gs (bb e).1) (all_cons ((kn_L_cell KX Gs c e).mono (by decide)) (all_cons ((kn_L_kinds_of KX Gs c e).mono (by decide)) all_nil))
end Vi
open PySem PySem.W PySem.Calls PyProof.Rows
theorem PySem.Challenge.cw_fieldsteps_k21_refusals_stand_apart_holds : PySem.Challenge.rw_fieldsteps_k21_refusals_stand_apart.Holds := by
  w_on; o_law
  refine HandSHeadRun.head_any (r := OpenLaw.row PySem.Challenge.rw_fieldsteps_k21_refusals_stand_apart) (q := view (OpenLaw.row PySem.Challenge.rw_fieldsteps_k21_refusals_stand_apart).prog [85]) (H := Vi.hk) (ob := Vi.ob) (M := 4000) (loose := Vi.loose) (d := HandSHeadRun.topDef (OpenLaw.row PySem.Challenge.rw_fieldsteps_k21_refusals_stand_apart).prog 85) (kwd := []) Vi.ob_eq
    (by kernel_rfl) (fun s => by kernel_rfl) Vi.run (by kernel_rfl) (by kernel_rfl) (by kernel_rfl) (by rfl) (by first | assumption | decide +kernel) (by decide +kernel) ⟨rfl, rfl, rfl, rfl, rfl, by decide +kernel⟩ ?hw ?hc
  case hw => w_witness2
  case hc =>
    refine Vi.walk_V (l := PySem.Challenge.rw_fieldsteps_k21_refusals_stand_apart) (n := 63) (k := 12) (x := "_law_script") (F := Vi.F_law Vi.g0) rfl (by decide) (by kernel_rfl) ⟨rfl, by decide, by decide⟩ ?F Vi.law_plain
    intro w mg fa h Y G hmg0
    have hmg : mg ("law" : PySem.Str) = some (.ref fa) := by
      have e : (HandSHeadRun.topDef (OpenLaw.row PySem.Challenge.rw_fieldsteps_k21_refusals_stand_apart).prog 85).name = ("law" : PySem.Str) := by kernel_rfl
      rw [← e]
      exact hmg0
    exact Vi.ff w mg fa h Y G hmg
