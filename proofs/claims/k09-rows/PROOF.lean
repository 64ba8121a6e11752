import PyProof.Rows.All
import PySem.Challenge.RW_fieldsteps_k09_rows
import PyProof.EqLayable
import HandS.Text
import Wide.All
import OpenK.AllK
import Wide.FinOn
import PyProof.EqAt
import PyProof.EqKinds
import PyProof.TupleCall
import HandS.ForMost
import HandS.ForExc
import HandS.TupMul
import HandS.Zip
import HandS.Flow
import HandS.Deep
import HandS.DeepEq
import HandS.IsInst
import HandS.ExcIs
import HandS.HeadHook4
import HandS.Head2
import HandS.EndBits
import HandS.Replace
import HandS.SetFor
import HandS.HeadEnd
import KE.KRevSl
import KE.GoesEnum
import KE.GoesNew
import HandS.TupAny
import KE.IntBitsLaws
set_option Elab.async false
set_option linter.all false
/-! A small interpreter on values that are trees (my own layer). -/
namespace Vi
open PySem
abbrev D := PyData
inductive Cm where
  | eq | ne | lt | le | gt | ge | isn | notn | inn | nin
  deriving DecidableEq
inductive Op where
  | add | sub | mul | mod | fdiv | pow
  deriving DecidableEq
/-- built-in functions called by name -/
inductive Bf where
  | len | int | str | tuple | list | sum | sorted
  deriving DecidableEq
inductive Mth where
  | sindex | lindex | join | lcount
  deriving DecidableEq
inductive Ty where
  | int | bool | tuple | list | str
  deriving DecidableEq
inductive Tg where
  | one (i : Nat) | two (i j : Nat)
  deriving DecidableEq
inductive E where
  | var (i : Nat) | glob (x : Str)
  | int (n : Int) | bl (b : Bool) | non | str (s : Str) | miss
  | bin (o : Op) (a b : E)
  | neg (a : E)
  | cmp (c : Cm) (a b : E)
  | cmp2 (c c' : Cm) (a b d : E)
  | land (a r : E) | lor (a r : E) | one (a : E)
  | not (a : E)
  | ife (c a b : E)
  | nil | cons (a r : E)
  | tup (as : E) | lst (as : E)
  | call (k : Nat) (as : E)
  | bf (f : Bf) (a : E) | max2 (a b : E) | min2 (a b : E)
  | isi (t : Ty) (a : E) | isx (i : Nat) (c : Str)
  | idx (a i : E) | slc (a lo hi : E) | rev (a : E)
  | met (m : Mth) (a b : E)
  | comp (tg : Tg) (it c el : E)
  | range1 (a : E) | range2 (a b : E) | range3 (a b c : E) | zip (a b : E) | enum (a : E)
inductive S where
  | nil | cons (s r : S)
  | set (i : Nat) (e : E)
  | set2 (i j : Nat) (e : E)
  | par (i j : Nat) (a b : E)
  | seti (i : Nat) (k e : E)
  | swap (i : Nat) (a b c d : E)
  | aug (i : Nat) (o : Op) (e : E)
  | app (i : Nat) (e : E) | ext (i : Nat) (e : E) | pop (i : Nat)
  | expr (e : E) | ret (e : E) | retn
  | ite (c : E) (a b : S) | whl (c : E) (b : S) | for_ (tg : Tg) (it : E) (b : S)
  | raise (c : Str) | tryx (b : S) (x : Str) (i : Option Nat) (su : S)
  | pass
inductive Slot where
  | un | val (d : D) | own (ds : List D) | exc (c : Str)
abbrev REnv := List Slot
/-- a new list; the list that slot i owns; (of what a loop walks alone) with lists that those slots own; any other -/
inductive Kd where
  | fresh | own (i : Nat) | via (l : List Nat) | plain
  deriving DecidableEq
/-- what an expression gives: the kind, the owned slots that its items (a plain one: it) may reach, the value; or an exception -/
inductive Rs where
  | ok (k : Kd) (dep : List Nat) (d : D) | ex (c : Str)
def Kd.cont : Kd → List Nat
  | .own i => [i]
  | .via l => l
  | _ => []
def Kd.tot (k : Kd) (dep : List Nat) : List Nat := k.cont ++ dep
/-- what a def gives -/
inductive Rf where
  | ret (d : D) | lst (l : List D) | ex (c : Str)
inductive SR where
  | nx (ρ : REnv) | rt (d : D) | rl (l : List D) | ex (c : Str) (ρ : REnv)
abbrev Fn := List D → Option Rf
structure G where
  fns : List (Str × Fn)
  consts : List (Str × D)
  isx : List ((Str × Str) × Bool)
  exm : List ((Str × Str) × Bool)
  rai : List Str
  fuel : Nat

def atom : D → Bool
  | .list _ => false
  | .tuple _ => false
  | _ => true
def flat1 : D → Bool
  | .list _ => false
  | .tuple l => l.all atom
  | .dict _ => false
  | _ => true
/-- no list within -/
def flat : D → Bool
  | .list _ => false
  | .tuple l => l.all flat1
  | .dict _ => false
  | _ => true
def depF (d : D) (dep : List Nat) : List Nat := if flat d then [] else dep
def depL (l : List D) (dep : List Nat) : List Nat := if l.all flat then [] else dep
def depOf (d : D) (dep : List Nat) : List Nat := if atom d then [] else dep
def truth : D → Option Bool
  | .none => some false
  | .bool b => some b
  | .int i => some (i != 0)
  | .str s => if s.length ≤ sizeLine then some ((s.length : Int) != 0) else none
  | .list l => some (!l.isEmpty)
  | .tuple l => some (!l.isEmpty)
  | .dict _ => none
def ib (i : Int) (n : Nat) : Prop := Builtin.Int.intBits i ≤ n
def mulOk (i j : Int) : Bool := Nat.blt i.natAbs 18446744073709551616 || Nat.blt j.natAbs 18446744073709551616
/-- a op b: the kind, the value; ka: the left one's kind -/
def binop (ka : Kd) (o : Op) (a b : D) : Option (Kd × D) := match o, a, b with
  | .add, .int i, .int j => some (.plain, .int (i + j))
  | .add, .tuple l, .tuple m => if l.length + m.length ≤ sizeLine then some (.plain, .tuple (l ++ m)) else none
  | .add, .list l, .list m => if l.length + m.length ≤ sizeLine then some (.fresh, .list (l ++ m)) else none
  | .add, .str l, .str m => if l.length + m.length ≤ sizeLine then some (.plain, .str (l ++ m)) else none
  | .sub, .int i, .int j => some (.plain, .int (i - j))
  | .mul, .int i, .int j => if mulOk i j = true then some (.plain, .int (i * j)) else none
  | .mul, .tuple l, .int k => if l.length ≤ 1000 ∧ k ≤ 1000 ∧ -1000 ≤ k then some (.plain, .tuple (List.replicate k.toNat l).flatten) else none
  | .mul, .list l, .int k => if ka = .fresh ∧ l.length ≤ 1000 ∧ k ≤ 1000 ∧ -1000 ≤ k then some (.fresh, .list (List.replicate k.toNat l).flatten) else none
  | .mod, .int i, .int j => if 0 < j then some (.plain, .int (i % j)) else none
  | .fdiv, .int i, .int j => if 0 < j ∧ j < 1073741824 then some (.plain, .int (i / j)) else none
  | .pow, .int i, .int j => if 0 ≤ j ∧ (Builtin.Int.intBits i : Int) * j ≤ 134217728 then some (.plain, .int (i ^ j.toNat)) else none
  | _, _, _ => none
def memD (x : D) (l : List D) : Bool := l.any fun y => PyData.eqv y x
def cmpop (c : Cm) (a b : D) : Option Bool := match c with
  | .eq => if SeqAt.shaped a && SeqAt.shaped b then some (PyData.eqv a b) else none
  | .ne => if SeqAt.shaped a && SeqAt.shaped b then some (!PyData.eqv a b) else none
  | .lt => match a, b with | .int i, .int j => some (decide (i < j)) | _, _ => none
  | .le => match a, b with | .int i, .int j => some (decide (i ≤ j)) | _, _ => none
  | .gt => match a, b with | .int i, .int j => some (decide (j < i)) | _, _ => none
  | .ge => match a, b with | .int i, .int j => some (decide (j ≤ i)) | _, _ => none
  | .isn => match b with | .none => some (match a with | .none => true | _ => false) | _ => none
  | .notn => match b with | .none => some (match a with | .none => false | _ => true) | _ => none
  | .inn => match b with
    | .list l => if SeqAt.shaped a && SeqAt.shaped (.list l) then some (memD a l) else none
    | .tuple l => if SeqAt.shaped a && SeqAt.shaped (.tuple l) then some (memD a l) else none
    | .str z => match a with | .str y => if y.cps.size = 1 then some (decide (y.cps.getD 0 0 ∈ z.cps.toList)) else none | _ => none
    | _ => none
  | .nin => match b with
    | .list l => if SeqAt.shaped a && SeqAt.shaped (.list l) then some (!memD a l) else none
    | .tuple l => if SeqAt.shaped a && SeqAt.shaped (.tuple l) then some (!memD a l) else none
    | .str z => match a with | .str y => if y.cps.size = 1 then some (!decide (y.cps.getD 0 0 ∈ z.cps.toList)) else none | _ => none
    | _ => none
def isType (t : Ty) (d : D) : Bool := match t, d with
  | .int, .int _ => true
  | .int, .bool _ => true
  | .bool, .bool _ => true
  | .tuple, .tuple _ => true
  | .list, .list _ => true
  | .str, .str _ => true
  | _, _ => false
/-- a place in a sequence of that length -/
def place (n : Nat) (i : Int) : Option Nat := if 0 ≤ i then (if i < n then some i.toNat else none) else if 0 ≤ i + n then some (i + n).toNat else none
def getAt (d : D) (i : Int) : Option D := match d with
  | .list l => (place l.length i).bind (l[·]?)
  | .tuple l => (place l.length i).bind (l[·]?)
  | .str z => if z.length ≤ sizeLine then (place z.length i).bind fun k => (z.cps.toList[k]?).map fun c => .str ⟨#[c]⟩ else none
  | _ => none
def sBound (n dflt : Nat) : Option Int → Nat
  | none => dflt
  | some v => if v < 0 then (v + (n : Int)).toNat else min v.toNat n
def cut {α : Type} (l : List α) (lo hi : Option Int) : List α := (l.drop (sBound l.length 0 lo)).take (sBound l.length l.length hi - sBound l.length 0 lo)
def cutD (d : D) (lo hi : Option Int) : Option (Kd × D) := match d with
  | .list l => some (.fresh, .list (cut l lo hi))
  | .tuple l => some (.plain, .tuple (cut l lo hi))
  | .str z => if z.length ≤ sizeLine then some (.plain, .str ⟨(cut z.cps.toList lo hi).toArray⟩) else none
  | _ => none
def revD (d : D) : Option (Kd × D) := match d with
  | .list l => some (.fresh, .list l.reverse)
  | .tuple l => some (.plain, .tuple l.reverse)
  | _ => none
def intsOf : List D → Option (List Int)
  | [] => some []
  | .int i :: r => (intsOf r).map (i :: ·)
  | _ :: _ => none
def bfun (f : Bf) (d : D) : Option (Kd × D) := match f, d with
  | .len, .list l => some (.plain, .int l.length)
  | .len, .tuple l => some (.plain, .int l.length)
  | .len, .str z => if z.length ≤ sizeLine then some (.plain, .int z.length) else none
  | .int, .int i => some (.plain, .int i)
  | .int, .bool b => some (.plain, .int (if b then 1 else 0))
  | .str, .int i => if i.natAbs.log2 < 1920 then some (.plain, .str (toString i)) else none
  | .tuple, .list l => some (.plain, .tuple l)
  | .tuple, .tuple l => some (.plain, .tuple l)
  | .list, .list l => some (.fresh, .list l)
  | .list, .tuple l => some (.fresh, .list l)
  | .sum, .list l => (intsOf l).map fun ns => (.plain, .int ns.sum)
  | _, _ => none
def strsOf : List D → Option (List Str)
  | [] => some []
  | .str z :: r => (strsOf r).map (z :: ·)
  | _ :: _ => none
def firstAt (x : D) : List D → Nat → Option Nat
  | [], _ => none
  | y :: r, k => if PyData.eqv y x then some k else firstAt x r (k + 1)
def recv (m : Mth) (d : D) : Bool := match m, d with
  | .sindex, .str _ => true
  | .join, .str _ => true
  | .lindex, .list _ => true
  | .lcount, .list _ => true
  | _, _ => false
def meth (m : Mth) (a b : D) : Option D := match m, a, b with
  | .lindex, .list l, x => if SeqAt.shaped x && SeqAt.shaped (.list l) then (firstAt x l 0).map fun k => .int k else none
  | .sindex, .str x, .str y => (Builtin.Str.occurrences x y 0 x.length 1).head?.map fun i => .int (i : Nat)
  | .join, .str x, .list l => (strsOf l).bind fun ys => if (ys.map (·.length)).sum + ys.length * x.length ≤ 16777216 then some (.str (Txt.join x ys)) else none
  | .lcount, .list l, .int k => (intsOf l).map fun ns => .int (ns.count k : Nat)
  | _, _, _ => none
def chars (z : Str) : List D := z.cps.toList.map fun c => .str ⟨#[c]⟩
def small (i : Int) : Bool := Nat.blt i.natAbs 4611686018427387904
def rangeD (lo : Int) (n : Nat) : List D := (List.range n).map fun (k : Nat) => .int (lo + k)
/-- lo, lo - 1, .. above hi -/
def rangeDown (lo : Int) (n : Nat) : List D := (List.range n).map fun (k : Nat) => .int (lo - k)
def disownAll (dep : List Nat) (ρ : REnv) : REnv := ρ.mapIdx fun i s => match s with
  | .own ds => if dep.contains i then .val (.list ds) else .own ds
  | s => s
def disown (dep : List Nat) (ρ : REnv) : REnv := match dep with
  | [] => ρ
  | _ => disownAll dep ρ
def put (ρ : REnv) (i : Nat) (k : Kd) (dep : List Nat) (d : D) : REnv := match k, dep, d with
  | .fresh, [], .list ds => ρ.set i (.own ds)
  | k, dep, d => (disown (k.tot dep) ρ).set i (.val d)
def bindT (tg : Tg) (d : D) (ρ : REnv) : Option REnv := match tg, d with
  | .one i, d => if i < ρ.length then some (ρ.set i (.val d)) else none
  | .two i j, .tuple [x, y] => if i < ρ.length ∧ j < ρ.length then some ((ρ.set i (.val x)).set j (.val y)) else none
  | _, _ => none
def Tg.wipe (tg : Tg) (ρ : REnv) : REnv := match tg with
  | .one i => ρ.set i .un
  | .two i j => (ρ.set j .un).set i .un
/-- a comprehension's turns: no exception may leave -/
def compL (f : D → Option (Option D)) : List D → Option (List D)
  | [] => some []
  | d :: r => match f d with
    | none => none
    | some none => compL f r
    | some (some y) => (compL f r).map (y :: ·)
def Rs.map2 (x : Option Rs) (k : Kd → List Nat → D → Option Rs) : Option Rs := match x with
  | some (.ok kd dep d) => k kd dep d
  | some (.ex c) => some (.ex c)
  | none => none

def items : D → Option (List D)
  | .list l => some l
  | .tuple l => some l
  | .str z => some (chars z)
  | _ => none
def part (d : Option Rs) (k : Option Int → Option Rs) : Option Rs := match d with
  | some (.ok _ _ (.int i)) => k (some i)
  | some (.ok _ _ _) => none
  | some (.ex c) => some (.ex c)
  | none => none
def isMiss : E → Bool
  | .miss => true
  | _ => false
def pairs : List D → List D → List D
  | x :: xs, y :: ys => .tuple [x, y] :: pairs xs ys
  | _, _ => []
def enumD : List D → Nat → List D
  | [], _ => []
  | x :: r, k => .tuple [.int k, x] :: enumD r (k + 1)
def rng1 (x : D) : Option Rs := match x with
  | .int n => if small n then some (.ok .plain [] (.list (rangeD 0 n.toNat))) else none
  | _ => none
def rng2 (x y : D) : Option Rs := match x, y with
  | .int m, .int n => if small m && small n then some (.ok .plain [] (.list (rangeD m (n - m).toNat))) else none
  | _, _ => none
def rng3 (x y z : D) : Option Rs := match x, y, z with
  | .int m, .int n, .int k => if k = -1 ∧ (small m && small n) = true then some (.ok .plain [] (.list (rangeDown m (m - n).toNat))) else none
  | _, _, _ => none
def zipR (ka : Kd) (da : List Nat) (x : D) (kb : Kd) (db : List Nat) (y : D) : Option Rs := match x, y with
  | .list xs, .list ys => some (.ok (.via (ka.cont ++ kb.cont)) (da ++ db) (.list (pairs xs ys)))
  | .tuple xs, .tuple ys => some (.ok (.via []) (da ++ db) (.list (pairs xs ys)))
  | _, _ => none
def enumR (ka : Kd) (da : List Nat) (x : D) : Option Rs := match x with
  | .list xs => some (.ok (.via ka.cont) da (.list (enumD xs 0)))
  | .tuple xs => some (.ok (.via ka.cont) da (.list (enumD xs 0)))
  | _ => none
def notOwn (ρ : REnv) (i : Nat) : Bool := match ρ[i]? with
  | some (.own _) => false
  | _ => true
def tgFree (tg : Tg) (ρ : REnv) : Bool := match tg with
  | .one i => notOwn ρ i
  | .two i j => notOwn ρ i && notOwn ρ j
def noExc (ρ : REnv) : Bool := ρ.all fun s => match s with
  | .exc _ => false
  | _ => true
def compE (el : REnv → Option Rs) (ρ1 : REnv) : Option (Option D) := match el ρ1 with
  | some (.ok k p y) => if k.tot p = [] then some (some y) else none
  | _ => none
def compF (c el : REnv → Option Rs) (miss : Bool) (tg : Tg) (ρ : REnv) (d : D) : Option (Option D) := match bindT tg d (tg.wipe ρ) with
  | none => none
  | some ρ1 => if miss then compE el ρ1 else match c ρ1 with
    | some (.ok _ _ t) => match truth t with
      | some true => compE el ρ1
      | some false => some none
      | none => none
    | _ => none
noncomputable section
variable (g : G)
def evC_var (i : Nat) : REnv → Option Rs := fun ρ => match ρ[i]? with
    | some (.val d) => some (.ok .plain [] d)
    | some (.own ds) => some (.ok (.own i) [] (.list ds))
    | _ => none
def evC_glob (x : Str) : REnv → Option Rs := fun _ => (g.consts.lookup x).map fun d => .ok .plain [] d
def evC_int (n : Int) : REnv → Option Rs := fun _ => some (.ok .plain [] (.int n))
def evC_bl (b : Bool) : REnv → Option Rs := fun _ => some (.ok .plain [] (.bool b))
def evC_non  : REnv → Option Rs := fun _ => some (.ok .plain [] .none)
def evC_str (s : Str) : REnv → Option Rs := fun _ => some (.ok .plain [] (.str s))
def evC_miss  : REnv → Option Rs := fun _ => none
def evC_bin (o : Op) (a : REnv → Option Rs) (b : REnv → Option Rs) : REnv → Option Rs := fun ρ => Rs.map2 (a ρ) fun ka da x => Rs.map2 (b ρ) fun _ db y => (binop ka o x y).map fun r => .ok r.1 (depOf r.2 (da ++ db)) r.2
def evC_neg (a : REnv → Option Rs) : REnv → Option Rs := fun ρ => Rs.map2 (a ρ) fun _ _ x => match x with
    | .int i => some (.ok .plain [] (.int (-i)))
    | _ => none
def evC_cmp (c : Cm) (a : REnv → Option Rs) (b : REnv → Option Rs) : REnv → Option Rs := fun ρ => Rs.map2 (a ρ) fun _ _ x => Rs.map2 (b ρ) fun _ _ y => (cmpop c x y).map fun r => .ok .plain [] (.bool r)
def evC_cmp2 (c : Cm) (c' : Cm) (a : REnv → Option Rs) (b : REnv → Option Rs) (d : REnv → Option Rs) : REnv → Option Rs := fun ρ => Rs.map2 (a ρ) fun _ _ x => Rs.map2 (b ρ) fun _ _ y => (cmpop c x y).bind fun r => if r = true then Rs.map2 (d ρ) fun _ _ z => (cmpop c' y z).map fun r => .ok .plain [] (.bool r) else some (.ok .plain [] (.bool false))
def evC_land (a : REnv → Option Rs) (r : REnv → Option Rs) : REnv → Option Rs := fun ρ => Rs.map2 (a ρ) fun ka da x => (truth x).bind fun t => if t = true then r ρ else some (.ok .plain (ka.tot da) x)
def evC_lor (a : REnv → Option Rs) (r : REnv → Option Rs) : REnv → Option Rs := fun ρ => Rs.map2 (a ρ) fun ka da x => (truth x).bind fun t => if t = true then some (.ok .plain (ka.tot da) x) else r ρ
def evC_one (a : REnv → Option Rs) : REnv → Option Rs := fun ρ => a ρ
def evC_not (a : REnv → Option Rs) : REnv → Option Rs := fun ρ => Rs.map2 (a ρ) fun _ _ x => (truth x).map fun t => .ok .plain [] (.bool (!t))
def evC_ife (c : REnv → Option Rs) (a : REnv → Option Rs) (b : REnv → Option Rs) : REnv → Option Rs := fun ρ => Rs.map2 (c ρ) fun _ _ x => (truth x).bind fun t => if t = true then a ρ else b ρ
def evC_nil  : REnv → Option Rs := fun _ => some (.ok .plain [] (.tuple []))
def evC_cons (a : REnv → Option Rs) (r : REnv → Option Rs) : REnv → Option Rs := fun ρ => Rs.map2 (a ρ) fun ka da x => Rs.map2 (r ρ) fun _ db y => match y with
    | .tuple ys => some (.ok .plain (depF x (ka.tot da) ++ db) (.tuple (x :: ys)))
    | _ => none
def evC_tup (as : REnv → Option Rs) : REnv → Option Rs := fun ρ => Rs.map2 (as ρ) fun _ da x => match x with
    | .tuple xs => if xs.length ≤ sizeLine then some (.ok .plain da (.tuple xs)) else none
    | _ => none
def evC_lst (as : REnv → Option Rs) : REnv → Option Rs := fun ρ => Rs.map2 (as ρ) fun _ da x => match x with
    | .tuple xs => if xs.length ≤ sizeLine then some (.ok .fresh da (.list xs)) else none
    | _ => none
def evC_call (k : Nat) (as : REnv → Option Rs) : REnv → Option Rs := fun ρ => Rs.map2 (as ρ) fun _ da x => match x, g.fns[k]? with
    | .tuple xs, some f => match f.2 xs with
      | some (.ret d) => some (.ok .plain (depF d da) d)
      | some (.lst l) => some (.ok .fresh (depL l da) (.list l))
      | some (.ex c) => some (.ex c)
      | none => none
    | _, _ => none
def evC_bf (f : Bf) (a : REnv → Option Rs) : REnv → Option Rs := fun ρ => Rs.map2 (a ρ) fun _ da x => (bfun f x).map fun r => .ok r.1 (depOf r.2 da) r.2
def evC_max2 (a : REnv → Option Rs) (b : REnv → Option Rs) : REnv → Option Rs := fun ρ => Rs.map2 (a ρ) fun _ _ x => Rs.map2 (b ρ) fun _ _ y => match x, y with
    | .int i, .int j => some (.ok .plain [] (.int (if j > i then j else i)))
    | _, _ => none
def evC_min2 (a : REnv → Option Rs) (b : REnv → Option Rs) : REnv → Option Rs := fun ρ => Rs.map2 (a ρ) fun _ _ x => Rs.map2 (b ρ) fun _ _ y => match x, y with
    | .int i, .int j => some (.ok .plain [] (.int (if j < i then j else i)))
    | _, _ => none
def evC_isi (t : Ty) (a : REnv → Option Rs) : REnv → Option Rs := fun ρ => Rs.map2 (a ρ) fun _ _ x => some (.ok .plain [] (.bool (isType t x)))
def evC_isx (i : Nat) (c : Str) : REnv → Option Rs := fun ρ => match ρ[i]? with
    | some (.exc x) => (g.isx.lookup (x, c)).map fun b => .ok .plain [] (.bool b)
    | _ => none
def evC_idx (a : REnv → Option Rs) (i : REnv → Option Rs) : REnv → Option Rs := fun ρ => Rs.map2 (a ρ) fun _ da x => Rs.map2 (i ρ) fun _ _ y => match y with
    | .int k => (getAt x k).map fun d => .ok .plain (depF d da) d
    | _ => none
def evC_slc (a : REnv → Option Rs) (lo : REnv → Option Rs) (hi : REnv → Option Rs) (mlo : Bool) (mhi : Bool) : REnv → Option Rs := fun ρ => Rs.map2 (a ρ) fun _ da x =>
    let k1 := fun (l : Option Int) =>
      let k2 := fun (h : Option Int) => (cutD x l h).map fun r => .ok r.1 (depOf r.2 da) r.2
      if mhi then k2 none else part (hi ρ) k2
    if mlo then k1 none else part (lo ρ) k1
def evC_rev (a : REnv → Option Rs) : REnv → Option Rs := fun ρ => Rs.map2 (a ρ) fun _ da x => (revD x).map fun r => .ok r.1 (depOf r.2 da) r.2
def evC_met (m : Mth) (a : REnv → Option Rs) (b : REnv → Option Rs) : REnv → Option Rs := fun ρ => Rs.map2 (a ρ) fun _ _ x => if recv m x then Rs.map2 (b ρ) fun _ _ y => (meth m x y).map fun d => .ok .plain [] d else none
def evC_comp (tg : Tg) (it : REnv → Option Rs) (c : REnv → Option Rs) (el : REnv → Option Rs) (mc : Bool) : REnv → Option Rs := fun ρ => Rs.map2 (it ρ) fun _ di x => match items x, di with
    | some xs, [] => if (tgFree tg ρ && noExc ρ) = true then (compL (compF (c) (el) (mc) tg ρ) xs).bind fun ys => if ys.length ≤ sizeLine then some (.ok .fresh [] (.list ys)) else none else none
    | _, _ => none
def evC_range1 (a : REnv → Option Rs) : REnv → Option Rs := fun ρ => Rs.map2 (a ρ) fun _ _ x => rng1 x
def evC_range2 (a : REnv → Option Rs) (b : REnv → Option Rs) : REnv → Option Rs := fun ρ => Rs.map2 (a ρ) fun _ _ x => Rs.map2 (b ρ) fun _ _ y => rng2 x y
def evC_range3 (a : REnv → Option Rs) (b : REnv → Option Rs) (c : REnv → Option Rs) : REnv → Option Rs := fun ρ => Rs.map2 (a ρ) fun _ _ x => Rs.map2 (b ρ) fun _ _ y => Rs.map2 (c ρ) fun _ _ z => rng3 x y z
def evC_zip (a : REnv → Option Rs) (b : REnv → Option Rs) : REnv → Option Rs := fun ρ => Rs.map2 (a ρ) fun ka da x => Rs.map2 (b ρ) fun kb db y => zipR ka da x kb db y
def evC_enum (a : REnv → Option Rs) : REnv → Option Rs := fun ρ => Rs.map2 (a ρ) fun ka da x => enumR ka da x
noncomputable def ev (e : E) : REnv → Option Rs := E.rec (motive := fun _ => REnv → Option Rs)
  (fun i => evC_var i)
  (fun x => evC_glob g x)
  (fun n => evC_int n)
  (fun b => evC_bl b)
  (evC_non )
  (fun s => evC_str s)
  (evC_miss )
  (fun o a b ia ib => evC_bin o ia ib)
  (fun a ia => evC_neg ia)
  (fun c a b ia ib => evC_cmp c ia ib)
  (fun c c' a b d ia ib id => evC_cmp2 c c' ia ib id)
  (fun a r ia ir => evC_land ia ir)
  (fun a r ia ir => evC_lor ia ir)
  (fun a ia => evC_one ia)
  (fun a ia => evC_not ia)
  (fun c a b ic ia ib => evC_ife ic ia ib)
  (evC_nil )
  (fun a r ia ir => evC_cons ia ir)
  (fun as ias => evC_tup ias)
  (fun as ias => evC_lst ias)
  (fun k as ias => evC_call g k ias)
  (fun f a ia => evC_bf f ia)
  (fun a b ia ib => evC_max2 ia ib)
  (fun a b ia ib => evC_min2 ia ib)
  (fun t a ia => evC_isi t ia)
  (fun i c => evC_isx g i c)
  (fun a i ia ii => evC_idx ia ii)
  (fun a lo hi ia ilo ihi => evC_slc ia ilo ihi (isMiss lo) (isMiss hi))
  (fun a ia => evC_rev ia)
  (fun m a b ia ib => evC_met m ia ib)
  (fun tg it c el iit ic iel => evC_comp tg iit ic iel (isMiss c))
  (fun a ia => evC_range1 ia)
  (fun a b ia ib => evC_range2 ia ib)
  (fun a b c ia ib ic => evC_range3 ia ib ic)
  (fun a b ia ib => evC_zip ia ib)
  (fun a ia => evC_enum ia) e
def forL (tg : Tg) (body : REnv → Option SR) : List D → REnv → Option SR
  | [], ρ => some (.nx ρ)
  | d :: r, ρ => match bindT tg d ρ with
    | none => none
    | some ρ1 => match body ρ1 with
      | some (.nx ρ2) => forL tg body r ρ2
      | x => x
def whileL (c : REnv → Option Rs) (body : REnv → Option SR) : Nat → REnv → Option SR
  | 0, _ => none
  | n + 1, ρ => match c ρ with
    | some (.ok _ _ t) => match truth t with
      | some true => match body ρ with
        | some (.nx ρ2) => whileL c body n ρ2
        | x => x
      | some false => some (.nx ρ)
      | none => none
    | some (.ex x) => some (.ex x ρ)
    | none => none
def toS (ρ : REnv) (x : Option Rs) (k : Kd → List Nat → D → Option SR) : Option SR := match x with
  | some (.ok fr dep d) => k fr dep d
  | some (.ex c) => some (.ex c ρ)
  | none => none
/-- a list just made, or owned, is told as new -/
def retOf (k : Kd) (dep : List Nat) (d : D) : SR := match k, dep, d with
  | .fresh, _, .list l => .rl l
  | .own _, [], .list l => .rl l
  | _, _, d => .rt d
def setIx (l : List D) (i : Int) (d : D) : Option (List D) := (place l.length i).map fun k => l.set k d
def exC_nil  : REnv → Option SR := fun ρ => some (.nx ρ)
def exC_cons (s : REnv → Option SR) (r : REnv → Option SR) : REnv → Option SR := fun ρ => match s ρ with
    | some (.nx ρ1) => r ρ1
    | x => x
def exC_set (i : Nat) (e : REnv → Option Rs) : REnv → Option SR := fun ρ => toS ρ (e ρ) fun fr dep d => if i < ρ.length then some (.nx (put ρ i fr dep d)) else none
def exC_set2 (i : Nat) (j : Nat) (e : REnv → Option Rs) : REnv → Option SR := fun ρ => toS ρ (e ρ) fun k dep d => match d with
    | .tuple [x, y] => if i < ρ.length ∧ j < ρ.length ∧ k.tot dep = [] then some (.nx ((ρ.set i (.val x)).set j (.val y))) else none
    | _ => none
def exC_par (i : Nat) (j : Nat) (a : REnv → Option Rs) (b : REnv → Option Rs) : REnv → Option SR := fun ρ => toS ρ (a ρ) fun ka da x => toS ρ (b ρ) fun kb db y => if i < ρ.length ∧ j < ρ.length ∧ i ≠ j ∧ ka.tot da = [] ∧ kb.tot db = [] then some (.nx ((ρ.set i (.val x)).set j (.val y))) else none
def exC_seti (i : Nat) (k : REnv → Option Rs) (e : REnv → Option Rs) : REnv → Option SR := fun ρ => match ρ[i]? with
    | some (.own ds) => toS ρ (e ρ) fun ke de d => toS ρ (k ρ) fun _ _ kd => match kd with
      | .int n => if ke.tot de = [] then (setIx ds n d).map fun ds' => .nx (ρ.set i (.own ds')) else none
      | _ => none
    | _ => none
def exC_swap (i : Nat) (a : REnv → Option Rs) (b : REnv → Option Rs) (c : REnv → Option Rs) (d : REnv → Option Rs) : REnv → Option SR := fun ρ => match ρ[i]? with
    | some (.own ds) => toS ρ (c ρ) fun k1 d1 x => toS ρ (d ρ) fun k2 d2 y => toS ρ (a ρ) fun _ _ ka => match ka with
      | .int m => if k1.tot d1 = [] ∧ k2.tot d2 = [] then (setIx ds m x).bind fun ds1 => toS (ρ.set i (.own ds1)) (b (ρ.set i (.own ds1))) fun _ _ kb => match kb with
        | .int n => (setIx ds1 n y).map fun ds2 => .nx (ρ.set i (.own ds2))
        | _ => none else none
      | _ => none
    | _ => none
def exC_aug (i : Nat) (o : Op) (e : REnv → Option Rs) : REnv → Option SR := fun ρ => match ρ[i]? with
    | some (.val x) => toS ρ (e ρ) fun _ _ y => match x, y with
      | .int _, .int _ => (binop .plain o x y).map fun r => .nx (ρ.set i (.val r.2))
      | _, _ => none
    | _ => none
def exC_app (i : Nat) (e : REnv → Option Rs) : REnv → Option SR := fun ρ => match ρ[i]? with
    | some (.own ds) => toS ρ (e ρ) fun ke de d => if ke.tot de = [] ∧ ds.length < sizeLine then some (.nx (ρ.set i (.own (ds ++ [d])))) else none
    | _ => none
def exC_ext (i : Nat) (e : REnv → Option Rs) : REnv → Option SR := fun ρ => match ρ[i]? with
    | some (.own ds) => toS ρ (e ρ) fun ke de d => match d with
      | .list es => if ke = .fresh ∧ de = [] ∧ ds.length + es.length ≤ sizeLine then some (.nx (ρ.set i (.own (ds ++ es)))) else none
      | _ => none
    | _ => none
def exC_pop (i : Nat) : REnv → Option SR := fun ρ => match ρ[i]? with
    | some (.own ds) => if ds ≠ [] then some (.nx (ρ.set i (.own ds.dropLast))) else none
    | _ => none
def exC_expr (e : REnv → Option Rs) : REnv → Option SR := fun ρ => toS ρ (e ρ) fun _ _ _ => some (.nx ρ)
def exC_ret (e : REnv → Option Rs) : REnv → Option SR := fun ρ => toS ρ (e ρ) fun k dep d => some (retOf k dep d)
def exC_retn  : REnv → Option SR := fun _ => some (.rt .none)
def exC_ite (c : REnv → Option Rs) (a : REnv → Option SR) (b : REnv → Option SR) : REnv → Option SR := fun ρ => toS ρ (c ρ) fun _ _ x => match truth x with
    | some true => a ρ
    | some false => b ρ
    | none => none
def exC_whl (c : REnv → Option Rs) (b : REnv → Option SR) : REnv → Option SR := fun ρ => whileL (c) (b) g.fuel ρ
def exC_for_ (tg : Tg) (it : REnv → Option Rs) (b : REnv → Option SR) : REnv → Option SR := fun ρ => match it ρ with
    | some (.ok k dep x) => match items x with
      | some xs => forL tg (b) xs (disown (k.tot dep) ρ)
      | none => none
    | some (.ex c) => some (.ex c ρ)
    | none => none
def exC_raise (c : Str) : REnv → Option SR := fun ρ => some (.ex c ρ)
def exC_tryx (b : REnv → Option SR) (x : Str) (i : Option Nat) (su : REnv → Option SR) : REnv → Option SR := fun ρ => match b ρ with
    | some (.ex c ρ1) => match g.exm.lookup (c, x) with
      | some true => match i with
        | some j => if j < ρ1.length then (match su (ρ1.set j (.exc c)) with
          | some (.nx ρ2) => if noExc (ρ2.set j .un) = true ∧ j < ρ2.length then some (.nx (ρ2.set j .un)) else none
          | some (.rt d) => some (.rt d)
          | some (.rl d) => some (.rl d)
          | _ => none) else none
        | none => match su ρ1 with
          | some (.nx ρ2) => if noExc ρ2 = true then some (.nx ρ2) else none
          | some (.rt d) => some (.rt d)
          | some (.rl d) => some (.rl d)
          | _ => none
      | some false => some (.ex c ρ1)
      | none => none
    | r => r
def exC_pass  : REnv → Option SR := fun ρ => some (.nx ρ)
noncomputable def ex (e : S) : REnv → Option SR := S.rec (motive := fun _ => REnv → Option SR)
  (exC_nil )
  (fun s r is ir => exC_cons is ir)
  (fun i e => exC_set i (ev g e))
  (fun i j e => exC_set2 i j (ev g e))
  (fun i j a b => exC_par i j (ev g a) (ev g b))
  (fun i k e => exC_seti i (ev g k) (ev g e))
  (fun i a b c d => exC_swap i (ev g a) (ev g b) (ev g (.idx (.var i) c)) (ev g (.idx (.var i) d)))
  (fun i o e => exC_aug i o (ev g e))
  (fun i e => exC_app i (ev g e))
  (fun i e => exC_ext i (ev g e))
  (fun i => exC_pop i)
  (fun e => exC_expr (ev g e))
  (fun e => exC_ret (ev g e))
  (exC_retn )
  (fun c a b ia ib => exC_ite (ev g c) ia ib)
  (fun c b ib => exC_whl g (ev g c) ib)
  (fun tg it b ib => exC_for_ tg (ev g it) ib)
  (fun c => exC_raise c)
  (fun b x i su ib isu => exC_tryx g ib x i isu)
  (exC_pass ) e
end
end Vi

set_option maxRecDepth 100000
namespace Vi
open PySem
/-! ### the short forms' equations -/
@[simp] theorem evE_var {g : G} {i : Nat} {ρ : REnv} : ev g (.var i) ρ = (match ρ[i]? with
    | some (.val d) => some (.ok .plain [] d)
    | some (.own ds) => some (.ok (.own i) [] (.list ds))
    | _ => none) := rfl
@[simp] theorem evE_glob {g : G} {x : Str} {ρ : REnv} : ev g (.glob x) ρ = ((g.consts.lookup x).map fun d => .ok .plain [] d) := rfl
@[simp] theorem evE_int {g : G} {n : Int} {ρ : REnv} : ev g (.int n) ρ = (some (.ok .plain [] (.int n))) := rfl
@[simp] theorem evE_bl {g : G} {b : Bool} {ρ : REnv} : ev g (.bl b) ρ = (some (.ok .plain [] (.bool b))) := rfl
@[simp] theorem evE_non {g : G}  {ρ : REnv} : ev g (.non) ρ = (some (.ok .plain [] .none)) := rfl
@[simp] theorem evE_str {g : G} {s : Str} {ρ : REnv} : ev g (.str s) ρ = (some (.ok .plain [] (.str s))) := rfl
@[simp] theorem evE_miss {g : G}  {ρ : REnv} : ev g (.miss) ρ = (none) := rfl
@[simp] theorem evE_bin {g : G} {o : Op} {a : E} {b : E} {ρ : REnv} : ev g (.bin o a b) ρ = (Rs.map2 (ev g a ρ) fun ka da x => Rs.map2 (ev g b ρ) fun _ db y => (binop ka o x y).map fun r => .ok r.1 (depOf r.2 (da ++ db)) r.2) := rfl
@[simp] theorem evE_neg {g : G} {a : E} {ρ : REnv} : ev g (.neg a) ρ = (Rs.map2 (ev g a ρ) fun _ _ x => match x with
    | .int i => some (.ok .plain [] (.int (-i)))
    | _ => none) := rfl
@[simp] theorem evE_cmp {g : G} {c : Cm} {a : E} {b : E} {ρ : REnv} : ev g (.cmp c a b) ρ = (Rs.map2 (ev g a ρ) fun _ _ x => Rs.map2 (ev g b ρ) fun _ _ y => (cmpop c x y).map fun r => .ok .plain [] (.bool r)) := rfl
@[simp] theorem evE_cmp2 {g : G} {c : Cm} {c' : Cm} {a : E} {b : E} {d : E} {ρ : REnv} : ev g (.cmp2 c c' a b d) ρ = (Rs.map2 (ev g a ρ) fun _ _ x => Rs.map2 (ev g b ρ) fun _ _ y => (cmpop c x y).bind fun r => if r = true then Rs.map2 (ev g d ρ) fun _ _ z => (cmpop c' y z).map fun r => .ok .plain [] (.bool r) else some (.ok .plain [] (.bool false))) := rfl
@[simp] theorem evE_land {g : G} {a : E} {r : E} {ρ : REnv} : ev g (.land a r) ρ = (Rs.map2 (ev g a ρ) fun ka da x => (truth x).bind fun t => if t = true then ev g r ρ else some (.ok .plain (ka.tot da) x)) := rfl
@[simp] theorem evE_lor {g : G} {a : E} {r : E} {ρ : REnv} : ev g (.lor a r) ρ = (Rs.map2 (ev g a ρ) fun ka da x => (truth x).bind fun t => if t = true then some (.ok .plain (ka.tot da) x) else ev g r ρ) := rfl
@[simp] theorem evE_one {g : G} {a : E} {ρ : REnv} : ev g (.one a) ρ = (ev g a ρ) := rfl
@[simp] theorem evE_not {g : G} {a : E} {ρ : REnv} : ev g (.not a) ρ = (Rs.map2 (ev g a ρ) fun _ _ x => (truth x).map fun t => .ok .plain [] (.bool (!t))) := rfl
@[simp] theorem evE_ife {g : G} {c : E} {a : E} {b : E} {ρ : REnv} : ev g (.ife c a b) ρ = (Rs.map2 (ev g c ρ) fun _ _ x => (truth x).bind fun t => if t = true then ev g a ρ else ev g b ρ) := rfl
@[simp] theorem evE_nil {g : G}  {ρ : REnv} : ev g (.nil) ρ = (some (.ok .plain [] (.tuple []))) := rfl
@[simp] theorem evE_cons {g : G} {a : E} {r : E} {ρ : REnv} : ev g (.cons a r) ρ = (Rs.map2 (ev g a ρ) fun ka da x => Rs.map2 (ev g r ρ) fun _ db y => match y with
    | .tuple ys => some (.ok .plain (depF x (ka.tot da) ++ db) (.tuple (x :: ys)))
    | _ => none) := rfl
@[simp] theorem evE_tup {g : G} {as : E} {ρ : REnv} : ev g (.tup as) ρ = (Rs.map2 (ev g as ρ) fun _ da x => match x with
    | .tuple xs => if xs.length ≤ sizeLine then some (.ok .plain da (.tuple xs)) else none
    | _ => none) := rfl
@[simp] theorem evE_lst {g : G} {as : E} {ρ : REnv} : ev g (.lst as) ρ = (Rs.map2 (ev g as ρ) fun _ da x => match x with
    | .tuple xs => if xs.length ≤ sizeLine then some (.ok .fresh da (.list xs)) else none
    | _ => none) := rfl
@[simp] theorem evE_call {g : G} {k : Nat} {as : E} {ρ : REnv} : ev g (.call k as) ρ = (Rs.map2 (ev g as ρ) fun _ da x => match x, g.fns[k]? with
    | .tuple xs, some f => match f.2 xs with
      | some (.ret d) => some (.ok .plain (depF d da) d)
      | some (.lst l) => some (.ok .fresh (depL l da) (.list l))
      | some (.ex c) => some (.ex c)
      | none => none
    | _, _ => none) := rfl
@[simp] theorem evE_bf {g : G} {f : Bf} {a : E} {ρ : REnv} : ev g (.bf f a) ρ = (Rs.map2 (ev g a ρ) fun _ da x => (bfun f x).map fun r => .ok r.1 (depOf r.2 da) r.2) := rfl
@[simp] theorem evE_max2 {g : G} {a : E} {b : E} {ρ : REnv} : ev g (.max2 a b) ρ = (Rs.map2 (ev g a ρ) fun _ _ x => Rs.map2 (ev g b ρ) fun _ _ y => match x, y with
    | .int i, .int j => some (.ok .plain [] (.int (if j > i then j else i)))
    | _, _ => none) := rfl
@[simp] theorem evE_min2 {g : G} {a : E} {b : E} {ρ : REnv} : ev g (.min2 a b) ρ = (Rs.map2 (ev g a ρ) fun _ _ x => Rs.map2 (ev g b ρ) fun _ _ y => match x, y with
    | .int i, .int j => some (.ok .plain [] (.int (if j < i then j else i)))
    | _, _ => none) := rfl
@[simp] theorem evE_isi {g : G} {t : Ty} {a : E} {ρ : REnv} : ev g (.isi t a) ρ = (Rs.map2 (ev g a ρ) fun _ _ x => some (.ok .plain [] (.bool (isType t x)))) := rfl
@[simp] theorem evE_isx {g : G} {i : Nat} {c : Str} {ρ : REnv} : ev g (.isx i c) ρ = (match ρ[i]? with
    | some (.exc x) => (g.isx.lookup (x, c)).map fun b => .ok .plain [] (.bool b)
    | _ => none) := rfl
@[simp] theorem evE_idx {g : G} {a : E} {i : E} {ρ : REnv} : ev g (.idx a i) ρ = (Rs.map2 (ev g a ρ) fun _ da x => Rs.map2 (ev g i ρ) fun _ _ y => match y with
    | .int k => (getAt x k).map fun d => .ok .plain (depF d da) d
    | _ => none) := rfl
@[simp] theorem evE_slc {g : G} {a : E} {lo : E} {hi : E} {ρ : REnv} : ev g (.slc a lo hi) ρ = (Rs.map2 (ev g a ρ) fun _ da x =>
    let k1 := fun (l : Option Int) =>
      let k2 := fun (h : Option Int) => (cutD x l h).map fun r => .ok r.1 (depOf r.2 da) r.2
      if isMiss hi then k2 none else part (ev g hi ρ) k2
    if isMiss lo then k1 none else part (ev g lo ρ) k1) := rfl
@[simp] theorem evE_rev {g : G} {a : E} {ρ : REnv} : ev g (.rev a) ρ = (Rs.map2 (ev g a ρ) fun _ da x => (revD x).map fun r => .ok r.1 (depOf r.2 da) r.2) := rfl
@[simp] theorem evE_met {g : G} {m : Mth} {a : E} {b : E} {ρ : REnv} : ev g (.met m a b) ρ = (Rs.map2 (ev g a ρ) fun _ _ x => if recv m x then Rs.map2 (ev g b ρ) fun _ _ y => (meth m x y).map fun d => .ok .plain [] d else none) := rfl
@[simp] theorem evE_comp {g : G} {tg : Tg} {it : E} {c : E} {el : E} {ρ : REnv} : ev g (.comp tg it c el) ρ = (Rs.map2 (ev g it ρ) fun _ di x => match items x, di with
    | some xs, [] => if (tgFree tg ρ && noExc ρ) = true then (compL (compF (ev g c) (ev g el) (isMiss c) tg ρ) xs).bind fun ys => if ys.length ≤ sizeLine then some (.ok .fresh [] (.list ys)) else none else none
    | _, _ => none) := rfl
@[simp] theorem evE_range1 {g : G} {a : E} {ρ : REnv} : ev g (.range1 a) ρ = (Rs.map2 (ev g a ρ) fun _ _ x => rng1 x) := rfl
@[simp] theorem evE_range2 {g : G} {a : E} {b : E} {ρ : REnv} : ev g (.range2 a b) ρ = (Rs.map2 (ev g a ρ) fun _ _ x => Rs.map2 (ev g b ρ) fun _ _ y => rng2 x y) := rfl
@[simp] theorem evE_range3 {g : G} {a : E} {b : E} {c : E} {ρ : REnv} : ev g (.range3 a b c) ρ = (Rs.map2 (ev g a ρ) fun _ _ x => Rs.map2 (ev g b ρ) fun _ _ y => Rs.map2 (ev g c ρ) fun _ _ z => rng3 x y z) := rfl
@[simp] theorem evE_zip {g : G} {a : E} {b : E} {ρ : REnv} : ev g (.zip a b) ρ = (Rs.map2 (ev g a ρ) fun ka da x => Rs.map2 (ev g b ρ) fun kb db y => zipR ka da x kb db y) := rfl
@[simp] theorem evE_enum {g : G} {a : E} {ρ : REnv} : ev g (.enum a) ρ = (Rs.map2 (ev g a ρ) fun ka da x => enumR ka da x) := rfl
@[simp] theorem exE_nil {g : G}  {ρ : REnv} : ex g (.nil) ρ = (some (.nx ρ)) := rfl
@[simp] theorem exE_cons {g : G} {s : S} {r : S} {ρ : REnv} : ex g (.cons s r) ρ = (match ex g s ρ with
    | some (.nx ρ1) => ex g r ρ1
    | x => x) := rfl
@[simp] theorem exE_set {g : G} {i : Nat} {e : E} {ρ : REnv} : ex g (.set i e) ρ = (toS ρ (ev g e ρ) fun fr dep d => if i < ρ.length then some (.nx (put ρ i fr dep d)) else none) := rfl
@[simp] theorem exE_set2 {g : G} {i : Nat} {j : Nat} {e : E} {ρ : REnv} : ex g (.set2 i j e) ρ = (toS ρ (ev g e ρ) fun k dep d => match d with
    | .tuple [x, y] => if i < ρ.length ∧ j < ρ.length ∧ k.tot dep = [] then some (.nx ((ρ.set i (.val x)).set j (.val y))) else none
    | _ => none) := rfl
@[simp] theorem exE_par {g : G} {i : Nat} {j : Nat} {a : E} {b : E} {ρ : REnv} : ex g (.par i j a b) ρ = (toS ρ (ev g a ρ) fun ka da x => toS ρ (ev g b ρ) fun kb db y => if i < ρ.length ∧ j < ρ.length ∧ i ≠ j ∧ ka.tot da = [] ∧ kb.tot db = [] then some (.nx ((ρ.set i (.val x)).set j (.val y))) else none) := rfl
@[simp] theorem exE_seti {g : G} {i : Nat} {k : E} {e : E} {ρ : REnv} : ex g (.seti i k e) ρ = (match ρ[i]? with
    | some (.own ds) => toS ρ (ev g e ρ) fun ke de d => toS ρ (ev g k ρ) fun _ _ kd => match kd with
      | .int n => if ke.tot de = [] then (setIx ds n d).map fun ds' => .nx (ρ.set i (.own ds')) else none
      | _ => none
    | _ => none) := rfl
@[simp] theorem exE_swap {g : G} {i : Nat} {a : E} {b : E} {c : E} {d : E} {ρ : REnv} : ex g (.swap i a b c d) ρ = (match ρ[i]? with
    | some (.own ds) => toS ρ (ev g (.idx (.var i) c) ρ) fun k1 d1 x => toS ρ (ev g (.idx (.var i) d) ρ) fun k2 d2 y => toS ρ (ev g a ρ) fun _ _ ka => match ka with
      | .int m => if k1.tot d1 = [] ∧ k2.tot d2 = [] then (setIx ds m x).bind fun ds1 => toS (ρ.set i (.own ds1)) (ev g b (ρ.set i (.own ds1))) fun _ _ kb => match kb with
        | .int n => (setIx ds1 n y).map fun ds2 => .nx (ρ.set i (.own ds2))
        | _ => none else none
      | _ => none
    | _ => none) := rfl
@[simp] theorem exE_aug {g : G} {i : Nat} {o : Op} {e : E} {ρ : REnv} : ex g (.aug i o e) ρ = (match ρ[i]? with
    | some (.val x) => toS ρ (ev g e ρ) fun _ _ y => match x, y with
      | .int _, .int _ => (binop .plain o x y).map fun r => .nx (ρ.set i (.val r.2))
      | _, _ => none
    | _ => none) := rfl
@[simp] theorem exE_app {g : G} {i : Nat} {e : E} {ρ : REnv} : ex g (.app i e) ρ = (match ρ[i]? with
    | some (.own ds) => toS ρ (ev g e ρ) fun ke de d => if ke.tot de = [] ∧ ds.length < sizeLine then some (.nx (ρ.set i (.own (ds ++ [d])))) else none
    | _ => none) := rfl
@[simp] theorem exE_ext {g : G} {i : Nat} {e : E} {ρ : REnv} : ex g (.ext i e) ρ = (match ρ[i]? with
    | some (.own ds) => toS ρ (ev g e ρ) fun ke de d => match d with
      | .list es => if ke = .fresh ∧ de = [] ∧ ds.length + es.length ≤ sizeLine then some (.nx (ρ.set i (.own (ds ++ es)))) else none
      | _ => none
    | _ => none) := rfl
@[simp] theorem exE_pop {g : G} {i : Nat} {ρ : REnv} : ex g (.pop i) ρ = (match ρ[i]? with
    | some (.own ds) => if ds ≠ [] then some (.nx (ρ.set i (.own ds.dropLast))) else none
    | _ => none) := rfl
@[simp] theorem exE_expr {g : G} {e : E} {ρ : REnv} : ex g (.expr e) ρ = (toS ρ (ev g e ρ) fun _ _ _ => some (.nx ρ)) := rfl
@[simp] theorem exE_ret {g : G} {e : E} {ρ : REnv} : ex g (.ret e) ρ = (toS ρ (ev g e ρ) fun k dep d => some (retOf k dep d)) := rfl
@[simp] theorem exE_retn {g : G}  {ρ : REnv} : ex g (.retn) ρ = (some (.rt .none)) := rfl
@[simp] theorem exE_ite {g : G} {c : E} {a : S} {b : S} {ρ : REnv} : ex g (.ite c a b) ρ = (toS ρ (ev g c ρ) fun _ _ x => match truth x with
    | some true => ex g a ρ
    | some false => ex g b ρ
    | none => none) := rfl
@[simp] theorem exE_whl {g : G} {c : E} {b : S} {ρ : REnv} : ex g (.whl c b) ρ = (whileL (ev g c) (ex g b) g.fuel ρ) := rfl
@[simp] theorem exE_for_ {g : G} {tg : Tg} {it : E} {b : S} {ρ : REnv} : ex g (.for_ tg it b) ρ = (match ev g it ρ with
    | some (.ok k dep x) => match items x with
      | some xs => forL tg (ex g b) xs (disown (k.tot dep) ρ)
      | none => none
    | some (.ex c) => some (.ex c ρ)
    | none => none) := rfl
@[simp] theorem exE_raise {g : G} {c : Str} {ρ : REnv} : ex g (.raise c) ρ = (some (.ex c ρ)) := rfl
@[simp] theorem exE_tryx {g : G} {b : S} {x : Str} {i : Option Nat} {su : S} {ρ : REnv} : ex g (.tryx b x i su) ρ = (match ex g b ρ with
    | some (.ex c ρ1) => match g.exm.lookup (c, x) with
      | some true => match i with
        | some j => if j < ρ1.length then (match ex g su (ρ1.set j (.exc c)) with
          | some (.nx ρ2) => if noExc (ρ2.set j .un) = true ∧ j < ρ2.length then some (.nx (ρ2.set j .un)) else none
          | some (.rt d) => some (.rt d)
          | some (.rl d) => some (.rl d)
          | _ => none) else none
        | none => match ex g su ρ1 with
          | some (.nx ρ2) => if noExc ρ2 = true then some (.nx ρ2) else none
          | some (.rt d) => some (.rt d)
          | some (.rl d) => some (.rl d)
          | _ => none
      | some false => some (.ex c ρ1)
      | none => none
    | r => r) := rfl
@[simp] theorem exE_pass {g : G}  {ρ : REnv} : ex g (.pass) ρ = (some (.nx ρ)) := rfl
end Vi

set_option maxRecDepth 100000
set_option maxHeartbeats 2000000
namespace Vi
open PySem PySem.Spec PyProof.Rows L2

/-! ### values that stand for trees -/
section
variable (K : PySem.W.Frag)
def QL (H : Hp) (P : Addr → Prop) (a : Addr) (xs : List V) : Prop :=
  (P a ∧ Rd H a (.lst xs)) ∨ ∃ (o : Obj) (its : Array Value) (n : Nat), K.lookup a = some o ∧ o.cls = .type "list" ∧ o.dict = none ∧ o.data = .seq its n ∧ its.size ≤ sizeLine ∧ Vals xs its.toList
def QT (H : Hp) (P : Addr → Prop) (a : Addr) (xs : List V) : Prop :=
  (P a ∧ Rd H a (.tup xs)) ∨ ∃ (o : Obj) (its : Array Value) (n : Nat), K.lookup a = some o ∧ o.cls = .type "tuple" ∧ o.data = .seq its n ∧ its.size ≤ sizeLine ∧ Vals xs its.toList
mutual
inductive Rep (H : Hp) (P : Addr → Prop) : D → V → Prop
  | non : Rep H P .none .non
  | bl (b : Bool) : Rep H P (.bool b) (.bl b)
  | int (i : Int) : Rep H P (.int i) (.int i)
  | str (x : Str) : Rep H P (.str x) (.str x)
  | lst {a : Addr} {xs : List V} {ds : List D} : QL K H P a xs → RepL H P ds xs → Rep H P (.list ds) (.ref a)
  | tup {a : Addr} {xs : List V} {ds : List D} : QT K H P a xs → RepL H P ds xs → Rep H P (.tuple ds) (.ref a)
inductive RepL (H : Hp) (P : Addr → Prop) : List D → List V → Prop
  | nil : RepL H P [] []
  | cons {v : V} {vs : List V} {d : D} {ds : List D} : Rep H P d v → RepL H P ds vs → RepL H P (d :: ds) (v :: vs)
end
end
section
variable {K : PySem.W.Frag} {H H' : Hp} {P P' : Addr → Prop}
theorem QL.sql {a : Addr} {xs : List V} (h : QL K H P a xs) : SqL K H a xs := h.elim (fun z => .inl z.2) .inr
theorem QT.sqt {a : Addr} {xs : List V} (h : QT K H P a xs) : SqT K H a xs := h.elim (fun z => .inl z.2) .inr
/-- what a reading leans on stays -/
def Stay (H H' : Hp) (P P' : Addr → Prop) : Prop := ∀ a u, P a → Rd H a u → P' a ∧ Rd H' a u
theorem QL.stay {a : Addr} {xs : List V} (s : Stay H H' P P') (h : QL K H P a xs) : QL K H' P' a xs := h.elim (fun z => .inl (s a _ z.1 z.2)) .inr
theorem QT.stay {a : Addr} {xs : List V} (s : Stay H H' P P') (h : QT K H P a xs) : QT K H' P' a xs := h.elim (fun z => .inl (s a _ z.1 z.2)) .inr
mutual
theorem Rep.stay (s : Stay H H' P P') : ∀ (d : D) {v : V}, Rep K H P d v → Rep K H' P' d v
  | .none, _, h => by cases h; exact .non
  | .bool b, _, h => by cases h; exact .bl b
  | .int i, _, h => by cases h; exact .int i
  | .str x, _, h => by cases h; exact .str x
  | .list ds, _, h => by
    cases h with
    | lst q r => exact .lst (q.stay s) (RepL.stay s ds r)
  | .tuple ds, _, h => by
    cases h with
    | tup q r => exact .tup (q.stay s) (RepL.stay s ds r)
  | .dict _, _, h => by cases h
theorem RepL.stay (s : Stay H H' P P') : ∀ (ds : List D) {vs : List V}, RepL K H P ds vs → RepL K H' P' ds vs
  | [], _, h => by cases h; exact .nil
  | d :: ds, _, h => by
    cases h with
    | cons a b => exact .cons (Rep.stay s d a) (RepL.stay s ds b)
end
mutual
theorem Rep.dp : ∀ (d : D) {v : V}, Rep K H P d v → Dp K H v d
  | .none, _, h => by cases h; exact .non
  | .bool b, _, h => by cases h; exact .bl b
  | .int i, _, h => by cases h; exact .int i
  | .str x, _, h => by cases h; exact .str x
  | .list ds, _, h => by
    cases h with
    | lst q r => exact .lst q.sql (RepL.dp ds r)
  | .tuple ds, _, h => by
    cases h with
    | tup q r => exact .tup q.sqt (RepL.dp ds r)
  | .dict _, _, h => by cases h
theorem RepL.dp : ∀ (ds : List D) {vs : List V}, RepL K H P ds vs → DpAll K H vs ds
  | [], _, h => by cases h; exact .nil
  | d :: ds, _, h => by
    cases h with
    | cons a b => exact .cons (Rep.dp d a) (RepL.dp ds b)
end
theorem RepL.length : ∀ {ds : List D} {vs : List V}, RepL K H P ds vs → ds.length = vs.length
  | [], _, h => by cases h; rfl
  | d :: ds, _, h => by
    cases h with
    | cons a b => simp [RepL.length b]
theorem RepL.get : ∀ {ds : List D} {vs : List V} {i : Nat} {d : D}, RepL K H P ds vs → ds[i]? = some d → ∃ v, vs[i]? = some v ∧ Rep K H P d v
  | [], _, _, _, h, e => by simp at e
  | d :: ds, _, i, _, h, e => by
    cases h with
    | cons a b =>
      cases i with
      | zero => simp at e; subst e; exact ⟨_, rfl, a⟩
      | succ i =>
        obtain ⟨v, h1, h2⟩ := RepL.get b (by simpa using e)
        exact ⟨v, by simpa using h1, h2⟩
theorem RepL.get' : ∀ {ds : List D} {vs : List V} {i : Nat} {v : V}, RepL K H P ds vs → vs[i]? = some v → ∃ d, ds[i]? = some d ∧ Rep K H P d v
  | [], _, _, _, h, e => by cases h; simp at e
  | d :: ds, _, i, _, h, e => by
    cases h with
    | cons a b =>
      cases i with
      | zero => simp at e; subst e; exact ⟨_, rfl, a⟩
      | succ i =>
        obtain ⟨v, h1, h2⟩ := RepL.get' b (by simpa using e)
        exact ⟨v, by simpa using h1, h2⟩
theorem RepL.append : ∀ {ds es : List D} {vs ws : List V}, RepL K H P ds vs → RepL K H P es ws → RepL K H P (ds ++ es) (vs ++ ws)
  | [], _, _, _, h, g => by cases h; exact g
  | d :: ds, _, _, _, h, g => by
    cases h with
    | cons a b => exact .cons a (RepL.append b g)
theorem RepL.take : ∀ {ds : List D} {vs : List V} (n : Nat), RepL K H P ds vs → RepL K H P (ds.take n) (vs.take n)
  | _, _, 0, _ => .nil
  | [], _, n + 1, h => by cases h; exact .nil
  | d :: ds, _, n + 1, h => by
    cases h with
    | cons a b => exact .cons a (RepL.take n b)
theorem RepL.drop : ∀ {ds : List D} {vs : List V} (n : Nat), RepL K H P ds vs → RepL K H P (ds.drop n) (vs.drop n)
  | _, _, 0, h => h
  | [], _, n + 1, h => by cases h; exact .nil
  | d :: ds, _, n + 1, h => by
    cases h with
    | cons a b => exact RepL.drop n b
theorem RepL.set : ∀ {ds : List D} {vs : List V} (n : Nat) {d : D} {v : V}, RepL K H P ds vs → Rep K H P d v → RepL K H P (ds.set n d) (vs.set n v)
  | [], _, _, _, _, h, _ => by cases h; exact .nil
  | d :: ds, _, n, _, _, h, r => by
    cases h with
    | cons a b =>
      cases n with
      | zero => exact .cons r b
      | succ n => exact .cons a (RepL.set n b r)
theorem RepL.reverse : ∀ {ds : List D} {vs : List V}, RepL K H P ds vs → RepL K H P ds.reverse vs.reverse
  | [], _, h => by cases h; exact .nil
  | d :: ds, _, h => by
    cases h with
    | cons a b =>
      rw [List.reverse_cons, List.reverse_cons]
      exact (RepL.reverse b).append (.cons a .nil)
theorem RepL.flat (n : Nat) {ds : List D} {vs : List V} (h : RepL K H P ds vs) : RepL K H P (List.replicate n ds).flatten (List.replicate n vs).flatten := by
  induction n with
  | zero => exact .nil
  | succ n ih =>
    rw [List.replicate_succ, List.replicate_succ, List.flatten_cons, List.flatten_cons]
    exact h.append ih
theorem RepL.dropLast {ds : List D} {vs : List V} (h : RepL K H P ds vs) : RepL K H P ds.dropLast vs.dropLast := by
  rw [List.dropLast_eq_take, List.dropLast_eq_take, h.length]
  exact h.take _
theorem RepL.ints : ∀ (ns : List Int), RepL K H P (ns.map .int) (ns.map V.int)
  | [] => .nil
  | n :: ns => .cons (.int n) (RepL.ints ns)
theorem Rep.atom_any {d : D} {v : V} (a : atom d = true) (h : Rep K H P d v) : Rep K H' P' d v := by
  cases h with
  | non => exact .non
  | bl b => exact .bl b
  | int i => exact .int i
  | str x => exact .str x
  | lst _ _ => cases a
  | tup _ _ => cases a

/-! ### the frame -/
abbrev Cur := Option (Addr × Str)
/-- an address that a name owns -/
def Ow (ρ : REnv) (σ : L2.St) (a : Addr) : Prop := ∃ (i : Nat) (ds : List D), ρ[i]? = some (Slot.own ds) ∧ σ[i]? = some (some (V.ref a))
/-- neither kept from us nor owned by a name outside dep -/
def Pm (O : Addr → Prop) (ρ : REnv) (σ : L2.St) (dep : List Nat) (a : Addr) : Prop := ¬ O a ∧ ∀ (i : Nat) (ds : List D), ρ[i]? = some (Slot.own ds) → σ[i]? = some (some (V.ref a)) → i ∈ dep
structure StRel (K : PySem.W.Frag) (cur : Cur) (O : Addr → Prop) (ρ : REnv) (σ : L2.St) (H : Hp) : Prop where
  len : ρ.length = σ.length
  od : ∀ a, O a → H a ≠ none
  val : ∀ (i : Nat) (d : D), ρ[i]? = some (.val d) → ∃ v, σ[i]? = some (some v) ∧ Rep K H (Pm O ρ σ []) d v
  own : ∀ (i : Nat) (ds : List D), ρ[i]? = some (.own ds) → ∃ a xs, σ[i]? = some (some (.ref a)) ∧ H a = some (.lst xs) ∧ ¬ O a ∧ RepL K H (Pm O ρ σ []) ds xs
  sep : ∀ (i j : Nat) (ds es : List D) (a : Addr), ρ[i]? = some (.own ds) → ρ[j]? = some (.own es) → σ[i]? = some (some (.ref a)) → σ[j]? = some (some (.ref a)) → i = j
  exc : ∀ (i : Nat) (c : Str), ρ[i]? = some (.exc c) → ∃ a, cur = some (a, c) ∧ σ[i]? = some (some (.ref a))
structure Step (ρ : REnv) (σ : L2.St) (H : Hp) (ρ' : REnv) (σ' : L2.St) (H' : Hp) : Prop where
  keep : ∀ a u, H a = some u → ¬ Ow ρ σ a → H' a = some u
  own : ∀ a, Ow ρ' σ' a → Ow ρ σ a ∨ H a = none
  dom : ∀ a, H a ≠ none → H' a ≠ none
theorem Step.refl {ρ : REnv} {σ : L2.St} : Step ρ σ H ρ σ H := ⟨fun _ _ e _ => e, fun _ o => .inl o, fun _ h => h⟩
theorem Step.trans {ρ ρ' ρ'' : REnv} {σ σ' σ'' : L2.St} {H'' : Hp} (a : Step ρ σ H ρ' σ' H') (b : Step ρ' σ' H' ρ'' σ'' H'') : Step ρ σ H ρ'' σ'' H'' where
  keep := fun x u e n => b.keep x u (a.keep x u e n) fun o => (a.own x o).elim n fun z => by rw [e] at z; cases z
  own := fun x o => (b.own x o).elim (fun z => a.own x z) fun z => .inr (Classical.byContradiction fun q => a.dom x q z)
  dom := fun x h => b.dom x (a.dom x h)
theorem same_refl : Same H H := fun _ _ e => e
theorem same_trans {H'' : Hp} (a : Same H H') (b : Same H' H'') : Same H H'' := fun x u e => b x u (a x u e)
theorem same_upd {p : Addr} {o : HO} (n : H p = none) : Same H (upd H p o) := fun x u e => by
  rw [upd_ne (ne_of_none e n)]; exact e
theorem Step.of_same {ρ : REnv} {σ : L2.St} (s : Same H H') : Step ρ σ H ρ σ H' :=
  ⟨fun a u e _ => s a u e, fun _ o => .inl o, fun a h z => by
    cases q : H a with
    | none => exact h q
    | some u => rw [s a u q] at z; cases z⟩
theorem Rd.same {a : Addr} {u : HO} (s : Same H H') (h : Rd H a u) : Rd H' a u := h.elim (fun e => .inl (s _ _ e)) fun ⟨o, e⟩ => .inr ⟨o, s _ _ e⟩
theorem Rd.dom {a : Addr} {u : HO} (h : Rd H a u) : H a ≠ none := h.elim (fun e z => by rw [e] at z; cases z) fun ⟨o, e⟩ z => by rw [e] at z; cases z
theorem Stay.same (s : Same H H') (hp : ∀ a, P a → P' a) : Stay H H' P P' := fun a u p r => ⟨hp a p, Rd.same s r⟩
theorem Pm.mono {O : Addr → Prop} {ρ : REnv} {σ : L2.St} {p q : List Nat} {a : Addr} (h : ∀ i, i ∈ p → i ∈ q) (x : Pm O ρ σ p a) : Pm O ρ σ q a := ⟨x.1, fun i ds e1 e2 => h i (x.2 i ds e1 e2)⟩
theorem Pm.not_ow {O : Addr → Prop} {ρ : REnv} {σ : L2.St} {a : Addr} (x : Pm O ρ σ [] a) : ¬ Ow ρ σ a := fun ⟨i, ds, e1, e2⟩ => by
  have := x.2 i ds e1 e2
  simp at this
theorem Pm.of_not {O : Addr → Prop} {ρ : REnv} {σ : L2.St} {p : List Nat} {a : Addr} (h : ¬ O a) (x : ¬ Ow ρ σ a) : Pm O ρ σ p a := ⟨h, fun i ds e1 e2 => absurd ⟨i, ds, e1, e2⟩ x⟩
/-- behind steps a reading that reaches no owned list stays -/
theorem Stay.step {O : Addr → Prop} {ρ ρ' : REnv} {σ σ' : L2.St} (s : Step ρ σ H ρ' σ' H') : Stay H H' (Pm O ρ σ []) (Pm O ρ' σ' []) := fun a u p r =>
  ⟨.of_not p.1 fun o => (s.own a o).elim p.not_ow fun z => Rd.dom r z, r.elim (fun e => .inl (s.keep a _ e p.not_ow)) fun ⟨o, e⟩ => .inr ⟨o, s.keep a _ e p.not_ow⟩⟩
section
variable {cur : Cur} {O : Addr → Prop} {ρ : REnv} {σ : L2.St}
theorem StRel.same (R : StRel K cur O ρ σ H) (s : Same H H') : StRel K cur O ρ σ H' where
  len := R.len
  od := fun a o z => by
    cases q : H a with
    | none => exact R.od a o q
    | some u => rw [s a u q] at z; cases z
  val := fun i d e => let ⟨v, e1, r⟩ := R.val i d e; ⟨v, e1, Rep.stay (.same s fun _ p => p) _ r⟩
  own := fun i ds e => let ⟨a, xs, e1, e2, n, r⟩ := R.own i ds e; ⟨a, xs, e1, s _ _ e2, n, RepL.stay (.same s fun _ p => p) _ r⟩
  sep := R.sep
  exc := R.exc
theorem StRel.ow_dom (R : StRel K cur O ρ σ H) {a : Addr} (h : Ow ρ σ a) : H a ≠ none := by
  obtain ⟨i, ds, e1, e2⟩ := h
  obtain ⟨b, xs, e3, e4, _⟩ := R.own i ds e1
  rw [e2] at e3
  cases e3
  rw [e4]
  simp
/-- a new place is fine -/
theorem StRel.new (R : StRel K cur O ρ σ H) {p : Addr} (n : H p = none) {dep : List Nat} : Pm O ρ σ dep p :=
  .of_not (fun o => R.od p o n) fun o => R.ow_dom o n
end
end
/-- what an expression's value is -/
def Res (K : PySem.W.Frag) (O : Addr → Prop) (ρ : REnv) (σ : L2.St) (H H' : Hp) (k : Kd) (dep : List Nat) (d : D) (v : V) : Prop := match k with
  | .fresh => ∃ p xs ds, d = .list ds ∧ v = .ref p ∧ H p = none ∧ H' p = some (.lst xs) ∧ RepL K H' (fun a => Pm O ρ σ dep a ∧ a ≠ p) ds xs
  | .own i => ∃ a xs ds, d = .list ds ∧ ρ[i]? = some (.own ds) ∧ v = .ref a ∧ σ[i]? = some (some (.ref a)) ∧ H' a = some (.lst xs) ∧ RepL K H' (Pm O ρ σ dep) ds xs
  | .via _ => False
  | .plain => Rep K H' (Pm O ρ σ dep) d v
theorem Pm.own {K : PySem.W.Frag} {cur : Cur} {O : Addr → Prop} {ρ : REnv} {σ : L2.St} {H : Hp} (R : StRel K cur O ρ σ H) {i : Nat} {ds : List D} {a : Addr} {dep : List Nat} (e : ρ[i]? = some (.own ds)) (e1 : σ[i]? = some (some (.ref a))) (hi : i ∈ dep) : Pm O ρ σ dep a := by
  obtain ⟨b, xs, e2, e3, n, r⟩ := R.own i ds e
  rw [e1] at e2
  cases e2
  refine ⟨n, fun j es e4 e5 => ?_⟩
  rw [R.sep j i es ds a e4 e e5 e1]
  exact hi
theorem Res.rep {K : PySem.W.Frag} {cur : Cur} {O : Addr → Prop} {ρ : REnv} {σ : L2.St} {H H' : Hp} {k : Kd} {dep : List Nat} {d : D} {v : V} (R : StRel K cur O ρ σ H) (s : Same H H') (h : Res K O ρ σ H H' k dep d v) : Rep K H' (Pm O ρ σ (k.tot dep)) d v := by
  cases k with
  | fresh =>
    obtain ⟨p, xs, ds, rfl, rfl, n, e, r⟩ := h
    exact .lst (.inl ⟨R.new n, .inl e⟩) (RepL.stay (fun a u p r => ⟨p.1, r⟩) _ r)
  | own i =>
    obtain ⟨a, xs, ds, rfl, e0, rfl, e1, e, r⟩ := h
    exact .lst (.inl ⟨Pm.own R e0 e1 (List.mem_cons_self ..), .inl e⟩) (RepL.stay (fun b u p q => ⟨p.mono fun j z => List.mem_append_right _ z, q⟩) _ r)
  | via l => exact h.elim
  | plain => exact h
/-- the items -/
theorem Res.list {K : PySem.W.Frag} {cur : Cur} {O : Addr → Prop} {ρ : REnv} {σ : L2.St} {H H' : Hp} {k : Kd} {dep : List Nat} {ds : List D} {v : V} (R : StRel K cur O ρ σ H) (s : Same H H') (h : Res K O ρ σ H H' k dep (.list ds) v) :
    ∃ a xs, v = .ref a ∧ SqL K H' a xs ∧ RepL K H' (Pm O ρ σ dep) ds xs := by
  cases k with
  | fresh =>
    obtain ⟨p, xs, ds, e0, rfl, n, e, r⟩ := h
    cases e0
    exact ⟨p, xs, rfl, .inl (.inl e), RepL.stay (fun a u p r => ⟨p.1, r⟩) _ r⟩
  | own i =>
    obtain ⟨a, xs, ds, e0, e2, rfl, e1, e, r⟩ := h
    cases e0
    exact ⟨a, xs, rfl, .inl (.inl e), r⟩
  | via l => exact h.elim
  | plain =>
    cases (show Rep K H' (Pm O ρ σ dep) (.list ds) v from h) with
    | lst q r => exact ⟨_, _, rfl, q.sql, r⟩
theorem Res.tup {K : PySem.W.Frag} {O : Addr → Prop} {ρ : REnv} {σ : L2.St} {H H' : Hp} {k : Kd} {dep : List Nat} {ds : List D} {v : V} (h : Res K O ρ σ H H' k dep (.tuple ds) v) :
    ∃ a xs, v = .ref a ∧ QT K H' (Pm O ρ σ dep) a xs ∧ RepL K H' (Pm O ρ σ dep) ds xs := by
  cases k with
  | fresh => obtain ⟨p, xs, ds, e0, _⟩ := h; cases e0
  | own i => obtain ⟨a, xs, ds, e0, _⟩ := h; cases e0
  | via l => exact h.elim
  | plain =>
    cases (show Rep K H' (Pm O ρ σ dep) (.tuple ds) v from h) with
    | tup q r => exact ⟨_, _, rfl, q, r⟩
theorem Res.stay {K : PySem.W.Frag} {O : Addr → Prop} {ρ : REnv} {σ : L2.St} {H H' H'' : Hp} {k : Kd} {dep : List Nat} {d : D} {v : V} (s : Same H' H'') (h : Res K O ρ σ H H' k dep d v) : Res K O ρ σ H H'' k dep d v := by
  cases k with
  | fresh =>
    obtain ⟨p, xs, ds, e0, e1, n, e, r⟩ := h
    exact ⟨p, xs, ds, e0, e1, n, s _ _ e, RepL.stay (.same s fun _ z => z) _ r⟩
  | own i =>
    obtain ⟨a, xs, ds, e0, e2, e3, e1, e, r⟩ := h
    exact ⟨a, xs, ds, e0, e2, e3, e1, s _ _ e, RepL.stay (.same s fun _ z => z) _ r⟩
  | via l => exact h.elim
  | plain => exact Rep.stay (.same s fun _ z => z) _ (show Rep K H' (Pm O ρ σ dep) d v from h)
end Vi

set_option maxRecDepth 100000
set_option maxHeartbeats 4000000
namespace Vi
open PySem PySem.Spec PyProof.Rows L2
theorem tup_add0 (l b : Addr) (items items2 : Array Value) (n n2 : Nat) (dd dd2 : Option Addr) (sl sl2 : Array (Option Value)) (hc0 : items.isEmpty = true) :
    Meets (Builtin.«tuple.__add__» ⟨[.ref l, .ref b], []⟩) (fun _ R s => s.heap.get? l = some { cls := .type "tuple", dict := dd, data := .seq items n, slots := sl } ∧ s.heap.get? b = some { cls := .type "tuple", dict := dd2, data := .seq items2 n2, slots := sl2 } ∧ R (.ok (.ret (Value.ref b))) s) :=
  .of_wp fun prog w A R s h => by
    obtain ⟨hp, g, d, tk, os⟩ := s
    obtain ⟨hl, hb, h⟩ := h
    have f1 := AutoSeq1.idx_int
    have f2 := AutoSeq1.sub_tuple_tuple
    wp_walk using wpAny_loadPart' hl, wpAny_loadPart' hb
    exact ⟨_, rfl, h⟩
theorem tup_mul1 (l : Addr) (items : Array Value) (n : Nat) (dd : Option Addr) (sl : Array (Option Value)) (x : Int) (u : Tok) (c0 : (decide (x < -(2 ^ 63)) || decide (x ≥ 2 ^ 63)) = false) (c1 : (items.isEmpty || x == 1) = true) :
    Meets (Builtin.«tuple.__mul__» ⟨[.ref l, .int x u], []⟩) (fun _ R s => s.heap.get? l = some { cls := .type "tuple", dict := dd, data := .seq items n, slots := sl } ∧
      R (.ok (.ret (Value.ref l))) s) :=
  .of_wp fun prog w A R s h => by
    obtain ⟨hp, g, d, tk, os⟩ := s
    obtain ⟨hl, h⟩ := h
    have f1 := AutoSeq1.idx_int
    wp_walk using wpAny_loadPart' hl
    repeat (first
      | (refine wpAny_ite_false (decide_eq_false (by rw [c0]; exact Bool.false_ne_true)) ?_; wp_walk using wpAny_loadPart' hl)
      | (refine wpAny_ite_true (decide_eq_true c1) ?_; wp_walk using wpAny_loadPart' hl))
    exact ⟨_, rfl, h⟩
theorem tup_mul0 (l : Addr) (items : Array Value) (n : Nat) (dd : Option Addr) (sl : Array (Option Value)) (x : Int) (u : Tok) (c0 : (decide (x < -(2 ^ 63)) || decide (x ≥ 2 ^ 63)) = false) (c1 : (items.isEmpty || x == 1) = false) (c2 : (decide (x ≤ 0) || items.isEmpty) = true) :
    Meets (Builtin.«tuple.__mul__» ⟨[.ref l, .int x u], []⟩) (fun _ R s => s.heap.get? l = some { cls := .type "tuple", dict := dd, data := .seq items n, slots := sl } ∧
      R (.ok (.ret (Value.ref s.heap.objs.size))) { s with heap := s.heap.push { cls := Value.type "tuple", data := Data.seq #[] }, toks := s.toks }) :=
  .of_wp fun prog w A R s h => by
    obtain ⟨hp, g, d, tk, os⟩ := s
    obtain ⟨hl, h⟩ := h
    have f1 := AutoSeq1.idx_int
    wp_walk using wpAny_loadPart' hl
    repeat (first
      | (refine wpAny_ite_false (decide_eq_false (by rw [c0]; exact Bool.false_ne_true)) ?_; wp_walk using wpAny_loadPart' hl)
      | (refine wpAny_ite_false (decide_eq_false (by rw [c1]; exact Bool.false_ne_true)) ?_; wp_walk using wpAny_loadPart' hl)
      | (refine wpAny_ite_true (decide_eq_true c2) ?_; wp_walk using wpAny_loadPart' hl))
    exact ⟨_, rfl, h⟩
section
variable {X : Cx}
theorem op_catT0 : OpR X (binaryOp .Add) (fun x y H Q => ∃ a b ys, x = .ref a ∧ y = .ref b ∧ SqT X.K H a [] ∧ SqT X.K H b ys ∧ Q (.ref b) H) := by
  intro pins s σ H x y v u Q I rx ry h
  obtain ⟨a, b, ys, rfl, rfl, ha, hb, q⟩ := h
  cases rx
  cases ry
  obtain ⟨its, r1, p1, _⟩ := I.tuple ha
  obtain ⟨its2, r2, p2, _⟩ := I.tuple hb
  cases r1
  obtain ⟨⟨cls, dd, data, sl⟩, ho, hc, n, hd⟩ := id p1
  obtain ⟨⟨cls2, dd2, data2, sl2⟩, ho2, hc2, n2, hd2⟩ := id p2
  simp only at hc hd hc2 hd2
  subst hc hd hc2 hd2
  exact concat_meets ⟨_, ho, rfl⟩ ⟨_, ho2, rfl⟩ noFill_tuple_add seq_tuple_add PySem.F.slot_tuple_add PySem.F.entry_tuple_add (PySem.F.args_tuple_add_2 _ _)
      (tup_add0 a b _ _ n n2 dd dd2 sl sl2 rfl) ⟨ho, ho2, ⟨.ref b, H, I, rfl, q⟩⟩
theorem op_catLS : OpR X (binaryOp .Add) (fun x y H Q => ∃ a b xs ys, x = .ref a ∧ y = .ref b ∧ SqL X.K H a xs ∧ SqL X.K H b ys ∧ xs.length + ys.length ≤ sizeLine ∧ ∀ p, H p = none → Q (.ref p) (upd H p (.lst (xs ++ ys)))) := by
  intro pins s σ H x y v u Q I rx ry h
  obtain ⟨a, b, xs, ys, rfl, rfl, ha, hb, hz, q⟩ := h
  cases rx
  cases ry
  obtain ⟨its, r1, p1, _⟩ := I.list ha
  obtain ⟨its2, r2, p2, _⟩ := I.list hb
  obtain ⟨⟨cls, dd, data, sl⟩, n, ho, hc, _, hd⟩ := id p1
  obtain ⟨⟨cls2, dd2, data2, sl2⟩, n2, ho2, hc2, _, hd2⟩ := id p2
  simp only at hc hd hc2 hd2
  subst hc hd hc2 hd2
  have e : its.toArray ++ its2.toArray = (its ++ its2).toArray := by simp
  have hz' : its.length + its2.length ≤ sizeLine := by rw [← r1.length, ← r2.length]; exact hz
  refine concat_meets ⟨_, ho, rfl⟩ ⟨_, ho2, rfl⟩ noFill_list_add seq_list_add PySem.F.slot_list_add PySem.F.entry_list_add (PySem.F.args_list_add_2 _ _) (list_addW a b its.toArray its2.toArray n n2 _ _ sl sl2 (by simpa using hz')) ⟨ho, ho2, ?_⟩
  rw [e]
  refine ⟨.ref s.heap.objs.size, _, I.laid (t' := s.toks) (o := .lst (xs ++ ys)) (fun b ob q => Heap.get?_push_of_some _ q) (Nat.le_refl _) ?_, rfl, q _ (I.hok.fresh (Nat.le_refl _))⟩
  exact ⟨by rw [List.length_append]; exact hz, _, 0, r1.append r2, Heap.get?_push_size _ rfl⟩
theorem op_repT1 : OpR X (binaryOp .Mult) (fun x y H Q => ∃ l k xs, x = .ref l ∧ y = .int k ∧ SqT X.K H l xs ∧ -1000 ≤ k ∧ k ≤ 1000 ∧ (xs = [] ∨ k = 1) ∧ Q (.ref l) H) := by
  intro pins s σ H x y v u Q I rx ry h
  obtain ⟨l, k, xs, rfl, rfl, hT, h1, h2, hk, q⟩ := h
  cases rx
  obtain ⟨t, rfl⟩ := ry
  obtain ⟨its, r, ⟨⟨cls, dd, data, sl⟩, ho, hc, n, hd⟩, hs⟩ := I.tuple hT
  simp only at hc hd
  subst hc hd
  have c0 : (decide (k < -(2 ^ 63)) || decide (k ≥ 2 ^ 63)) = false := by
    rw [decide_eq_false (by omega), decide_eq_false (by omega)] <;> rfl
  have c1 : (its.toArray.isEmpty || k == 1) = true := by
    rcases hk with e | e
    · subst e; cases r; rfl
    · subst e; simp
  refine wpAny_binaryOp_repeat_ref (T := "tuple") (U := "int") (by decide) ⟨_, ho, rfl⟩ (fun s' => typeIs_int s' k t) noFill_tuple_mul F.fills_int_mul F.slot_int_rmul repeat_tuple F.slot_int_index.lookup
    (call_meets F.slot_int_rmul (typeIs_int s k t) F.entry_int_rmul (F.args_int_rmul_2 _ _) (int_rmul_tuple k t l its.toArray n dd sl)
      ⟨ho, rfl, ⟨_, ho, rfl⟩, call_meets F.slot_tuple_mul ⟨_, ho, rfl⟩ F.entry_tuple_mul (F.args_tuple_mul_2 _ _) (tup_mul1 l its.toArray n dd sl k t c0 c1) ⟨ho, ?_⟩⟩)
  exact ⟨.ref l, H, I, rfl, q⟩
theorem op_repT0 : OpR X (binaryOp .Mult) (fun x y H Q => ∃ l k xs, x = .ref l ∧ y = .int k ∧ SqT X.K H l xs ∧ -1000 ≤ k ∧ k ≤ 0 ∧ xs ≠ [] ∧ ∀ p, H p = none → Q (.ref p) (upd H p (.tup []))) := by
  intro pins s σ H x y v u Q I rx ry h
  obtain ⟨l, k, xs, rfl, rfl, hT, h1, h2, hne, q⟩ := h
  cases rx
  obtain ⟨t, rfl⟩ := ry
  obtain ⟨its, r, ⟨⟨cls, dd, data, sl⟩, ho, hc, n, hd⟩, hs⟩ := I.tuple hT
  simp only at hc hd
  subst hc hd
  have c0 : (decide (k < -(2 ^ 63)) || decide (k ≥ 2 ^ 63)) = false := by
    rw [decide_eq_false (by omega), decide_eq_false (by omega)] <;> rfl
  have hi : its.toArray.isEmpty = false := by
    cases r with
    | nil => exact absurd rfl hne
    | cons a b => rfl
  have c1 : (its.toArray.isEmpty || k == 1) = false := by
    rw [hi, Bool.false_or]
    exact beq_eq_false_iff_ne.mpr (by omega)
  have c2 : (decide (k ≤ 0) || its.toArray.isEmpty) = true := by
    rw [decide_eq_true h2]; rfl
  refine wpAny_binaryOp_repeat_ref (T := "tuple") (U := "int") (by decide) ⟨_, ho, rfl⟩ (fun s' => typeIs_int s' k t) noFill_tuple_mul F.fills_int_mul F.slot_int_rmul repeat_tuple F.slot_int_index.lookup
    (call_meets F.slot_int_rmul (typeIs_int s k t) F.entry_int_rmul (F.args_int_rmul_2 _ _) (int_rmul_tuple k t l its.toArray n dd sl)
      ⟨ho, rfl, ⟨_, ho, rfl⟩, call_meets F.slot_tuple_mul ⟨_, ho, rfl⟩ F.entry_tuple_mul (F.args_tuple_mul_2 _ _) (tup_mul0 l its.toArray n dd sl k t c0 c1 c2) ⟨ho, ?_⟩⟩)
  refine ⟨.ref s.heap.objs.size, _, I.laid (t' := s.toks) (o := .tup []) (fun b ob q => Heap.get?_push_of_some _ q) (Nat.le_refl _) ?_, rfl, q _ (I.hok.fresh (Nat.le_refl _))⟩
  exact ⟨Nat.zero_le _, _, .nil, IsTup.new _ _⟩
/-- int ** int, by bits -/
theorem op_powB : OpR X (binaryOp .Pow) (rI (fun i j => 0 ≤ j ∧ (Builtin.Int.intBits i : Int) * j ≤ 2 ^ 27) fun i j => .int (i ^ j.toNat)) := opI fun _ _ _ _ _ _ _ hc q => pow_int hc.1 hc.2 q
end
end Vi

set_option maxRecDepth 100000
set_option maxHeartbeats 4000000
namespace Vi
open PySem PySem.Spec PyProof.Rows L2
/-- what a reading asks of a result: Q of the value, W of an exception's class -/
def Fin (K : PySem.W.Frag) (O : Addr → Prop) (ρ : REnv) (σ : L2.St) (H : Hp) (W : WX) (Q : VK) (r : Option Rs) : Prop := match r with
  | none => False
  | some (.ok k dep d) => ∀ v H', Same H H' → Res K O ρ σ H H' k dep d v → Q v H'
  | some (.ex c) => ∀ H', Same H H' → W (.ref (He.ga K c)) none σ H'
def T (K : PySem.W.Frag) (cur : Cur) (g : G) (W : WX) (e : E) : TE := fun σ H Q => ∃ O ρ, StRel K cur O ρ σ H ∧ Fin K O ρ σ H W Q (ev g e ρ)
/-- the truth of it -/
def Tt (K : PySem.W.Frag) (cur : Cur) (g : G) (W : WX) (e : E) : TT := fun σ H Q => ∃ O ρ, StRel K cur O ρ σ H ∧ match ev g e ρ with
  | none => False
  | some (.ok _ _ d) => match truth d with
    | none => False
    | some b => ∀ H', Same H H' → Q b H'
  | some (.ex c) => ∀ H', Same H H' → W (.ref (He.ga K c)) none σ H'
/-- arguments -/
def Ta (K : PySem.W.Frag) (cur : Cur) (g : G) (W : WX) (e : E) : TA := fun σ H Q => ∃ O ρ, StRel K cur O ρ σ H ∧ match ev g e ρ with
  | none => False
  | some (.ok _ dep d) => ∃ ds, d = .tuple ds ∧ ∀ vs H', Same H H' → RepL K H' (Pm O ρ σ dep) ds vs → Q vs H'
  | some (.ex c) => ∀ H', Same H H' → W (.ref (He.ga K c)) none σ H'
section
variable {K : PySem.W.Frag} {cur : Cur} {g : G} {W : WX} {O : Addr → Prop} {ρ : REnv} {σ : L2.St} {H H1 : Hp} {Q : VK} {r : Option Rs}
theorem Res.back {k : Kd} {dep : List Nat} {d : D} {v : V} {H' : Hp} (s : Same H H1) (h : Res K O ρ σ H1 H' k dep d v) : Res K O ρ σ H H' k dep d v := by
  cases k with
  | fresh =>
    obtain ⟨p, xs, ds, e1, e2, n, r⟩ := h
    refine ⟨p, xs, ds, e1, e2, ?_, r⟩
    cases q : H p with
    | none => rfl
    | some u => rw [s p u q] at n; cases n
  | own i => exact h
  | via l => exact h
  | plain => exact h
theorem Fin.same (s : Same H H1) (h : Fin K O ρ σ H W Q r) : Fin K O ρ σ H1 W Q r := by
  cases r with
  | none => exact h
  | some x =>
    cases x with
    | ok fr dep d => exact fun v H' s' q => h v H' (same_trans s s') (q.back s)
    | ex c => exact fun H' s' => h H' (same_trans s s')
theorem Fin.val {dep : List Nat} {d : D} {v : V} (h : Fin K O ρ σ H W Q (some (.ok .plain dep d))) (q : Rep K H (Pm O ρ σ dep) d v) : Q v H := h v H same_refl q
/-- a new list -/
theorem Fin.lst {dep : List Nat} {ds : List D} {xs : List V} (R : StRel K cur O ρ σ H) (h : Fin K O ρ σ H W Q (some (.ok .fresh dep (.list ds)))) (q : RepL K H (Pm O ρ σ dep) ds xs) {p : Addr} (n : H p = none) : Q (.ref p) (upd H p (.lst xs)) := by
  refine h (.ref p) _ (same_upd n) ?_
  refine ⟨p, xs, ds, rfl, rfl, n, upd_same, RepL.stay (fun a u z r => ⟨⟨z, fun e => ?_⟩, Rd.same (same_upd n) r⟩) _ q⟩
  subst e
  exact Rd.dom r n
/-- a new tuple -/
theorem Fin.tup {dep : List Nat} {ds : List D} {xs : List V} (R : StRel K cur O ρ σ H) (h : Fin K O ρ σ H W Q (some (.ok .plain dep (.tuple ds)))) (q : RepL K H (Pm O ρ σ dep) ds xs) {p : Addr} (n : H p = none) : Q (.ref p) (upd H p (.tup xs)) :=
  h (.ref p) _ (same_upd n) (Rep.tup (.inl ⟨R.new n, .inl upd_same⟩) (RepL.stay (.same (same_upd n) fun _ z => z) _ q))
/-- first one part, then what follows -/
theorem T.bind {a : E} {k : Kd → List Nat → D → Option Rs} {Gl : VK} (R : StRel K cur O ρ σ H) (h : Fin K O ρ σ H W Q (Rs.map2 (ev g a ρ) k))
    (hk : ∀ fr dep d v H1, StRel K cur O ρ σ H1 → Same H H1 → Res K O ρ σ H H1 fr dep d v → Fin K O ρ σ H1 W Q (k fr dep d) → Gl v H1) : T K cur g W a σ H Gl := by
  refine ⟨O, ρ, R, ?_⟩
  cases e : ev g a ρ with
  | none => rw [e] at h; exact h
  | some x =>
    rw [e] at h
    cases x with
    | ok fr dep d => exact fun v H' s q => hk fr dep d v H' (R.same s) s q (Fin.same s h)
    | ex c => exact h
theorem T.imp {X : Cx} {e : Expr} {t t' : TE} (h : PE X e t) (i : ∀ σ H Q, t' σ H Q → t σ H Q) : PE X e t' := ⟨fun pins s σ H Q I w => h.run pins s σ H Q I (i _ _ _ w)⟩
theorem Tt.imp {X : Cx} {e : Expr} {t t' : TT} (h : PT X e t) (i : ∀ σ H Q, t' σ H Q → t σ H Q) : PT X e t' := ⟨fun pins s σ H Q I w => h.run pins s σ H Q I (i _ _ _ w)⟩
theorem Ta.imp {X : Cx} {e : List Expr} {t t' : TA} (h : PA X e t) (i : ∀ σ H Q, t' σ H Q → t σ H Q) : PA X e t' := ⟨fun pos pins s σ H Q I w => h.run pos pins s σ H Q I (i _ _ _ w)⟩
theorem OpR.imp {X : Cx} {f : Value → Value → Sem Value} {r r' : R2} (h : OpR X f r) (i : ∀ x y H Q, r' x y H Q → r x y H Q) : OpR X f r' := fun pins s σ H x y v u Q I rx ry q => h pins s σ H x y v u Q I rx ry (i _ _ _ _ q)
end
/-- what a def of the meaning F promises -/
def spF (K : PySem.W.Frag) (F : Fn) : Sp := fun vs H Q E => ∃ (O : Addr → Prop) (ds : List D) (r : Rf), (∀ a, O a → H a ≠ none) ∧ RepL K H (fun a => ¬ O a) ds vs ∧ F ds = some r ∧ match r with
  | .ret d => ∀ v H', Same H H' → Rep K H' (fun a => ¬ O a) d v → Q v H'
  | .lst l => ∀ v H', Same H H' → (∃ p xs, v = .ref p ∧ H p = none ∧ H' p = some (.lst xs) ∧ RepL K H' (fun a => ¬ O a ∧ a ≠ p) l xs) → Q v H'
  | .ex c => ∀ H', Same H H' → E (.ref (He.ga K c)) none H'
def bltNames : List Str := ["len", "range", "isinstance", "int", "bool", "str", "tuple", "list", "sum", "sorted", "max", "min", "zip", "enumerate", "ValueError"]
/-- a def as a caller finds it -/
structure FnAt (X : Cx) (nm : Str) (F : Fn) : Prop where
  ex : ∃ (a : Addr) (fd : FuncData) (ps : List Str) (j : Nat), FnOk X.prog X.w X.K X.mg X.base (L2.CX X.prog X.w) j a fd ps (spF X.K F) ∧ Room j X.A ∧ X.mg nm = some (.ref a) ∧ PySem.W.keepIn X.K (.ref a) = true ∧ Binds X.K fd ps []
/-- what the code runs in -/
structure Cxt (X : Cx) (N : List Str) (sc : Scope) (cm : Bool) (cur : Cur) (g : G) (W : WX) : Prop where
  hN : X.N = N
  nd : N.Nodup
  hsc : X.env.scope = sc
  calm : cm = true → X.calm = true
  tk : Takes X W
  hu : X.A.units + 65 < cLine
  fns : cm = true → ∀ (k : Nat) (nm : Str) (F : Fn), g.fns[k]? = some (nm, F) → FnAt X nm F
  blt : ∀ x ∈ bltNames, X.mg x = none
  consts : ∀ (x : Str) (d : D), g.consts.lookup x = some d → ∃ v u, X.mg x = some u ∧ RelV v u ∧ ∀ H P, Rep X.K H P d v
  isx : ∀ (a : Addr) (x c : Str) (b : Bool), cur = some (a, x) → g.isx.lookup (x, c) = some b → CallR X (.builtin "isinstance") (rIsE X.K (He.ga X.K x) a)
  isk : ∀ (x c : Str) (b : Bool), g.isx.lookup (x, c) = some b → ∃ (v : V) (u : Value), ((X.mg c = some u) ∨ (X.mg c = none ∧ bootBuiltins c = some u ∧ c ≠ "__name__")) ∧ RelV v u ∧ (∀ z, RelV v z → z = u) ∧ PySem.W.kitOne X.K (.ref (He.ga X.K x)) u = some b
section
variable {X : Cx} {N : List Str} {sc : Scope} {cm : Bool} {cur : Cur} {g : G} {W : WX}
theorem t_var {i : Nat} {x : Str} {pos : Pos} (C : Cxt X N sc cm cur g W) (hi : N[i]? = some x) (hv : Vis sc x) (hd : (x == ("__debug__" : Str)) = false) (hcd : (x == ("__classdict__" : Str)) = false) :
    PE X (.Name x pos) (T X.K cur g W (.var i)) := by
  refine T.imp (pe_var (i := i) (by rw [C.hN]; exact hi) (by rw [C.hsc]; exact hv) hd hcd) ?_
  rintro σ H Q ⟨O, ρ, R, h⟩
  have h' : Fin X.K O ρ σ H W Q (match ρ[i]? with
    | some (.val d) => some (.ok .plain [] d)
    | some (.own ds) => some (.ok (.own i) [] (.list ds))
    | _ => none) := h
  split at h'
  · rename_i d e
    obtain ⟨v, e1, r⟩ := R.val i d e
    exact ⟨v, e1, h'.val r⟩
  · rename_i ds e
    obtain ⟨a, xs, e1, e2, n, r⟩ := R.own i ds e
    exact ⟨_, e1, h' _ H same_refl ⟨a, xs, ds, rfl, e, rfl, e1, e2, r⟩⟩
  · exact h'.elim
theorem t_int {n : Int} {j : Nat} {pos : Pos} : PE X (.Constant (.int n) j pos) (T X.K cur g W (.int n)) := T.imp pe_int fun σ H Q ⟨O, ρ, R, h⟩ => Fin.val h (.int n)
theorem t_bl {n : Bool} {j : Nat} {pos : Pos} : PE X (.Constant (.bool n) j pos) (T X.K cur g W (.bl n)) := T.imp pe_bl fun σ H Q ⟨O, ρ, R, h⟩ => Fin.val h (.bl n)
theorem t_non {j : Nat} {pos : Pos} : PE X (.Constant .none j pos) (T X.K cur g W .non) := T.imp pe_non fun σ H Q ⟨O, ρ, R, h⟩ => Fin.val h .non
theorem t_str {n : Str} {j : Nat} {pos : Pos} : PE X (.Constant (.str n) j pos) (T X.K cur g W (.str n)) := T.imp pe_str fun σ H Q ⟨O, ρ, R, h⟩ => Fin.val h (.str n)
/-- two parts -/
theorem t_two {a b : E} {k : Kd → List Nat → D → Kd → List Nat → D → Option Rs} {Gl : V → V → Hp → Prop} {K : PySem.W.Frag} {O : Addr → Prop} {ρ : REnv} {σ : L2.St} {H : Hp} {Q : VK} (R : StRel K cur O ρ σ H)
    (h : Fin K O ρ σ H W Q (Rs.map2 (ev g a ρ) fun ka da x => Rs.map2 (ev g b ρ) fun kb db y => k ka da x kb db y))
    (hk : ∀ ka da x kb db y v u H1 H2, StRel K cur O ρ σ H1 → StRel K cur O ρ σ H2 → Same H H1 → Same H1 H2 → Res K O ρ σ H H2 ka da x v → Res K O ρ σ H1 H2 kb db y u → Fin K O ρ σ H2 W Q (k ka da x kb db y) → Gl v u H2) :
    T K cur g W a σ H fun v H1 => T K cur g W b σ H1 fun u H2 => Gl v u H2 :=
  T.bind R h fun ka da x v H1 R1 s1 r1 h1 => T.bind R1 h1 fun kb db y u H2 R2 s2 r2 h2 => hk ka da x kb db y v u H1 H2 R1 R2 s1 s2 (r1.stay s2) r2 h2
end
end Vi

set_option maxRecDepth 100000
set_option maxHeartbeats 4000000
namespace Vi
open PySem PySem.Spec PyProof.Rows L2
section
variable {K : PySem.W.Frag} {cur : Cur} {g : G} {W : WX} {O : Addr → Prop} {ρ : REnv} {σ : L2.St} {H H' : Hp} {Q : VK} {k : Kd} {dep : List Nat} {v : V}
theorem Res.int (h : Res K O ρ σ H H' k dep (.int i) v) : v = .int i := by
  cases k with
  | fresh => obtain ⟨p, xs, ds, e0, _⟩ := h; cases e0
  | own i => obtain ⟨a, xs, ds, e0, _⟩ := h; cases e0
  | via l => exact h.elim
  | plain => cases (show Rep K H' (Pm O ρ σ dep) (.int _) v from h); rfl
theorem Res.bool {b : Bool} (h : Res K O ρ σ H H' k dep (.bool b) v) : v = .bl b := by
  cases k with
  | fresh => obtain ⟨p, xs, ds, e0, _⟩ := h; cases e0
  | own i => obtain ⟨a, xs, ds, e0, _⟩ := h; cases e0
  | via l => exact h.elim
  | plain => cases (show Rep K H' (Pm O ρ σ dep) (.bool _) v from h); rfl
theorem Res.str {z : Str} (h : Res K O ρ σ H H' k dep (.str z) v) : v = .str z := by
  cases k with
  | fresh => obtain ⟨p, xs, ds, e0, _⟩ := h; cases e0
  | own i => obtain ⟨a, xs, ds, e0, _⟩ := h; cases e0
  | via l => exact h.elim
  | plain => cases (show Rep K H' (Pm O ρ σ dep) (.str _) v from h); rfl
theorem Res.non (h : Res K O ρ σ H H' k dep .none v) : v = .non := by
  cases k with
  | fresh => obtain ⟨p, xs, ds, e0, _⟩ := h; cases e0
  | own i => obtain ⟨a, xs, ds, e0, _⟩ := h; cases e0
  | via l => exact h.elim
  | plain => cases (show Rep K H' (Pm O ρ σ dep) .none v from h); rfl
theorem Fin.ite {c : Prop} [Decidable c] {r : Rs} (h : Fin K O ρ σ H W Q ((if c then some x else none).map f)) : c ∧ Fin K O ρ σ H W Q (some (f x)) := by
  by_cases q : c
  · rw [if_pos q] at h; exact ⟨q, h⟩
  · rw [if_neg q] at h; exact h.elim
theorem RepL.lr {P : Addr → Prop} {da db : List Nat} {ds es : List D} {vs ws : List V} (h : RepL K H (Pm O ρ σ da) ds vs) (h' : RepL K H (Pm O ρ σ db) es ws) : RepL K H (Pm O ρ σ (da ++ db)) (ds ++ es) (vs ++ ws) :=
  (RepL.stay (fun a u p r => ⟨p.mono fun i z => List.mem_append_left _ z, r⟩) _ h).append (RepL.stay (fun a u p r => ⟨p.mono fun i z => List.mem_append_right _ z, r⟩) _ h')
end
section
variable {X : Cx} {N : List Str} {sc : Scope} {cm : Bool} {cur : Cur} {g : G} {W : WX} {a b : Expr} {ea eb : E} {pos : Pos}
theorem t_add (ha : PE X a (T X.K cur g W ea)) (hb : PE X b (T X.K cur g W eb)) : PE X (.BinOp a .Add b pos) (T X.K cur g W (.bin .add ea eb)) := by
  refine T.imp (pe_op (op_add.or (op_catT0.or (op_catT.or (op_catLS.or op_add_str)))) ha hb) ?_
  rintro σ H Q ⟨O, ρ, R, h⟩
  refine t_two (k := fun ka da x _ db y => (binop ka .add x y).map fun r => .ok r.1 (depOf r.2 (da ++ db)) r.2) R h fun ka da x kb db y v u H1 H2 R1 R2 s1 s2 r1 r2 q => ?_
  cases x with
  | int i =>
    cases y with
    | int j =>
      obtain rfl := r1.int
      obtain rfl := r2.int
      exact .inl ⟨i, j, rfl, rfl, Fin.val q (.int _)⟩
    | _ => exact q.elim
  | tuple l =>
    cases y with
    | tuple m =>
      obtain ⟨hz, q⟩ := Fin.ite (r := .ex "") q
      obtain ⟨pa, xs, rfl, qa, la⟩ := r1.tup
      obtain ⟨pb, ys, rfl, qb, lb⟩ := r2.tup
      have e1 := la.length
      have e2 := lb.length
      by_cases hx : xs = []
      · subst hx
        cases l with
        | cons _ _ => cases la
        | nil =>
          refine .inr (.inl ⟨pa, pb, ys, rfl, rfl, qa.sqt, qb.sqt, Fin.val q (.tup (qb.stay fun a u p r => ⟨p.mono fun i z => List.mem_append_right _ z, r⟩) (RepL.stay (fun a u p r => ⟨p.mono fun i z => List.mem_append_right _ z, r⟩) _ lb))⟩)
      · refine .inr (.inr (.inl ⟨pa, pb, xs, ys, rfl, rfl, qa.sqt, qb.sqt, hx, by omega, fun z => ?_, fun z p n => ?_⟩))
        · subst z
          cases m with
          | cons _ _ => cases lb
          | nil =>
            refine Fin.val q ?_
            rw [List.append_nil]
            exact .tup (qa.stay fun a u p r => ⟨p.mono fun i z => List.mem_append_left _ z, r⟩) (RepL.stay (fun a u p r => ⟨p.mono fun i z => List.mem_append_left _ z, r⟩) _ la)
        · exact Fin.tup R2 q (RepL.lr (P := fun _ => True) la lb) n
    | _ => exact q.elim
  | list l =>
    cases y with
    | list m =>
      obtain ⟨hz, q⟩ := Fin.ite (r := .ex "") q
      obtain ⟨pa, xs, rfl, qa, la⟩ := r1.list R (same_trans s1 s2)
      obtain ⟨pb, ys, rfl, qb, lb⟩ := r2.list R1 s2
      have e1 := la.length
      have e2 := lb.length
      exact .inr (.inr (.inr (.inl ⟨pa, pb, xs, ys, rfl, rfl, qa, qb, by omega, fun p n => Fin.lst R2 q (RepL.lr (P := fun _ => True) la lb) n⟩)))
    | _ => exact q.elim
  | str l =>
    cases y with
    | str m =>
      obtain ⟨hz, q⟩ := Fin.ite (r := .ex "") q
      obtain rfl := r1.str
      obtain rfl := r2.str
      exact .inr (.inr (.inr (.inr ⟨l, m, rfl, rfl, hz, Fin.val q (.str _)⟩)))
    | _ => exact q.elim
  | _ => exact q.elim
end
end Vi

set_option maxRecDepth 100000
set_option maxHeartbeats 4000000
namespace Vi
open PySem PySem.Spec PyProof.Rows L2
section
variable {X : Cx}
theorem op_inTD (hu : X.A.units + 65 < cLine) : OpR X (compareOp .In) (fun x y H Q => ∃ d ds, Dp X.K H x d ∧ Dp X.K H y (.tuple ds) ∧ SeqAt.shaped d = true ∧ SeqAt.shaped (.tuple ds) = true ∧ Q (.bl (ds.any fun z => PyData.eqv z d)) H) := by
  intro pins s σ H x y v u Q I rx ry h
  obtain ⟨d, ds, hd, he, sd, se, q⟩ := h
  obtain ⟨as, r1⟩ := Dp.reads I d x v hd rx
  obtain ⟨bs, r2⟩ := Dp.reads I (.tuple ds) y u he ry
  exact SeqAt.in_tuple_reads r2 r1 (SeqAt.canLay_of_shaped se) (SeqAt.canLay_of_shaped sd) (room_in_shaped sd hu) ⟨.bl _, H, I, rfl, q⟩
theorem op_notInTD (hu : X.A.units + 65 < cLine) : OpR X (compareOp .NotIn) (fun x y H Q => ∃ d ds, Dp X.K H x d ∧ Dp X.K H y (.tuple ds) ∧ SeqAt.shaped d = true ∧ SeqAt.shaped (.tuple ds) = true ∧ Q (.bl (!ds.any fun z => PyData.eqv z d)) H) := by
  intro pins s σ H x y v u Q I rx ry h
  obtain ⟨d, ds, hd, he, sd, se, q⟩ := h
  obtain ⟨as, r1⟩ := Dp.reads I d x v hd rx
  obtain ⟨bs, r2⟩ := Dp.reads I (.tuple ds) y u he ry
  exact SeqAt.notIn_tuple_reads r2 r1 (SeqAt.canLay_of_shaped se) (SeqAt.canLay_of_shaped sd) (room_in_shaped sd hu) ⟨.bl _, H, I, rfl, q⟩
end
/-! ### arithmetic -/
section
variable {X : Cx} {N : List Str} {sc : Scope} {cm : Bool} {cur : Cur} {g : G} {W : WX} {a b c : Expr} {ea eb ec : E} {pos : Pos}
theorem t_sub (ha : PE X a (T X.K cur g W ea)) (hb : PE X b (T X.K cur g W eb)) : PE X (.BinOp a .Sub b pos) (T X.K cur g W (.bin .sub ea eb)) := by
  refine T.imp (pe_op op_sub ha hb) ?_
  rintro σ H Q ⟨O, ρ, R, h⟩
  refine t_two (k := fun ka da x _ db y => (binop ka .sub x y).map fun r => .ok r.1 (depOf r.2 (da ++ db)) r.2) R h fun ka da x kb db y v u H1 H2 R1 R2 s1 s2 r1 r2 q => ?_
  cases x with
  | int i =>
    cases y with
    | int j =>
      obtain rfl := r1.int
      obtain rfl := r2.int
      exact ⟨i, j, rfl, rfl, Fin.val q (.int _)⟩
    | _ => exact q.elim
  | _ => exact q.elim
theorem t_mod (ha : PE X a (T X.K cur g W ea)) (hb : PE X b (T X.K cur g W eb)) : PE X (.BinOp a .Mod b pos) (T X.K cur g W (.bin .mod ea eb)) := by
  refine T.imp (pe_op op_mod ha hb) ?_
  rintro σ H Q ⟨O, ρ, R, h⟩
  refine t_two (k := fun ka da x _ db y => (binop ka .mod x y).map fun r => .ok r.1 (depOf r.2 (da ++ db)) r.2) R h fun ka da x kb db y v u H1 H2 R1 R2 s1 s2 r1 r2 q => ?_
  cases x with
  | int i =>
    cases y with
    | int j =>
      obtain ⟨hz, q⟩ := Fin.ite (r := .ex "") q
      obtain rfl := r1.int
      obtain rfl := r2.int
      exact ⟨i, j, rfl, rfl, hz, Fin.val q (.int _)⟩
    | _ => exact q.elim
  | _ => exact q.elim
theorem t_fdiv (ha : PE X a (T X.K cur g W ea)) (hb : PE X b (T X.K cur g W eb)) : PE X (.BinOp a .FloorDiv b pos) (T X.K cur g W (.bin .fdiv ea eb)) := by
  refine T.imp (pe_op op_fdiv ha hb) ?_
  rintro σ H Q ⟨O, ρ, R, h⟩
  refine t_two (k := fun ka da x _ db y => (binop ka .fdiv x y).map fun r => .ok r.1 (depOf r.2 (da ++ db)) r.2) R h fun ka da x kb db y v u H1 H2 R1 R2 s1 s2 r1 r2 q => ?_
  cases x with
  | int i =>
    cases y with
    | int j =>
      obtain ⟨hz, q⟩ := Fin.ite (r := .ex "") q
      obtain rfl := r1.int
      obtain rfl := r2.int
      exact ⟨i, j, rfl, rfl, hz, Fin.val q (.int _)⟩
    | _ => exact q.elim
  | _ => exact q.elim
theorem natAbs_lt {i : Int} {n : Nat} (h : Nat.blt i.natAbs n = true) : -(n : Int) < i ∧ i < n := by
  have := Nat.le_of_ble_eq_true h
  omega
theorem mulOk_ok {i j : Int} (h : mulOk i j = true) : (-(2 ^ 64) < i ∧ i < 2 ^ 64) ∨ (-(2 ^ 64) < j ∧ j < 2 ^ 64) := by
  unfold mulOk at h
  rcases Bool.or_eq_true_iff.mp h with h | h
  · exact .inl (natAbs_lt h)
  · exact .inr (natAbs_lt h)
theorem small_ok {i : Int} (h : small i = true) : -(2 ^ 62) ≤ i ∧ i < 2 ^ 62 := by
  have := natAbs_lt h
  exact ⟨Int.le_of_lt this.1, this.2⟩
theorem t_pow (ha : PE X a (T X.K cur g W ea)) (hb : PE X b (T X.K cur g W eb)) : PE X (.BinOp a .Pow b pos) (T X.K cur g W (.bin .pow ea eb)) := by
  refine T.imp (pe_op op_powB ha hb) ?_
  rintro σ H Q ⟨O, ρ, R, h⟩
  refine t_two (k := fun ka da x _ db y => (binop ka .pow x y).map fun r => .ok r.1 (depOf r.2 (da ++ db)) r.2) R h fun ka da x kb db y v u H1 H2 R1 R2 s1 s2 r1 r2 q => ?_
  cases x with
  | int i =>
    cases y with
    | int j =>
      obtain ⟨hz, q⟩ := Fin.ite (r := .ex "") q
      obtain rfl := r1.int
      obtain rfl := r2.int
      exact ⟨i, j, rfl, rfl, ⟨hz.1, Int.le_trans hz.2 (by decide)⟩, Fin.val q (.int _)⟩
    | _ => exact q.elim
  | _ => exact q.elim
theorem t_mul (ha : PE X a (T X.K cur g W ea)) (hb : PE X b (T X.K cur g W eb)) : PE X (.BinOp a .Mult b pos) (T X.K cur g W (.bin .mul ea eb)) := by
  refine T.imp (pe_op (op_mul.or (op_repT1.or (op_repT0.or (op_repT.or op_rep)))) ha hb) ?_
  rintro σ H Q ⟨O, ρ, R, h⟩
  refine t_two (k := fun ka da x _ db y => (binop ka .mul x y).map fun r => .ok r.1 (depOf r.2 (da ++ db)) r.2) R h fun ka da x kb db y v u H1 H2 R1 R2 s1 s2 r1 r2 q => ?_
  have up : ∀ {ds : List D} {xs : List V}, RepL X.K H2 (Pm O ρ σ da) ds xs → RepL X.K H2 (Pm O ρ σ (da ++ db)) ds xs := fun h => RepL.stay (fun a u p r => ⟨p.mono fun i z => List.mem_append_left _ z, r⟩) _ h
  cases x with
  | int i =>
    cases y with
    | int j =>
      obtain ⟨hz, q⟩ := Fin.ite (r := .ex "") q
      obtain rfl := r1.int
      obtain rfl := r2.int
      exact .inl ⟨i, j, rfl, rfl, mulOk_ok hz, Fin.val q (.int _)⟩
    | _ => exact q.elim
  | tuple l =>
    cases y with
    | int j =>
      obtain ⟨hz, q⟩ := Fin.ite (r := .ex "") q
      obtain ⟨pa, xs, rfl, qa, la⟩ := r1.tup
      obtain rfl := r2.int
      have e1 := la.length
      have fl : RepL X.K H2 (Pm O ρ σ (da ++ db)) (List.replicate j.toNat l).flatten (List.replicate j.toNat xs).flatten := RepL.flat _ (up la)
      have qa' : QT X.K H2 (Pm O ρ σ (da ++ db)) pa xs := qa.stay fun a u p r => ⟨p.mono fun i z => List.mem_append_left _ z, r⟩
      by_cases hx : xs = []
      · subst hx
        cases l with
        | cons _ _ => cases la
        | nil =>
          refine .inr (.inl ⟨pa, j, [], rfl, rfl, qa.sqt, hz.2.2, hz.2.1, .inl rfl, Fin.val q ?_⟩)
          have e : (List.replicate j.toNat ([] : List D)).flatten = [] := by simp
          rw [e]
          exact .tup qa' .nil
      · by_cases h1 : j = 1
        · subst h1
          refine .inr (.inl ⟨pa, 1, xs, rfl, rfl, qa.sqt, hz.2.2, hz.2.1, .inr rfl, Fin.val q ?_⟩)
          have e : (List.replicate (1 : Int).toNat l).flatten = l := by simp
          rw [e]
          exact .tup qa' (up la)
        · by_cases h0 : j ≤ 0
          · refine .inr (.inr (.inl ⟨pa, j, xs, rfl, rfl, qa.sqt, hz.2.2, h0, hx, fun p n => ?_⟩))
            have e : (List.replicate j.toNat l).flatten = [] := by
              rw [show j.toNat = 0 by omega]; rfl
            rw [e] at q
            exact Fin.tup R2 q .nil n
          · exact .inr (.inr (.inr (.inl ⟨pa, j, xs, rfl, rfl, qa.sqt, hx, by omega, hz.2.1, by omega, fun p n => Fin.tup R2 q fl n⟩)))
    | _ => exact q.elim
  | list l =>
    cases y with
    | int j =>
      obtain ⟨hz, q9⟩ := Fin.ite (r := .ex "") q
      clear q
      obtain ⟨hk, hl, hj, hj'⟩ := hz
      subst hk
      obtain ⟨p, xs, ds, e0, rfl, n, e, r⟩ := r1
      cases e0
      obtain rfl := r2.int
      have la : RepL X.K H2 (Pm O ρ σ da) l xs := RepL.stay (fun a u p r => ⟨p.1, r⟩) _ r
      have e1 := la.length
      refine .inr (.inr (.inr (.inr ⟨p, j, xs, rfl, rfl, e, by omega, by omega, ?_, fun p' n' => Fin.lst R2 q9 (RepL.flat _ (up la)) n'⟩)))
      rw [sizeLine_eq]
      have a1 : xs.length * j.toNat ≤ 1000 * 1000 := Nat.mul_le_mul (by omega) (by omega)
      omega
    | _ => exact q.elim
  | _ => exact q.elim
theorem t_neg (ha : PE X a (T X.K cur g W ea)) : PE X (.UnaryOp .USub a pos) (T X.K cur g W (.neg ea)) := by
  refine T.imp (pe_un un_neg ha) ?_
  rintro σ H Q ⟨O, ρ, R, h⟩
  refine T.bind R h fun k dep d v H1 R1 s1 r1 q => ?_
  cases d with
  | int i =>
    obtain rfl := r1.int
    exact ⟨i, rfl, Fin.val q (.int _)⟩
  | _ => exact q.elim
end
end Vi

set_option maxRecDepth 100000
set_option maxHeartbeats 4000000
namespace Vi
open PySem PySem.Spec PyProof.Rows L2
/-- what a test's reading asks -/
def FinT (K : PySem.W.Frag) (σ : L2.St) (H : Hp) (W : WX) (Q : Bool → Hp → Prop) (r : Option Rs) : Prop := match r with
  | none => False
  | some (.ok _ _ d) => match truth d with
    | none => False
    | some b => ∀ H', Same H H' → Q b H'
  | some (.ex c) => ∀ H', Same H H' → W (.ref (He.ga K c)) none σ H'
section
variable {K : PySem.W.Frag} {cur : Cur} {g : G} {W : WX} {O : Addr → Prop} {ρ : REnv} {σ : L2.St} {H H1 H' : Hp} {Q : VK} {QT : Bool → Hp → Prop} {r : Option Rs} {k : Kd} {dep : List Nat} {d : D} {v : V}
theorem FinT.same (s : Same H H1) (h : FinT K σ H W QT r) : FinT K σ H1 W QT r := by
  cases r with
  | none => exact h
  | some x =>
    cases x with
    | ok k dep d =>
      have h : match truth d with
        | none => False
        | some b => ∀ H', Same H H' → QT b H' := h
      show match truth d with
        | none => False
        | some b => ∀ H', Same H1 H' → QT b H'
      cases e : truth d with
      | none => rw [e] at h; exact h
      | some b => rw [e] at h; exact fun H' s' => h H' (same_trans s s')
    | ex c => exact fun H' s' => h H' (same_trans s s')
theorem FinT.bool {b : Bool} (h : FinT K σ H W QT (some (.ok k dep (.bool b)))) : QT b H := h H same_refl
theorem T.bindT {a : E} {f : Kd → List Nat → D → Option Rs} {Gl : VK} (R : StRel K cur O ρ σ H) (h : FinT K σ H W QT (Rs.map2 (ev g a ρ) f))
    (hk : ∀ k dep d v H1, StRel K cur O ρ σ H1 → Same H H1 → Res K O ρ σ H H1 k dep d v → FinT K σ H1 W QT (f k dep d) → Gl v H1) : T K cur g W a σ H Gl := by
  refine ⟨O, ρ, R, ?_⟩
  cases e : ev g a ρ with
  | none => rw [e] at h; exact h
  | some x =>
    rw [e] at h
    cases x with
    | ok k dep d => exact fun v H' s q => hk k dep d v H' (R.same s) s q (FinT.same s h)
    | ex c => exact h
theorem t_twoT {a b : E} {f : Kd → List Nat → D → Kd → List Nat → D → Option Rs} {Gl : V → V → Hp → Prop} (R : StRel K cur O ρ σ H)
    (h : FinT K σ H W QT (Rs.map2 (ev g a ρ) fun ka da x => Rs.map2 (ev g b ρ) fun kb db y => f ka da x kb db y))
    (hk : ∀ ka da x kb db y v u H1 H2, StRel K cur O ρ σ H1 → StRel K cur O ρ σ H2 → Same H H1 → Same H1 H2 → Res K O ρ σ H H2 ka da x v → Res K O ρ σ H1 H2 kb db y u → FinT K σ H2 W QT (f ka da x kb db y) → Gl v u H2) :
    T K cur g W a σ H fun v H1 => T K cur g W b σ H1 fun u H2 => Gl v u H2 :=
  T.bindT R h fun ka da x v H1 R1 s1 r1 h1 => T.bindT R1 h1 fun kb db y u H2 R2 s2 r2 h2 => hk ka da x kb db y v u H1 H2 R1 R2 s1 s2 (r1.stay s2) r2 h2
/-- a value's truth -/
theorem Res.tru (R : StRel K cur O ρ σ H) (s : Same H H') (h : Res K O ρ σ H H' k dep d v) {b : Bool} (e : truth d = some b) : TruV K v H' b := by
  cases d with
  | none => obtain rfl := h.non; cases e; rfl
  | bool x => obtain rfl := h.bool; cases e; rfl
  | int i => obtain rfl := h.int; cases e; rfl
  | str z =>
    obtain rfl := h.str
    have e : (if z.length ≤ sizeLine then some ((z.length : Int) != 0) else none) = some b := e
    by_cases hz : z.length ≤ sizeLine
    · rw [if_pos hz] at e; cases e; exact ⟨hz, rfl⟩
    · rw [if_neg hz] at e; cases e
  | list l =>
    obtain ⟨a, xs, rfl, q, r⟩ := h.list R s
    cases e
    refine .inl ⟨xs, q, ?_⟩
    cases r <;> rfl
  | tuple l =>
    obtain ⟨a, xs, rfl, q, r⟩ := h.tup
    cases e
    refine .inr (.inl ⟨xs, q.sqt, ?_⟩)
    cases r <;> rfl
  | dict _ => cases e
/-- through a value -/
theorem Tt.of_T {e : E} (h : Tt K cur g W e σ H QT) : T K cur g W e σ H fun x H1 => ∃ b, TruV K x H1 b ∧ QT b H1 := by
  obtain ⟨O, ρ, R, h⟩ := h
  refine ⟨O, ρ, R, ?_⟩
  cases e1 : ev g e ρ with
  | none => rw [e1] at h; exact h
  | some x =>
    rw [e1] at h
    cases x with
    | ok k dep d =>
      intro v H' s q
      have h : match truth d with
        | none => False
        | some b => ∀ H', Same H H' → QT b H' := h
      cases e : truth d with
      | none => rw [e] at h; exact h.elim
      | some b => rw [e] at h; exact ⟨b, q.tru R s e, h H' s⟩
    | ex c => exact h
end
section
variable {X : Cx} {N : List Str} {sc : Scope} {cm : Bool} {cur : Cur} {g : G} {W : WX} {a b c : Expr} {ea eb ec : E} {pos : Pos}
/-- which expressions are tests by their value -/
def plainT : Expr → Bool
  | .UnaryOp .Not _ _ => false
  | .BoolOp _ _ _ => false
  | .IfExp _ _ _ _ => false
  | .Compare _ _ _ _ => false
  | _ => true
theorem plainT_eq {a : Expr} (h : plainT a = true) (env : PySem.Env) (whole : Sem Value) : PySem.isTrue a env whole = (do let v ← whole; standAt a.pos; holding [v] (truthy v)) := by
  unfold plainT at h
  split at h
  · cases h
  · cases h
  · cases h
  · cases h
  · rename_i h1 h2 h3 h4
    unfold PySem.isTrue
    split
    · exact absurd rfl (h1 _ _)
    · exact absurd rfl (h2 _ _ _)
    · exact absurd rfl (h3 _ _ _ _)
    · exact absurd rfl (h4 _ _ _ _)
    · rfl
theorem tt_val (ha : PE X a (T X.K cur g W ea)) (hp : plainT a = true) : PT X a (Tt X.K cur g W ea) :=
  Tt.imp (pt_truth ha (fun w => plainT_eq hp _ w)) fun σ H Q h => Tt.of_T h
/-! ### comparisons -/
structure CmpR (X : Cx) (op : CmpOp) (c : Cm) : Prop where
  ex : ∃ r : R2, OpR X (compareOp op) r ∧ ∀ (d e : D) (v u : V) (H : Hp) (P P' : Addr → Prop) (b : Bool) (Q : VK), Rep X.K H P d v → Rep X.K H P' e u → cmpop c d e = some b → Q (.bl b) H → r v u H Q
theorem ite_some {c : Prop} [Decidable c] {x y : Bool} (h : (if c then some x else none) = some y) : c ∧ x = y := by
  by_cases q : c
  · rw [if_pos q] at h; exact ⟨q, Option.some.inj h⟩
  · rw [if_neg q] at h; cases h
theorem bb {a b : Bool} (h : (a && b) = true) : a = true ∧ b = true := Bool.and_eq_true_iff.mp h
theorem cmp_eq (hu : X.A.units + 65 < cLine) : CmpR X .Eq .eq := ⟨_, op_eqD (by omega), fun d e v u H P P' b Q r1 r2 h q => by
  obtain ⟨h1, rfl⟩ := ite_some h
  exact ⟨d, e, r1.dp, r2.dp, (bb h1).1, (bb h1).2, q⟩⟩
theorem cmp_ne (hu : X.A.units + 65 < cLine) : CmpR X .NotEq .ne := ⟨_, op_neD (by omega), fun d e v u H P P' b Q r1 r2 h q => by
  obtain ⟨h1, rfl⟩ := ite_some h
  exact ⟨d, e, r1.dp, r2.dp, (bb h1).1, (bb h1).2, q⟩⟩
theorem cmp_int {op : CmpOp} {c : Cm} {f : Int → Int → Bool} (h0 : OpR X (compareOp op) (rI0 fun i j => .bl (f i j))) (h1 : ∀ d e b, cmpop c d e = some b → ∃ i j, d = .int i ∧ e = .int j ∧ f i j = b) : CmpR X op c := ⟨_, h0, fun d e v u H P P' b Q r1 r2 h q => by
  obtain ⟨i, j, rfl, rfl, rfl⟩ := h1 d e b h
  cases r1
  cases r2
  exact ⟨i, j, rfl, rfl, q⟩⟩
theorem cmp_lt : CmpR X .Lt .lt := cmp_int op_lt fun d e b h => by
  cases d <;> first | cases h | (cases e <;> first | exact ⟨_, _, rfl, rfl, Option.some.inj h⟩ | cases h)
theorem cmp_le : CmpR X .LtE .le := cmp_int op_le fun d e b h => by
  cases d <;> first | cases h | (cases e <;> first | exact ⟨_, _, rfl, rfl, Option.some.inj h⟩ | cases h)
theorem cmp_gt : CmpR X .Gt .gt := cmp_int op_gt fun d e b h => by
  cases d <;> first | cases h | (cases e <;> first | exact ⟨_, _, rfl, rfl, Option.some.inj h⟩ | cases h)
theorem cmp_ge : CmpR X .GtE .ge := cmp_int op_ge fun d e b h => by
  cases d <;> first | cases h | (cases e <;> first | exact ⟨_, _, rfl, rfl, Option.some.inj h⟩ | cases h)
theorem cmp_isn : CmpR X .Is .isn := ⟨_, op_isN, fun d e v u H P P' b Q r1 r2 h q => by
  cases e <;> first | cases h | skip
  cases r2
  refine ⟨rfl, ?_⟩
  cases d <;> cases r1 <;> simpa using q⟩
theorem cmp_notn : CmpR X .IsNot .notn := ⟨_, op_notN, fun d e v u H P P' b Q r1 r2 h q => by
  cases e <;> first | cases h | skip
  cases r2
  refine ⟨rfl, ?_⟩
  cases d <;> cases r1 <;> simpa using q⟩
theorem sign_of {y : Str} (h : y.cps.size = 1) : y = ⟨#[y.cps.getD 0 0]⟩ := by
  obtain ⟨⟨l⟩⟩ := y
  match l, h with
  | [c], _ => rfl
theorem cmp_in (hu : X.A.units + 65 < cLine) : CmpR X .In .inn := ⟨_, (op_inD hu).or ((op_inTD hu).or op_in_sign), fun d e v u H P P' b Q r1 r2 h q => by
  cases e with
  | list l =>
    obtain ⟨h1, rfl⟩ := ite_some h
    exact .inl ⟨d, l, r1.dp, r2.dp, (bb h1).1, (bb h1).2, q⟩
  | tuple l =>
    obtain ⟨h1, rfl⟩ := ite_some h
    exact .inr (.inl ⟨d, l, r1.dp, r2.dp, (bb h1).1, (bb h1).2, q⟩)
  | str z =>
    cases d with
    | str y =>
      obtain ⟨h1, rfl⟩ := ite_some h
      cases r1
      cases r2
      exact .inr (.inr ⟨y.cps.getD 0 0, z, by rw [← sign_of h1], rfl, q⟩)
    | _ => cases h
  | _ => cases h⟩
theorem cmp_nin (hu : X.A.units + 65 < cLine) : CmpR X .NotIn .nin := ⟨_, (op_notInD hu).or ((op_notInTD hu).or op_notIn_sign), fun d e v u H P P' b Q r1 r2 h q => by
  cases e with
  | list l =>
    obtain ⟨h1, rfl⟩ := ite_some h
    exact .inl ⟨d, l, r1.dp, r2.dp, (bb h1).1, (bb h1).2, q⟩
  | tuple l =>
    obtain ⟨h1, rfl⟩ := ite_some h
    exact .inr (.inl ⟨d, l, r1.dp, r2.dp, (bb h1).1, (bb h1).2, q⟩)
  | str z =>
    cases d with
    | str y =>
      obtain ⟨h1, rfl⟩ := ite_some h
      cases r1
      cases r2
      exact .inr (.inr ⟨y.cps.getD 0 0, z, by rw [← sign_of h1], rfl, q⟩)
    | _ => cases h
  | _ => cases h⟩
def opB : Cm → CmpOp
  | .eq => .Eq | .ne => .NotEq | .lt => .Lt | .le => .LtE | .gt => .Gt | .ge => .GtE | .isn => .Is | .notn => .IsNot | .inn => .In | .nin => .NotIn
theorem cmpR (hu : X.A.units + 65 < cLine) : ∀ c, CmpR X (opB c) c
  | .eq => cmp_eq hu | .ne => cmp_ne hu | .lt => cmp_lt | .le => cmp_le | .gt => cmp_gt | .ge => cmp_ge | .isn => cmp_isn | .notn => cmp_notn | .inn => cmp_in hu | .nin => cmp_nin hu
theorem t_cmp {op : CmpOp} {c : Cm} (hc : CmpR X op c) (ha : PE X a (T X.K cur g W ea)) (hb : PE X b (T X.K cur g W eb)) (hm : behindInMarks op b = false) : PE X (.Compare a [op] [b] pos) (T X.K cur g W (.cmp c ea eb)) := by
  obtain ⟨r, ho, hr⟩ := hc.ex
  refine T.imp (pe_cmpR ho ha hb hm) ?_
  rintro σ H Q ⟨O, ρ, R, h⟩
  refine t_two (k := fun _ _ x _ _ y => (cmpop c x y).map fun r => .ok .plain [] (.bool r)) R h fun ka da x kb db y v u H1 H2 R1 R2 s1 s2 r1 r2 q => ?_
  cases e : cmpop c x y with
  | none => rw [e] at q; exact q.elim
  | some b =>
    rw [e] at q
    exact hr x y v u H2 _ _ b Q (r1.rep R (same_trans s1 s2)) (r2.rep R1 s2) e (Fin.val q (.bl b))
theorem tt_cmp {op : CmpOp} {c : Cm} (hc : CmpR X op c) (ha : PE X a (T X.K cur g W ea)) (hb : PE X b (T X.K cur g W eb)) (hm : behindInMarks op b = false) : PT X (.Compare a [op] [b] pos) (Tt X.K cur g W (.cmp c ea eb)) := by
  obtain ⟨r, ho, hr⟩ := hc.ex
  refine Tt.imp (pt_cmpR ho ha hb hm) ?_
  rintro σ H Q ⟨O, ρ, R, h⟩
  refine t_twoT (f := fun _ _ x _ _ y => (cmpop c x y).map fun r => .ok .plain [] (.bool r)) R h fun ka da x kb db y v u H1 H2 R1 R2 s1 s2 r1 r2 q => ?_
  cases e : cmpop c x y with
  | none => rw [e] at q; exact q.elim
  | some b =>
    rw [e] at q
    exact hr x y v u H2 _ _ b _ (r1.rep R (same_trans s1 s2)) (r2.rep R1 s2) e ⟨b, rfl, FinT.bool q⟩
theorem t_cmp2 {op op' : CmpOp} {c c' : Cm} {a b d : Expr} {ea eb ed : E} (hc : CmpR X op c) (hc' : CmpR X op' c') (ha : PE X a (T X.K cur g W ea)) (hb : PE X b (T X.K cur g W eb)) (hd : PE X d (T X.K cur g W ed)) (hm : lastMarks [op, op'] [b, d] = false) :
    PE X (.Compare a [op, op'] [b, d] pos) (T X.K cur g W (.cmp2 c c' ea eb ed)) := by
  obtain ⟨r, ho, hr⟩ := hc.ex
  obtain ⟨r', ho', hr'⟩ := hc'.ex
  refine T.imp (pe_chain ho ho' ha hb hd hm) ?_
  rintro σ H Q ⟨O, ρ, R, h⟩
  refine t_two (k := fun _ _ x _ _ y => (cmpop c x y).bind fun r => if r = true then Rs.map2 (ev g ed ρ) fun _ _ z => (cmpop c' y z).map fun r => .ok .plain [] (.bool r) else some (.ok .plain [] (.bool false))) R h fun ka da x kb db y v u H1 H2 R1 R2 s1 s2 r1 r2 q => ?_
  cases e : cmpop c x y with
  | none => rw [e] at q; exact q.elim
  | some b =>
    rw [e] at q
    refine hr x y v u H2 _ _ b _ (r1.rep R (same_trans s1 s2)) (r2.rep R1 s2) e ⟨b, rfl, ?_⟩
    cases b with
    | false => exact Fin.val q (.bl false)
    | true =>
      rw [if_pos rfl]
      refine T.bind R2 q fun kz dz z w H3 R3 s3 r3 q3 => ?_
      cases e3 : cmpop c' y z with
      | none => rw [e3] at q3; exact q3.elim
      | some b3 =>
        rw [e3] at q3
        exact hr' y z u w H3 _ _ b3 _ ((r2.stay s3).rep R1 (same_trans s2 s3)) (r3.rep R2 s3) e3 (Fin.val q3 (.bl b3))
theorem tt_cmp2 {op op' : CmpOp} {c c' : Cm} {a b d : Expr} {ea eb ed : E} (hc : CmpR X op c) (hc' : CmpR X op' c') (ha : PE X a (T X.K cur g W ea)) (hb : PE X b (T X.K cur g W eb)) (hd : PE X d (T X.K cur g W ed)) (hm : lastMarks [op, op'] [b, d] = false) :
    PT X (.Compare a [op, op'] [b, d] pos) (Tt X.K cur g W (.cmp2 c c' ea eb ed)) := by
  obtain ⟨r, ho, hr⟩ := hc.ex
  obtain ⟨r', ho', hr'⟩ := hc'.ex
  refine Tt.imp (pt_chain ho ho' ha hb hd hm) ?_
  rintro σ H Q ⟨O, ρ, R, h⟩
  refine t_twoT (f := fun _ _ x _ _ y => (cmpop c x y).bind fun r => if r = true then Rs.map2 (ev g ed ρ) fun _ _ z => (cmpop c' y z).map fun r => .ok .plain [] (.bool r) else some (.ok .plain [] (.bool false))) R h fun ka da x kb db y v u H1 H2 R1 R2 s1 s2 r1 r2 q => ?_
  cases e : cmpop c x y with
  | none => rw [e] at q; exact q.elim
  | some b =>
    rw [e] at q
    refine hr x y v u H2 _ _ b _ (r1.rep R (same_trans s1 s2)) (r2.rep R1 s2) e ⟨b, rfl, ?_⟩
    cases b with
    | false => exact ⟨false, rfl, FinT.bool q⟩
    | true =>
      rw [if_pos rfl]
      refine T.bindT R2 q fun kz dz z w H3 R3 s3 r3 q3 => ?_
      cases e3 : cmpop c' y z with
      | none => rw [e3] at q3; exact q3.elim
      | some b3 =>
        rw [e3] at q3
        exact hr' y z u w H3 _ _ b3 _ ((r2.stay s3).rep R1 (same_trans s2 s3)) (r3.rep R2 s3) e3 ⟨b3, rfl, FinT.bool q3⟩
end
end Vi

set_option maxRecDepth 100000
set_option maxHeartbeats 4000000
namespace Vi
open PySem PySem.Spec PyProof.Rows L2 HT
section
variable {prog : Program} {w : World} {A : Around} {E : Value → Shared → Prop} {s : Shared}
theorem fm_congr {α β : Type} {f f' : α → Option β} : ∀ {l : List α}, (∀ x ∈ l, f x = f' x) → l.filterMap f = l.filterMap f'
  | [], _ => rfl
  | a :: l, h => by
    rw [List.filterMap_cons, List.filterMap_cons, h a (List.mem_cons_self ..), fm_congr fun x hx => h x (List.mem_cons_of_mem _ hx)]
theorem pick_rev (xs : Array Value) : ((List.range xs.size).filterMap fun (m : Nat) => xs[(((xs.size : Int) - 1) + (m : Int) * (-1)).toNat]?).toArray = xs.toList.reverse.toArray := by
  have e : (List.range xs.size).filterMap (fun (m : Nat) => xs[(((xs.size : Int) - 1) + (m : Int) * (-1)).toNat]?) = (List.range xs.size).reverse.filterMap (xs[·]?) := by
    rw [← PySem.W.krv_range, List.filterMap_map]
    refine fm_congr fun m hm => ?_
    have hm := List.mem_range.mp hm
    show xs[(((xs.size : Int) - 1) + (m : Int) * (-1)).toNat]? = xs[xs.size - 1 - m]?
    congr 1
    omega
  rw [e, List.filterMap_reverse, PySem.W.krv_all]
theorem applied_rev {sl : Addr} {vk : Value} {n : Nat} {Q : Int × Int × Nat → Shared → Prop} (hs : s.heap.get? sl = some { cls := .type "slice", data := .fields #[.none, .none, vk] }) (pk : IsPart vk (some (-1)))
    (h : Q ((n : Int) - 1, -1, n) s) : wpAny (model prog w) A (Builtin.Slice.sliceApplied (.ref sl) (pure (n : Int))) Q E s := by
  unfold Builtin.Slice.sliceApplied Builtin.Slice.sliceFields
  refine wpAny_bind (wpAny_bind (wpAny_field hs rfl (x := .none) rfl (wpAny_bind (wpAny_field hs rfl (x := .none) rfl (wpAny_bind (wpAny_field hs rfl (x := vk) rfl (wpAny_pure ?_)))))))
  refine wpAny_bind (slicePart_ pk ?_)
  show wpAny _ _ (if ((-1 : Int) == 0) = true then _ else _) _ _ s
  rw [if_neg (by decide)]
  refine wpAny_bind (slicePart_none (wpAny_bind (slicePart_none (wpAny_bind (wpAny_pure ?_)))))
  show wpAny _ _ (match Builtin.Slice.sliceAdjust none none (-1) (n : Int) with | (lo, hi) => pure (lo, (-1 : Int), Builtin.Slice.slicePlaces lo hi (-1))) _ _ s
  show wpAny _ _ (pure ((n : Int) - 1, (-1 : Int), Builtin.Slice.slicePlaces ((n : Int) - 1) (-1) (-1))) _ _ s
  have e : Builtin.Slice.slicePlaces ((n : Int) - 1) (-1) (-1) = n := by
    unfold Builtin.Slice.slicePlaces
    rw [if_neg (by decide)]
    by_cases h0 : n = 0
    · subst h0; rfl
    · rw [if_pos (by omega)]
      have : ((n : Int) - 1 - -1 - 1) / - -1 + 1 = n := by
        rw [show (- -1 : Int) = 1 by rfl, Int.ediv_one]; omega
      rw [this]
      exact Int.toNat_natCast n
  rw [e]
  exact wpAny_pure h
theorem getItem_tuple_rev {t sl : Addr} {items : Array Value} {vk : Value} {Q : Value → Shared → Prop} (ht : IsTup s.heap t items) (hs : s.heap.get? sl = some { cls := .type "slice", data := .fields #[.none, .none, vk] }) (pk : IsPart vk (some (-1)))
    (h : Q (.ref s.heap.objs.size) { s with heap := s.heap.push { cls := .type "tuple", data := .seq items.toList.reverse.toArray } })
    (hsz : items.size ≤ sizeLine) : wpAny (model prog w) A (getItem (.ref t) (.ref sl)) Q E s := by
  have hTs : s.TypeIs (.ref sl) "slice" := ⟨_, hs, rfl⟩
  have htake : sizeOk (.seq items.toList.reverse.toArray) := by
    show items.toList.reverse.toArray.size ≤ sizeLine
    rw [List.size_toArray, List.length_reverse, Array.length_toList]
    exact hsz
  unfold getItem
  try with_reducible refine wpAny_holding ?_
  first | refine wpAny_bind (wpAny_pure ?_) | skip
  refine wpAny_bind (wpAny_sequenceKey ht.typeIs (by decide) ?_)
  refine wpAny_bind (wpAny_callSpecial?_slot (name := Str.ofString "__getitem__") ht.typeIs PyProof.Rows.slot_tuple_getitem
    (wpAny_call_entry PyProof.Rows.slot_tuple_getitem ht.typeIs entry_tuple_getitem ?_ (args_tuple_getitem _ _)))
  show wpAny _ _ (Builtin.Tuple.tupleItemsOf (.ref t) >>= _) _ _ s
  refine wpAny_bind (tupleItemsOf_ ht ?_)
  refine wpAny_bind (wpAny_typeOf hTs ?_)
  rw [if_pos (by decide)]
  refine wpAny_bind (applied_rev hs pk ?_)
  show wpAny _ _ (if (((items.size : Int) - 1) == 0 && (-1 : Int) == 1 && items.size == items.size) = true then _ else _) _ _ s
  rw [if_neg (by simp), pick_rev]
  first
    | exact wpAny_bind (wpAny_bind (wpAny_newObj_type (wpAny_pure ⟨_, rfl, wpAny_pure h⟩) htake))
    | exact wpAny_bind (wpAny_newObj_type (wpAny_pure ⟨_, rfl, wpAny_pure h⟩) htake)
    | exact wpAny_bind (m := Builtin.Tuple.tupleExact _) (wpAny_newObj_type (wpAny_pure ⟨_, rfl, wpAny_pure h⟩) htake)
    | exact wpAny_bind (m := Builtin.Tuple.tupleExact _) (wpAny_newObj_type (wpAny_bind (wpAny_pure (wpAny_pure ⟨_, rfl, wpAny_pure h⟩))) htake)
    | exact wpAny_bind (wpAny_bind (m := Builtin.Tuple.tupleExact _) (wpAny_newObj_type (wpAny_pure (wpAny_pure ⟨_, rfl, wpAny_pure h⟩)) htake))
    | exact wpAny_bind (wpAny_bind (m := Builtin.Tuple.tupleExact _) (wpAny_newObj_type (wpAny_pure ⟨_, rfl, wpAny_pure h⟩) htake))
end
theorem Vals.rev : ∀ {xs : List V} {us : List Value}, Vals xs us → Vals xs.reverse us.reverse
  | _, _, .nil => .nil
  | _, _, .cons r t => by
    rw [List.reverse_cons, List.reverse_cons]
    exact (Vals.rev t).append (.cons r .nil)
/-- a[::-1] -/
def tRev (K : PySem.W.Frag) (te : TE) : TE := fun σ H Q => te σ H fun x H1 => ∃ a xs, x = .ref a ∧
  ((SqL K H1 a xs ∧ ∀ p, H1 p = none → Q (.ref p) (upd H1 p (.lst xs.reverse))) ∨ (SqT K H1 a xs ∧ ∀ p, H1 p = none → Q (.ref p) (upd H1 p (.tup xs.reverse))))
section
variable {X : Cx} {e : Expr} {te : TE} {pos p2 p3 p4 : Pos} {k3 : Nat}
theorem pe_rev (he : PE X e te) : PE X (.Subscript e (.Slice none none (some (.UnaryOp .USub (.Constant (.int 1) k3 p4) p3)) p2) pos) (tRev X.K te) := by
  have hk : PO X (some (.UnaryOp .USub (.Constant (.int 1) k3 p4) p3)) (tPart (tUn (rU fun i => .int (-i)) (tC (.int 1)))) := po_some (pe_un un_neg pe_int)
  refine ⟨fun pins s σ H Q I h => ?_⟩
  refine Subscript_ (thn (he.run pins s σ H _ I h) fun v s1 ⟨x, H1, I1, r1, q1⟩ => ?_)
  refine wpAny_Slice ?_
  rw [evalPart_none]
  refine wpAny_pure ?_
  refine wpAny_pure ?_
  refine thn (hk.run pins s1 σ H1 (fun o H2 => o = some (-1) ∧ H2 = H1) I1 ⟨1, rfl, -1, rfl, rfl, rfl⟩) fun vk s2 ⟨o, H2, I2, pk, e1, e2⟩ => ?_
  subst e1
  subst e2
  obtain ⟨a, xs, rfl, q⟩ := q1
  cases r1
  have I4 : Inv X pins σ H2 { s2 with heap := s2.heap.push { cls := .type "slice", data := .fields #[.none, .none, vk] } } := I2.kept (t' := s2.toks) fun b ob q => Heap.get?_push_of_some _ q
  have hsl : (s2.heap.push { cls := .type "slice", data := .fields #[.none, .none, vk] }).get? s2.heap.objs.size = some { cls := .type "slice", data := .fields #[.none, .none, vk] } := Heap.get?_push_size _ rfl
  rcases q with ⟨hq, q⟩ | ⟨hq, q⟩
  · obtain ⟨its, r, ht, hz⟩ := I4.list hq
    have hlen := r.length
    have hg : wpAny (model X.prog X.w) X.A (getItem (.ref a) (.ref s2.heap.objs.size)) (EP X pins σ Q) X.xe { s2 with heap := s2.heap.push { cls := .type "slice", data := .fields #[.none, .none, vk] } } := by
      refine wpAny_getItem_list_slice ht.isList (Heap.IsSliceOf.new ..) .none .none pk (by decide) ?_ (by rw [List.size_toArray]; omega)
      rw [PySem.W.krv_pick]
      refine ⟨.ref _, _, I4.laid (t' := s2.toks) (o := .lst xs.reverse) (fun b ob q => Heap.get?_push_of_some _ q) (Nat.le_refl _) ?_, rfl, q _ (I4.hok.fresh (Nat.le_refl _))⟩
      refine ⟨by rw [List.length_reverse]; exact hz, its.reverse, 0, ?_, ?_⟩
      · exact Vals.rev r
      · exact Heap.get?_push_size _ rfl
    exact tail_any (ops := [.ref a, .ref s2.heap.objs.size]) ht.isList.typeIs slot_list_getitem.lookup hg (by with_unfolding_all rfl)
  · obtain ⟨its, r, ht, hz⟩ := I4.tuple hq
    have hlen := r.length
    have hg : wpAny (model X.prog X.w) X.A (getItem (.ref a) (.ref s2.heap.objs.size)) (EP X pins σ Q) X.xe { s2 with heap := s2.heap.push { cls := .type "slice", data := .fields #[.none, .none, vk] } } := by
      refine getItem_tuple_rev ht hsl pk ?_ (by rw [List.size_toArray]; omega)
      refine ⟨.ref _, _, I4.laid (t' := s2.toks) (o := .tup xs.reverse) (fun b ob q => Heap.get?_push_of_some _ q) (Nat.le_refl _) ?_, rfl, q _ (I4.hok.fresh (Nat.le_refl _))⟩
      exact ⟨by rw [List.length_reverse]; exact hz, its.reverse, Vals.rev r, IsTup.new _ _⟩
    exact tail_any (ops := [.ref a, .ref s2.heap.objs.size]) ht.typeIs PyProof.Rows.slot_tuple_getitem.lookup hg (by with_unfolding_all rfl)
end
end Vi

set_option maxRecDepth 100000
set_option maxHeartbeats 4000000
namespace Vi
open PySem PySem.Spec PyProof.Rows L2
section
variable {X : Cx} {N : List Str} {sc : Scope} {cm : Bool} {cur : Cur} {g : G} {W : WX} {a b c : Expr} {ea eb ec : E} {pos : Pos} {rest : List Expr}
/-! ### and, or, not, if -/
theorem t_one {op : BoolOp} (ha : PE X a (T X.K cur g W ea)) : PE X (.BoolOp op [a] pos) (T X.K cur g W (.one ea)) := T.imp (pe_one ha) fun _ _ _ h => h
theorem t_land (ha : PE X a (T X.K cur g W ea)) (hb : PE X (.BoolOp .And (b :: rest) pos) (T X.K cur g W eb)) : PE X (.BoolOp .And (a :: b :: rest) pos) (T X.K cur g W (.land ea eb)) := by
  refine T.imp (pe_andT ha hb) ?_
  rintro σ H Q ⟨O, ρ, R, h⟩
  refine T.bind R h fun k dep d v H1 R1 s1 r1 q => ?_
  cases e : truth d with
  | none => rw [e] at q; exact q.elim
  | some t =>
    rw [e] at q
    refine ⟨t, r1.tru R s1 e, ?_⟩
    cases t with
    | true => exact ⟨O, ρ, R1, q⟩
    | false => exact Fin.val q (r1.rep R s1)
theorem t_lor (ha : PE X a (T X.K cur g W ea)) (hb : PE X (.BoolOp .Or (b :: rest) pos) (T X.K cur g W eb)) : PE X (.BoolOp .Or (a :: b :: rest) pos) (T X.K cur g W (.lor ea eb)) := by
  refine T.imp (pe_orT ha hb) ?_
  rintro σ H Q ⟨O, ρ, R, h⟩
  refine T.bind R h fun k dep d v H1 R1 s1 r1 q => ?_
  cases e : truth d with
  | none => rw [e] at q; exact q.elim
  | some t =>
    rw [e] at q
    refine ⟨t, r1.tru R s1 e, ?_⟩
    cases t with
    | false => exact ⟨O, ρ, R1, q⟩
    | true => exact Fin.val q (r1.rep R s1)
theorem t_not (ha : PE X a (T X.K cur g W ea)) : PE X (.UnaryOp .Not a pos) (T X.K cur g W (.not ea)) := by
  refine T.imp (pe_notT ha) ?_
  rintro σ H Q ⟨O, ρ, R, h⟩
  refine T.bind R h fun k dep d v H1 R1 s1 r1 q => ?_
  cases e : truth d with
  | none => rw [e] at q; exact q.elim
  | some t =>
    rw [e] at q
    exact ⟨t, r1.tru R s1 e, Fin.val q (.bl _)⟩
/-- a test first -/
theorem Tt.bind {K : PySem.W.Frag} {O : Addr → Prop} {ρ : REnv} {σ : L2.St} {H : Hp} {QT Gl : Bool → Hp → Prop} {e : E} {f : Bool → Option Rs} (R : StRel K cur O ρ σ H)
    (h : FinT K σ H W QT (Rs.map2 (ev g e ρ) fun _ _ x => (truth x).bind f)) (hk : ∀ t H1, StRel K cur O ρ σ H1 → Same H H1 → FinT K σ H1 W QT (f t) → Gl t H1) : Tt K cur g W e σ H Gl := by
  refine ⟨O, ρ, R, ?_⟩
  cases e1 : ev g e ρ with
  | none => rw [e1] at h; exact h
  | some x =>
    rw [e1] at h
    cases x with
    | ok k dep d =>
      show match truth d with
        | none => False
        | some b => ∀ H', Same H H' → Gl b H'
      have h : FinT K σ H W QT ((truth d).bind f) := h
      cases e : truth d with
      | none => rw [e] at h; exact h
      | some b => rw [e] at h; exact fun H' s => hk b H' (R.same s) s (FinT.same s h)
    | ex c => exact h
theorem Tt.bindV {K : PySem.W.Frag} {O : Addr → Prop} {ρ : REnv} {σ : L2.St} {H : Hp} {Q : VK} {Gl : Bool → Hp → Prop} {e : E} {f : Bool → Option Rs} (R : StRel K cur O ρ σ H)
    (h : Fin K O ρ σ H W Q (Rs.map2 (ev g e ρ) fun _ _ x => (truth x).bind f)) (hk : ∀ t H1, StRel K cur O ρ σ H1 → Same H H1 → Fin K O ρ σ H1 W Q (f t) → Gl t H1) : Tt K cur g W e σ H Gl := by
  refine ⟨O, ρ, R, ?_⟩
  cases e1 : ev g e ρ with
  | none => rw [e1] at h; exact h
  | some x =>
    rw [e1] at h
    cases x with
    | ok k dep d =>
      show match truth d with
        | none => False
        | some b => ∀ H', Same H H' → Gl b H'
      have h : Fin K O ρ σ H W Q ((truth d).bind f) := h
      cases e : truth d with
      | none => rw [e] at h; exact h
      | some b => rw [e] at h; exact fun H' s => hk b H' (R.same s) s (Fin.same s h)
    | ex c => exact h
theorem tt_not (ha : PT X a (Tt X.K cur g W ea)) : PT X (.UnaryOp .Not a pos) (Tt X.K cur g W (.not ea)) := by
  refine Tt.imp (pt_not ha) ?_
  rintro σ H Q ⟨O, ρ, R, h⟩
  refine Tt.bind (f := fun t => some (.ok .plain [] (.bool (!t)))) R (QT := Q) ?_ fun t H1 R1 s1 q => FinT.bool q
  have h : FinT X.K σ H W Q (Rs.map2 (ev g ea ρ) fun _ _ x => (truth x).map fun t => .ok .plain [] (.bool (!t))) := h
  cases e1 : ev g ea ρ with
  | none => rw [e1] at h; exact h
  | some x =>
    rw [e1] at h
    cases x with
    | ok k dep d =>
      have h : FinT X.K σ H W Q ((truth d).map fun t => .ok .plain [] (.bool (!t))) := h
      show FinT X.K σ H W Q ((truth d).bind fun t => some (.ok .plain [] (.bool (!t))))
      cases e : truth d with
      | none => rw [e] at h; exact h
      | some b => rw [e] at h; exact h
    | ex c => exact h
theorem tw_and1 (ha : PT X a (Tt X.K cur g W ea)) : PW X (.BoolOp .And [a] pos) (Tt X.K cur g W (.one ea)) := ⟨fun w pins s σ H Q I h => (pw_and1 ha).run w pins s σ H Q I h⟩
theorem tw_or1 (ha : PT X a (Tt X.K cur g W ea)) : PW X (.BoolOp .Or [a] pos) (Tt X.K cur g W (.one ea)) := ⟨fun w pins s σ H Q I h => (pw_or1 ha).run w pins s σ H Q I h⟩
theorem Fin_lift {K : PySem.W.Frag} {O : Addr → Prop} {ρ : REnv} {σ : L2.St} {H : Hp} {QT : Bool → Hp → Prop} {e : E} {x : D → Kd → List Nat → Option Rs} {y : Bool → Option Rs} (h : FinT K σ H W QT (Rs.map2 (ev g e ρ) fun k dep d => (truth d).bind fun t => x d k dep))
    (hy : ∀ d k dep t, truth d = some t → FinT K σ H W QT (x d k dep) → FinT K σ H W QT (y t)) : FinT K σ H W QT (Rs.map2 (ev g e ρ) fun _ _ d => (truth d).bind y) := by
  cases e1 : ev g e ρ with
  | none => rw [e1] at h; exact h
  | some z =>
    rw [e1] at h
    cases z with
    | ok k dep d =>
      have h : FinT K σ H W QT ((truth d).bind fun t => x d k dep) := h
      show FinT K σ H W QT ((truth d).bind y)
      cases e : truth d with
      | none => rw [e] at h; exact h
      | some b => rw [e] at h; exact hy d k dep b e h
    | ex c => exact h
theorem tw_and (ha : PT X a (Tt X.K cur g W ea)) (hb : PW X (.BoolOp .And (b :: rest) pos) (Tt X.K cur g W eb)) : PW X (.BoolOp .And (a :: b :: rest) pos) (Tt X.K cur g W (.land ea eb)) := by
  refine ⟨fun w pins s σ H Q I h => (pw_and ha hb).run w pins s σ H Q I ?_⟩
  obtain ⟨O, ρ, R, h⟩ := h
  have h : FinT X.K σ H W Q (Rs.map2 (ev g ea ρ) fun ka da x => (truth x).bind fun t => if t = true then ev g eb ρ else some (.ok .plain (ka.tot da) x)) := h
  refine Tt.bind (QT := Q) (f := fun t => if t = true then ev g eb ρ else some (.ok .plain [] (.bool false))) R ?_ fun t H1 R1 s1 q => ?_
  · cases e1 : ev g ea ρ with
    | none => rw [e1] at h; exact h
    | some z =>
      rw [e1] at h
      cases z with
      | ok k dep d =>
        have h : FinT X.K σ H W Q ((truth d).bind fun t => if t = true then ev g eb ρ else some (.ok .plain (k.tot dep) d)) := h
        show FinT X.K σ H W Q ((truth d).bind fun t => if t = true then ev g eb ρ else some (.ok .plain [] (.bool false)))
        cases e : truth d with
        | none => rw [e] at h; exact h
        | some t =>
          rw [e] at h
          cases t with
          | true => exact h
          | false =>
            have h : match truth d with
              | none => False
              | some b => ∀ H', Same H H' → Q b H' := h
            rw [e] at h
            exact h
      | ex c => exact h
  · cases t with
    | true => exact ⟨O, ρ, R1, q⟩
    | false => exact FinT.bool q
theorem tw_or (ha : PT X a (Tt X.K cur g W ea)) (hb : PW X (.BoolOp .Or (b :: rest) pos) (Tt X.K cur g W eb)) : PW X (.BoolOp .Or (a :: b :: rest) pos) (Tt X.K cur g W (.lor ea eb)) := by
  refine ⟨fun w pins s σ H Q I h => (pw_or ha hb).run w pins s σ H Q I ?_⟩
  obtain ⟨O, ρ, R, h⟩ := h
  have h : FinT X.K σ H W Q (Rs.map2 (ev g ea ρ) fun ka da x => (truth x).bind fun t => if t = true then some (.ok .plain (ka.tot da) x) else ev g eb ρ) := h
  refine Tt.bind (QT := Q) (f := fun t => if t = true then some (.ok .plain [] (.bool true)) else ev g eb ρ) R ?_ fun t H1 R1 s1 q => ?_
  · cases e1 : ev g ea ρ with
    | none => rw [e1] at h; exact h
    | some z =>
      rw [e1] at h
      cases z with
      | ok k dep d =>
        have h : FinT X.K σ H W Q ((truth d).bind fun t => if t = true then some (.ok .plain (k.tot dep) d) else ev g eb ρ) := h
        show FinT X.K σ H W Q ((truth d).bind fun t => if t = true then some (.ok .plain [] (.bool true)) else ev g eb ρ)
        cases e : truth d with
        | none => rw [e] at h; exact h
        | some t =>
          rw [e] at h
          cases t with
          | false => exact h
          | true =>
            have h : match truth d with
              | none => False
              | some b => ∀ H', Same H H' → Q b H' := h
            rw [e] at h
            exact h
      | ex c => exact h
  · cases t with
    | false => exact ⟨O, ρ, R1, q⟩
    | true => exact FinT.bool q
theorem t_ife (hc : PT X c (Tt X.K cur g W ec)) (ha : PE X a (T X.K cur g W ea)) (hb : PE X b (T X.K cur g W eb)) : PE X (.IfExp c a b pos) (T X.K cur g W (.ife ec ea eb)) := by
  refine T.imp (pe_ifExp hc ha hb) ?_
  rintro σ H Q ⟨O, ρ, R, h⟩
  refine Tt.bindV (f := fun t => if t = true then ev g ea ρ else ev g eb ρ) R h fun t H1 R1 s1 q => ?_
  cases t with
  | true => exact ⟨O, ρ, R1, q⟩
  | false => exact ⟨O, ρ, R1, q⟩
/-! ### arguments, displays -/
theorem Pm.tup {K : PySem.W.Frag} {cur : Cur} {O : Addr → Prop} {ρ : REnv} {σ : L2.St} {H : Hp} {dep : List Nat} {a : Addr} {xs : List V} (R : StRel K cur O ρ σ H) (p : Pm O ρ σ dep a) (r : Rd H a (.tup xs)) : Pm O ρ σ [] a := .of_not p.1 fun ⟨i, ds, e1, e2⟩ => by
  obtain ⟨b, ys, e3, e4, _⟩ := R.own i ds e1
  rw [e2] at e3
  cases e3
  rcases r with r | ⟨o, r⟩ <;> · rw [e4] at r; cases r
theorem QT.free {K : PySem.W.Frag} {cur : Cur} {O : Addr → Prop} {ρ : REnv} {σ : L2.St} {H : Hp} {dep : List Nat} {a : Addr} {xs : List V} (R : StRel K cur O ρ σ H) (q : QT K H (Pm O ρ σ dep) a xs) : QT K H (Pm O ρ σ []) a xs := q.elim (fun z => .inl ⟨Pm.tup R z.1 z.2, z.2⟩) .inr
theorem RepL.mapR {K : PySem.W.Frag} {H : Hp} {P P' : Addr → Prop} {f : D → Bool} (h : ∀ d v, f d = true → Rep K H P d v → Rep K H P' d v) : ∀ {ds : List D} {vs : List V}, ds.all f = true → RepL K H P ds vs → RepL K H P' ds vs
  | [], _, _, r => by cases r; exact .nil
  | d :: ds, _, a, r => by
    obtain ⟨a1, a2⟩ := bb (show (f d && ds.all f) = true from a)
    cases r with
    | cons x y => exact .cons (h d _ a1 x) (RepL.mapR h a2 y)
theorem Rep.flat1 {K : PySem.W.Frag} {cur : Cur} {O : Addr → Prop} {ρ : REnv} {σ : L2.St} {H : Hp} {dep : List Nat} (R : StRel K cur O ρ σ H) (d : D) (v : V) (f : Vi.flat1 d = true) (h : Rep K H (Pm O ρ σ dep) d v) : Rep K H (Pm O ρ σ []) d v := by
  cases h with
  | non => exact .non
  | bl b => exact .bl b
  | int i => exact .int i
  | str x => exact .str x
  | lst _ _ => cases f
  | tup q r => exact .tup (q.free R) (RepL.mapR (f := atom) (fun d v a r => r.atom_any a) f r)
theorem Rep.flat {K : PySem.W.Frag} {cur : Cur} {O : Addr → Prop} {ρ : REnv} {σ : L2.St} {H : Hp} {dep : List Nat} (R : StRel K cur O ρ σ H) (d : D) (v : V) (f : Vi.flat d = true) (h : Rep K H (Pm O ρ σ dep) d v) : Rep K H (Pm O ρ σ []) d v := by
  cases h with
  | non => exact .non
  | bl b => exact .bl b
  | int i => exact .int i
  | str x => exact .str x
  | lst _ _ => cases f
  | tup q r => exact .tup (q.free R) (RepL.mapR (f := Vi.flat1) (Rep.flat1 R) f r)
theorem Rep.dep {K : PySem.W.Frag} {cur : Cur} {O : Addr → Prop} {ρ : REnv} {σ : L2.St} {H : Hp} {d : D} {v : V} {dep : List Nat} (R : StRel K cur O ρ σ H) (h : Rep K H (Pm O ρ σ dep) d v) : Rep K H (Pm O ρ σ (depF d dep)) d v := by
  unfold depF
  by_cases e : Vi.flat d = true
  · rw [if_pos e]; exact Rep.flat R d v e h
  · rw [if_neg e]; exact h
theorem RepL.dep {K : PySem.W.Frag} {cur : Cur} {O : Addr → Prop} {ρ : REnv} {σ : L2.St} {H : Hp} {d : List D} {v : List V} {dep : List Nat} (R : StRel K cur O ρ σ H) (h : RepL K H (Pm O ρ σ dep) d v) : RepL K H (Pm O ρ σ (depL d dep)) d v := by
  unfold depL
  by_cases e : d.all Vi.flat = true
  · rw [if_pos e]; exact RepL.mapR (f := Vi.flat) (Rep.flat R) e h
  · rw [if_neg e]; exact h
theorem Rep.flat1Z {K : PySem.W.Frag} {cur : Cur} {O : Addr → Prop} {ρ : REnv} {σ : L2.St} {H : Hp} {dep : List Nat} {Z : Addr → Prop} (R : StRel K cur O ρ σ H) (d : D) (v : V) (f : Vi.flat1 d = true) (h : Rep K H (fun a => Pm O ρ σ dep a ∧ Z a) d v) : Rep K H (fun a => Pm O ρ σ [] a ∧ Z a) d v := by
  cases h with
  | non => exact .non
  | bl b => exact .bl b
  | int i => exact .int i
  | str x => exact .str x
  | lst _ _ => cases f
  | tup q r => exact .tup (q.elim (fun z => .inl ⟨⟨Pm.tup R z.1.1 z.2, z.1.2⟩, z.2⟩) .inr) (RepL.mapR (f := atom) (fun d v a r => r.atom_any a) f r)
theorem Rep.flatZ {K : PySem.W.Frag} {cur : Cur} {O : Addr → Prop} {ρ : REnv} {σ : L2.St} {H : Hp} {dep : List Nat} {Z : Addr → Prop} (R : StRel K cur O ρ σ H) (d : D) (v : V) (f : Vi.flat d = true) (h : Rep K H (fun a => Pm O ρ σ dep a ∧ Z a) d v) : Rep K H (fun a => Pm O ρ σ [] a ∧ Z a) d v := by
  cases h with
  | non => exact .non
  | bl b => exact .bl b
  | int i => exact .int i
  | str x => exact .str x
  | lst _ _ => cases f
  | tup q r => exact .tup (q.elim (fun z => .inl ⟨⟨Pm.tup R z.1.1 z.2, z.1.2⟩, z.2⟩) .inr) (RepL.mapR (f := Vi.flat1) (Rep.flat1Z R) f r)
theorem RepL.depZ {K : PySem.W.Frag} {cur : Cur} {O : Addr → Prop} {ρ : REnv} {σ : L2.St} {H : Hp} {d : List D} {v : List V} {dep : List Nat} {Z : Addr → Prop} (R : StRel K cur O ρ σ H) (h : RepL K H (fun a => Pm O ρ σ dep a ∧ Z a) d v) : RepL K H (fun a => Pm O ρ σ (depL d dep) a ∧ Z a) d v := by
  unfold depL
  by_cases e : d.all Vi.flat = true
  · rw [if_pos e]; exact RepL.mapR (f := Vi.flat) (Rep.flatZ R) e h
  · rw [if_neg e]; exact h
theorem ta_nil : PA X [] (Ta X.K cur g W .nil) := Ta.imp pa_nil fun σ H Q ⟨O, ρ, R, ds, e, h⟩ => by
  cases e
  exact h [] H same_refl .nil
def notStar : Expr → Bool
  | .Starred _ _ => false
  | _ => true
theorem notStar_eq {e : Expr} (h : notStar e = true) (es : List Expr) (env : PySem.Env) : starEach (e :: es) env = (false, eval e env) :: starEach es env := by
  cases e <;> first | rfl | cases h
theorem ta_cons {es : List Expr} (hs : notStar a = true) (ha : PE X a (T X.K cur g W ea)) (hb : PA X es (Ta X.K cur g W eb)) : PA X (a :: es) (Ta X.K cur g W (.cons ea eb)) := by
  refine Ta.imp (pa_cons ha hb (notStar_eq hs _ _)) ?_
  rintro σ H Q ⟨O, ρ, R, h⟩
  have h : match Rs.map2 (ev g ea ρ) (fun ka da x => Rs.map2 (ev g eb ρ) fun _ db y => match y with
    | .tuple ys => some (.ok .plain (depF x (ka.tot da) ++ db) (.tuple (x :: ys)))
    | _ => none) with
    | none => False
    | some (.ok _ dep d) => ∃ ds, d = .tuple ds ∧ ∀ vs H', Same H H' → RepL X.K H' (Pm O ρ σ dep) ds vs → Q vs H'
    | some (.ex c) => ∀ H', Same H H' → W (.ref (He.ga X.K c)) none σ H' := h
  refine ⟨O, ρ, R, ?_⟩
  cases e1 : ev g ea ρ with
  | none => rw [e1] at h; exact h
  | some z =>
    rw [e1] at h
    cases z with
    | ex c => exact h
    | ok ka da x =>
      intro v H1 s1 r1
      refine ⟨O, ρ, R.same s1, ?_⟩
      have h : match Rs.map2 (ev g eb ρ) (fun _ db y => match y with
        | .tuple ys => some (.ok .plain (depF x (ka.tot da) ++ db) (.tuple (x :: ys)))
        | _ => none) with
        | none => False
        | some (.ok _ dep d) => ∃ ds, d = .tuple ds ∧ ∀ vs H', Same H H' → RepL X.K H' (Pm O ρ σ dep) ds vs → Q vs H'
        | some (.ex c) => ∀ H', Same H H' → W (.ref (He.ga X.K c)) none σ H' := h
      cases e2 : ev g eb ρ with
      | none => rw [e2] at h; exact h
      | some z =>
        rw [e2] at h
        cases z with
        | ex c => exact fun H' s' => h H' (same_trans s1 s')
        | ok kb db y =>
          cases y with
          | tuple ys =>
            obtain ⟨ds, e3, h⟩ := h
            cases e3
            refine ⟨ys, rfl, fun vs H' s' rs => h (v :: vs) H' (same_trans s1 s') (.cons ?_ ?_)⟩
            · exact Rep.stay (fun a u p r => ⟨p.mono fun i z => List.mem_append_left _ z, r⟩) _ (Rep.dep (R.same (same_trans s1 s')) ((r1.stay s').rep R (same_trans s1 s')))
            · exact RepL.stay (fun a u p r => ⟨p.mono fun i z => List.mem_append_right _ z, r⟩) _ rs
          | _ => exact h.elim
theorem Ta.bind {K : PySem.W.Frag} {O : Addr → Prop} {ρ : REnv} {σ : L2.St} {H : Hp} {Q : VK} {f : Kd → List Nat → D → Option Rs} {Gl : List V → Hp → Prop} (R : StRel K cur O ρ σ H) (h : Fin K O ρ σ H W Q (Rs.map2 (ev g ea ρ) f))
    (ht : ∀ k dep d, ev g ea ρ = some (.ok k dep d) → Fin K O ρ σ H W Q (f k dep d) → ∃ ds, d = .tuple ds)
    (hk : ∀ k dep ds vs H1, StRel K cur O ρ σ H1 → Same H H1 → RepL K H1 (Pm O ρ σ dep) ds vs → Fin K O ρ σ H1 W Q (f k dep (.tuple ds)) → Gl vs H1) : Ta K cur g W ea σ H Gl := by
  refine ⟨O, ρ, R, ?_⟩
  cases e1 : ev g ea ρ with
  | none => rw [e1] at h; exact h
  | some z =>
    rw [e1] at h
    cases z with
    | ex c => exact h
    | ok k dep d =>
      obtain ⟨ds, e2⟩ := ht k dep d e1 h
      subst e2
      exact ⟨ds, rfl, fun vs H' s r => hk k dep ds vs H' (R.same s) s r (Fin.same s h)⟩
theorem t_tup {es : List Expr} {x1 : Nat} (h : PA X es (Ta X.K cur g W ea)) : PE X (.Tuple es x1 pos) (T X.K cur g W (.tup ea)) := by
  refine T.imp (pe_tup h) ?_
  rintro σ H Q ⟨O, ρ, R, h⟩
  refine Ta.bind R h (fun k dep d _ q => ?_) fun k dep ds vs H1 R1 s1 r1 q => ?_
  · cases d with
    | tuple ds => exact ⟨ds, rfl⟩
    | _ => exact q.elim
  · have q : Fin X.K O ρ σ H1 W Q (if ds.length ≤ sizeLine then some (.ok .plain dep (.tuple ds)) else none) := q
    have e1 := r1.length
    by_cases hz : ds.length ≤ sizeLine
    · rw [if_pos hz] at q
      exact ⟨by omega, fun p n => Fin.tup R1 q r1 n⟩
    · rw [if_neg hz] at q; exact q.elim
theorem t_lst {es : List Expr} (h : PA X es (Ta X.K cur g W ea)) : PE X (.List es pos) (T X.K cur g W (.lst ea)) := by
  refine T.imp (pe_lst h) ?_
  rintro σ H Q ⟨O, ρ, R, h⟩
  refine Ta.bind R h (fun k dep d _ q => ?_) fun k dep ds vs H1 R1 s1 r1 q => ?_
  · cases d with
    | tuple ds => exact ⟨ds, rfl⟩
    | _ => exact q.elim
  · have q : Fin X.K O ρ σ H1 W Q (if ds.length ≤ sizeLine then some (.ok .fresh dep (.list ds)) else none) := q
    have e1 := r1.length
    by_cases hz : ds.length ≤ sizeLine
    · rw [if_pos hz] at q
      exact ⟨by omega, fun p n => Fin.lst R1 q r1 n⟩
    · rw [if_neg hz] at q; exact q.elim
end
end Vi

set_option maxRecDepth 100000
set_option maxHeartbeats 4000000
namespace Vi
open PySem PySem.Spec PyProof.Rows L2
theorem RepL.ints_of {K : PySem.W.Frag} {H : Hp} {P : Addr → Prop} : ∀ {ds : List D} {xs : List V} {ns : List Int}, RepL K H P ds xs → intsOf ds = some ns → xs = ns.map V.int
  | [], _, ns, h, e => by
    cases h
    cases e
    rfl
  | .int i :: ds, _, ns, h, e => by
    cases h with
    | cons a b =>
      cases a
      have e : (intsOf ds).map (i :: ·) = some ns := e
      cases e1 : intsOf ds with
      | none => rw [e1] at e; cases e
      | some ms =>
        rw [e1] at e
        cases e
        rw [RepL.ints_of b e1]
        rfl
  | .none :: _, _, _, _, e => by cases e
  | .bool _ :: _, _, _, _, e => by cases e
  | .str _ :: _, _, _, _, e => by cases e
  | .list _ :: _, _, _, _, e => by cases e
  | .tuple _ :: _, _, _, _, e => by cases e
  | .dict _ :: _, _, _, _, e => by cases e
section
variable {X : Cx} {N : List Str} {sc : Scope} {cm : Bool} {cur : Cur} {g : G} {W : WX} {a b c : Expr} {ea eb ec : E} {pos p : Pos} {rest : List Expr}
def glB (sc : Scope) (x : Str) : Bool := match sc.names.lookup x with
  | some .globalImplicit => true
  | _ => false
theorem Cxt.gl (C : Cxt X N sc cm cur g W) {x : Str} (h : glB sc x = true) : Gl X x := by
  show X.env.scope.names.lookup x = some .globalImplicit
  rw [C.hsc]
  unfold glB at h
  split at h
  · assumption
  · cases h
theorem Cxt.bl (C : Cxt X N sc cm cur g W) {x : Str} (h : bltNames.contains x = true) : X.mg x = none := C.blt x (by simpa using h)
theorem star1 (h : notStar a = true) : starEach [a] X.env = (false, eval a X.env) :: starEach [] X.env := notStar_eq h _ _
theorem plain1 {pos : Pos} : (backTo pos (starEach [] X.env)).any (·.1) = false := rfl
/-! ### built-in functions -/
theorem t_len (C : Cxt X N sc cm cur g W) (hg : glB sc "len" = true) (hs : notStar a = true) (ha : PE X a (T X.K cur g W ea)) : PE X (.Call (.Name "len" p) [a] [] pos) (T X.K cur g W (.bf .len ea)) := by
  refine T.imp (pe_callB call_len (C.gl hg) (C.bl (by decide)) boot_len (pa_cons ha pa_nil (star1 hs)) (by decide) (by decide) (star1 hs) plain1) ?_
  rintro σ H Q ⟨O, ρ, R, h⟩
  refine T.bind R h fun k dep d v H1 R1 s1 r1 q => ?_
  cases d with
  | list l =>
    obtain ⟨p, xs, rfl, hq, r⟩ := r1.list R s1
    exact ⟨_, l.length, rfl, .inl ⟨xs, hq, r.length⟩, Fin.val q (.int _)⟩
  | tuple l =>
    obtain ⟨p, xs, rfl, hq, r⟩ := r1.tup
    exact ⟨_, l.length, rfl, .inr ⟨xs, hq.sqt, r.length⟩, Fin.val q (.int _)⟩
  | str z =>
    obtain rfl := r1.str
    have q : Fin X.K O ρ σ H1 W Q ((if z.length ≤ sizeLine then some (Kd.plain, PyData.int z.length) else none).map fun r => Rs.ok r.1 (depOf r.2 dep) r.2) := q
    obtain ⟨hz, q⟩ := Fin.ite (r := .ex "") q
    exact ⟨_, z.length, rfl, ⟨hz, rfl⟩, Fin.val q (.int _)⟩
  | _ => exact q.elim
theorem t_toint (C : Cxt X N sc cm cur g W) (hg : glB sc "int" = true) (hs : notStar a = true) (ha : PE X a (T X.K cur g W ea)) : PE X (.Call (.Name "int" p) [a] [] pos) (T X.K cur g W (.bf .int ea)) := by
  refine T.imp (pe_callTy call_int1 (C.gl hg) (C.bl (by decide)) boot_int (pa_cons ha pa_nil (star1 hs)) (by decide) (by decide) (star1 hs) plain1) ?_
  rintro σ H Q ⟨O, ρ, R, h⟩
  refine T.bind R h fun k dep d v H1 R1 s1 r1 q => ?_
  cases d with
  | int i =>
    obtain rfl := r1.int
    exact .inl ⟨i, rfl, Fin.val q (.int _)⟩
  | bool b =>
    obtain rfl := r1.bool
    exact .inr ⟨b, rfl, Fin.val q (.int _)⟩
  | _ => exact q.elim
theorem t_tostr (C : Cxt X N sc cm cur g W) (hg : glB sc "str" = true) (hs : notStar a = true) (ha : PE X a (T X.K cur g W ea)) : PE X (.Call (.Name "str" p) [a] [] pos) (T X.K cur g W (.bf .str ea)) := by
  refine T.imp (pe_callTy call_str_int (C.gl hg) (C.bl (by decide)) boot_str (pa_cons ha pa_nil (star1 hs)) (by decide) (by decide) (star1 hs) plain1) ?_
  rintro σ H Q ⟨O, ρ, R, h⟩
  refine T.bind R h fun k dep d v H1 R1 s1 r1 q => ?_
  cases d with
  | int i =>
    obtain rfl := r1.int
    have q : Fin X.K O ρ σ H1 W Q ((if i.natAbs.log2 < 1920 then some (Kd.plain, PyData.str (toString i)) else none).map fun r => Rs.ok r.1 (depOf r.2 dep) r.2) := q
    obtain ⟨hz, q⟩ := Fin.ite (r := .ex "") q
    exact ⟨i, rfl, hz, Fin.val q (.str _)⟩
  | _ => exact q.elim
theorem t_totup (C : Cxt X N sc cm cur g W) (hg : glB sc "tuple" = true) (hs : notStar a = true) (ha : PE X a (T X.K cur g W ea)) : PE X (.Call (.Name "tuple" p) [a] [] pos) (T X.K cur g W (.bf .tuple ea)) := by
  refine T.imp (pe_callTy call_tuple_of (C.gl hg) (C.bl (by decide)) boot_tuple (pa_cons ha pa_nil (star1 hs)) (by decide) (by decide) (star1 hs) plain1) ?_
  rintro σ H Q ⟨O, ρ, R, h⟩
  refine T.bind R h fun k dep d v H1 R1 s1 r1 q => ?_
  cases d with
  | list l =>
    obtain ⟨p, xs, rfl, hq, r⟩ := r1.list R s1
    exact ⟨p, xs, rfl, .inl ⟨hq, fun z n => Fin.tup R1 q r n⟩⟩
  | tuple l =>
    obtain ⟨p, xs, rfl, hq, r⟩ := r1.tup
    exact ⟨p, xs, rfl, .inr ⟨hq.sqt, Fin.val q (.tup hq r)⟩⟩
  | _ => exact q.elim
theorem t_tolst (C : Cxt X N sc cm cur g W) (hg : glB sc "list" = true) (hs : notStar a = true) (ha : PE X a (T X.K cur g W ea)) : PE X (.Call (.Name "list" p) [a] [] pos) (T X.K cur g W (.bf .list ea)) := by
  refine T.imp (pe_callTy call_list_of (C.gl hg) (C.bl (by decide)) boot_list (pa_cons ha pa_nil (star1 hs)) (by decide) (by decide) (star1 hs) plain1) ?_
  rintro σ H Q ⟨O, ρ, R, h⟩
  refine T.bind R h fun k dep d v H1 R1 s1 r1 q => ?_
  cases d with
  | list l =>
    obtain ⟨p, xs, rfl, hq, r⟩ := r1.list R s1
    exact ⟨p, xs, rfl, .inl hq, fun z n => Fin.lst R1 q r n⟩
  | tuple l =>
    obtain ⟨p, xs, rfl, hq, r⟩ := r1.tup
    exact ⟨p, xs, rfl, .inr hq.sqt, fun z n => Fin.lst R1 q r n⟩
  | _ => exact q.elim
theorem t_sum (C : Cxt X N sc cm cur g W) (hc : cm = true) (hg : glB sc "sum" = true) (hs : notStar a = true) (ha : PE X a (T X.K cur g W ea)) : PE X (.Call (.Name "sum" p) [a] [] pos) (T X.K cur g W (.bf .sum ea)) := by
  refine T.imp (pe_callB (cr_sum (C.calm hc)) (C.gl hg) (C.bl (by decide)) (by decide +kernel) (pa_cons ha pa_nil (star1 hs)) (by decide) (by decide) (star1 hs) plain1) ?_
  rintro σ H Q ⟨O, ρ, R, h⟩
  refine T.bind R h fun k dep d v H1 R1 s1 r1 q => ?_
  cases d with
  | list l =>
    obtain ⟨p, xs, rfl, hq, r⟩ := r1.list R s1
    have q : Fin X.K O ρ σ H1 W Q (((intsOf l).map fun ns => (Kd.plain, PyData.int ns.sum)).map fun r => Rs.ok r.1 (depOf r.2 dep) r.2) := q
    cases e : intsOf l with
    | none => rw [e] at q; exact q.elim
    | some ns =>
      rw [e] at q
      refine ⟨p, ns, rfl, ?_, Fin.val q (.int _)⟩
      rw [← RepL.ints_of r e]
      exact hq
  | _ => exact q.elim
theorem star2 (ha : notStar a = true) (hb : notStar b = true) : starEach [a, b] X.env = (false, eval a X.env) :: starEach [b] X.env := notStar_eq ha _ _
theorem plain2 (hb : notStar b = true) {pos : Pos} : (backTo pos (starEach [b] X.env)).any (·.1) = false := by
  rw [star1 hb]; rfl
theorem t_max2 (C : Cxt X N sc cm cur g W) (hc : cm = true) (hg : glB sc "max" = true) (hs : notStar a = true) (hs2 : notStar b = true) (ha : PE X a (T X.K cur g W ea)) (hb : PE X b (T X.K cur g W eb)) : PE X (.Call (.Name "max" p) [a, b] [] pos) (T X.K cur g W (.max2 ea eb)) := by
  refine T.imp (pe_callB (call_max2 (C.calm hc)) (C.gl hg) (C.bl (by decide)) boot_max (pa_cons ha (pa_cons hb pa_nil (star1 hs2)) (star2 hs hs2)) (by decide) (by decide) (star2 hs hs2) (plain2 hs2)) ?_
  rintro σ H Q ⟨O, ρ, R, h⟩
  refine t_two (k := fun _ _ x _ _ y => match x, y with
    | .int i, .int j => some (.ok .plain [] (.int (if j > i then j else i)))
    | _, _ => none) R h fun ka da x kb db y v u H1 H2 R1 R2 s1 s2 r1 r2 q => ?_
  cases x with
  | int i =>
    cases y with
    | int j =>
      obtain rfl := r1.int
      obtain rfl := r2.int
      exact ⟨i, j, rfl, Fin.val q (.int _)⟩
    | _ => exact q.elim
  | _ => exact q.elim
theorem t_min2 (C : Cxt X N sc cm cur g W) (hc : cm = true) (hg : glB sc "min" = true) (hs : notStar a = true) (hs2 : notStar b = true) (ha : PE X a (T X.K cur g W ea)) (hb : PE X b (T X.K cur g W eb)) : PE X (.Call (.Name "min" p) [a, b] [] pos) (T X.K cur g W (.min2 ea eb)) := by
  refine T.imp (pe_callB (call_min2 (C.calm hc)) (C.gl hg) (C.bl (by decide)) boot_min (pa_cons ha (pa_cons hb pa_nil (star1 hs2)) (star2 hs hs2)) (by decide) (by decide) (star2 hs hs2) (plain2 hs2)) ?_
  rintro σ H Q ⟨O, ρ, R, h⟩
  refine t_two (k := fun _ _ x _ _ y => match x, y with
    | .int i, .int j => some (.ok .plain [] (.int (if j < i then j else i)))
    | _, _ => none) R h fun ka da x kb db y v u H1 H2 R1 R2 s1 s2 r1 r2 q => ?_
  cases x with
  | int i =>
    cases y with
    | int j =>
      obtain rfl := r1.int
      obtain rfl := r2.int
      exact ⟨i, j, rfl, Fin.val q (.int _)⟩
    | _ => exact q.elim
  | _ => exact q.elim
/-! ### a module's constant -/
theorem t_glob {x : Str} (C : Cxt X N sc cm cur g W) (hg : glB sc x = true) (hd : (x == ("__debug__" : Str)) = false) : PE X (.Name x pos) (T X.K cur g W (.glob x)) := by
  cases e : g.consts.lookup x with
  | none =>
    refine T.imp (t := fun _ _ _ => False) ⟨fun _ _ _ _ _ _ h => h.elim⟩ ?_
    rintro σ H Q ⟨O, ρ, R, h⟩
    have h : Fin X.K O ρ σ H W Q ((g.consts.lookup x).map fun d => Rs.ok .plain [] d) := h
    rw [e] at h
    exact h
  | some d =>
    obtain ⟨v, u, hm, r, hr⟩ := C.consts x d e
    refine T.imp (pe_glob (C.gl hg) hm r hd) ?_
    rintro σ H Q ⟨O, ρ, R, h⟩
    have h : Fin X.K O ρ σ H W Q ((g.consts.lookup x).map fun d => Rs.ok .plain [] d) := h
    rw [e] at h
    exact Fin.val h (hr H _)
/-! ### isinstance -/
def tyName : Ty → String
  | .int => "int" | .bool => "bool" | .tuple => "tuple" | .list => "list" | .str => "str"
def tyOf : D → String
  | .none => "NoneType" | .bool _ => "bool" | .int _ => "int" | .str _ => "str" | .list _ => "list" | .tuple _ => "tuple" | .dict _ => "dict"
theorem Rep.ty {K : PySem.W.Frag} {H : Hp} {P : Addr → Prop} {d : D} {v : V} (h : Rep K H P d v) : TyX K H v (.type (tyOf d)) := by
  cases h with
  | non => exact .base .non
  | bl b => exact .base (.bl b)
  | int i => exact .base (.int i)
  | str x => exact .base (.str x)
  | lst q r =>
    rcases q with ⟨_, q | ⟨o, q⟩⟩ | ⟨o, its, n, q, c, _⟩
    · exact .base (.lst q)
    · exact .base (.frz q)
    · exact .kList q c
  | tup q r =>
    rcases q with ⟨_, q | ⟨o, q⟩⟩ | ⟨o, its, n, q, c, _⟩
    · exact .base (.tup q)
    · exact .fTuple q
    · exact .kTuple q c
def kb (t : Ty) (n : String) : Bool := n == tyName t || (n == "bool" && (match t with | .int => true | _ => false))
theorem kb_ok (t : Ty) : ∀ n ∈ ["NoneType", "bool", "int", "str", "list", "tuple", "dict"], kitB n (tyName t) = some (kb t n) := by
  cases t <;> decide +kernel
theorem isType_kb (t : Ty) (d : D) : isType t d = kb t (tyOf d) := by
  cases t <;> cases d <;> rfl
theorem tyOf_mem (d : D) : tyOf d ∈ ["NoneType", "bool", "int", "str", "list", "tuple", "dict"] := by
  cases d <;> simp [tyOf]
theorem isType_kit {K : PySem.W.Frag} (t : Ty) (d : D) : PySem.W.kitOne K (.type (tyOf d)) (.type (tyName t)) = some (isType t d) := by
  rw [isType_kb]
  exact kit_ty (kb_ok t _ (tyOf_mem d))
theorem boot_ty (t : Ty) : bootBuiltins (Str.ofString (tyName t)) = some (.type (tyName t)) := by
  cases t <;> decide +kernel
theorem t_isi (C : Cxt X N sc cm cur g W) (t : Ty) {p2 : Pos} (hg : glB sc "isinstance" = true) (hg2 : glB sc (Str.ofString (tyName t)) = true) (hs : notStar a = true) (ha : PE X a (T X.K cur g W ea)) :
    PE X (.Call (.Name "isinstance" p) [a, .Name (Str.ofString (tyName t)) p2] [] pos) (T X.K cur g W (.isi t ea)) := by
  have hb : PE X (.Name (Str.ofString (tyName t)) p2) (tC (.ty (tyName t))) := pe_bltn (C.gl hg2) (C.bl (by cases t <;> decide +kernel)) (boot_ty t) rfl (by cases t <;> decide +kernel) (by cases t <;> decide +kernel)
  refine T.imp (pe_callB call_isi (C.gl hg) (C.bl (by decide)) boot_isinstance (pa_cons ha (pa_cons hb pa_nil (star1 rfl)) (star2 hs rfl)) (by decide) (by decide) (star2 hs rfl) (plain2 rfl)) ?_
  rintro σ H Q ⟨O, ρ, R, h⟩
  refine T.bind R h fun k dep d v H1 R1 s1 r1 q => ?_
  exact ⟨v, .ty (tyName t), .type (tyOf d), .type (tyName t), isType t d, rfl, .ty _, (r1.rep R s1).ty, isType_kit t d, Fin.val q (.bl _)⟩
/-- isinstance(e, c), e the exception at hand -/
theorem t_isx (C : Cxt X N sc cm cur g W) {i : Nat} {x c : Str} {p2 p3 : Pos} (hi : N[i]? = some x) (hv : Vis sc x) (hd : (x == ("__debug__" : Str)) = false) (hcd : (x == ("__classdict__" : Str)) = false) (hg : glB sc "isinstance" = true) (hg2 : glB sc c = true) (hdc : (c == ("__debug__" : Str)) = false) :
    PE X (.Call (.Name "isinstance" p) [.Name x p2, .Name c p3] [] pos) (T X.K cur g W (.isx i c)) := by
  refine ⟨fun pins s σ H Q I h => ?_⟩
  obtain ⟨O, ρ, R, h⟩ := h
  have h : Fin X.K O ρ σ H W Q (match ρ[i]? with
    | some (.exc x) => (g.isx.lookup (x, c)).map fun b => .ok .plain [] (.bool b)
    | _ => none) := h
  split at h
  · rename_i y e
    cases e2 : g.isx.lookup (y, c) with
    | none => rw [e2] at h; exact h.elim
    | some b =>
      rw [e2] at h
      obtain ⟨a, ec, es⟩ := R.exc i y e
      obtain ⟨v, u, hm, rv, ru, hk⟩ := C.isk y c b e2
      have ha : PE X (.Name x p2) (tVar i) := pe_var (by rw [C.hN]; exact hi) (by rw [C.hsc]; exact hv) hd hcd
      have hb : PE X (.Name c p3) (tC v) := by
        rcases hm with hm | ⟨hm, hv, hn⟩
        · exact pe_glob (C.gl hg2) hm rv hdc
        · exact pe_bltn (C.gl hg2) hm hv rv hn hdc
      have hp := pe_callB (X := X) (p := p) (pos := pos) (C.isx a y c b ec e2) (C.gl hg) (C.bl (by decide)) boot_isinstance (pa_cons ha (pa_cons hb pa_nil (star1 rfl)) (star2 rfl rfl)) (by decide) (by decide) (star2 rfl rfl) (plain2 rfl)
      exact hp.run pins s σ H Q I ⟨.ref a, es, v, u, b, rfl, ru, hk, Fin.val h (.bl b)⟩
  · exact h.elim
/-! ### the call of a def -/
theorem t_call (C : Cxt X N sc cm cur g W) (hc : cm = true) {k : Nat} {nm : Str} {F : Fn} (hf : g.fns[k]? = some (nm, F)) (hg : glB sc nm = true) (hd : (nm == ("__debug__" : Str)) = false) (hs : notStar a = true) (hpl : (backTo pos (starEach rest X.env)).any (·.1) = false)
    (ha : PA X (a :: rest) (Ta X.K cur g W ea)) : PE X (.Call (.Name nm p) (a :: rest) [] pos) (T X.K cur g W (.call k ea)) := by
  obtain ⟨f, fd, ps, j, hF, hr, hm, hk, hb⟩ := (C.fns hc k nm F hf).ex
  refine T.imp (pe_callS hF hr (C.gl hg) hm hk hb (fun σ => passAt C.tk σ) ha hd (notStar_eq hs _ _) hpl) ?_
  rintro σ H Q ⟨O, ρ, R, h⟩
  refine Ta.bind R h (fun k dep d _ q => ?_) fun kd dep ds vs H1 R1 s1 r1 q => ?_
  · cases d with
    | tuple ds => exact ⟨ds, rfl⟩
    | _ => exact q.elim
  · have q : Fin X.K O ρ σ H1 W Q (match g.fns[k]? with
      | some f => match f.2 ds with
        | some (.ret d) => some (.ok .plain (depF d dep) d)
        | some (.lst l) => some (.ok .fresh (depL l dep) (.list l))
        | some (.ex c) => some (.ex c)
        | none => none
      | none => none) := by
      have q : Fin X.K O ρ σ H1 W Q (match (PyData.tuple ds : D), g.fns[k]? with
        | .tuple xs, some f => match f.2 xs with
          | some (.ret d) => some (.ok .plain (depF d dep) d)
          | some (.lst l) => some (.ok .fresh (depL l dep) (.list l))
          | some (.ex c) => some (.ex c)
          | none => none
        | _, _ => none) := q
      cases e : g.fns[k]? with
      | none => rw [e] at q; exact q
      | some f => rw [e] at q; exact q
    rw [hf] at q
    have q : Fin X.K O ρ σ H1 W Q (match F ds with
      | some (.ret d) => some (.ok .plain (depF d dep) d)
      | some (.lst l) => some (.ok .fresh (depL l dep) (.list l))
      | some (.ex c) => some (.ex c)
      | none => none) := q
    have n2 : ∀ {a : Addr}, (¬ (H1 a ≠ none ∧ ¬ Pm O ρ σ dep a)) → Pm O ρ σ dep a := fun {a} z => Classical.byContradiction fun y => by
      cases e : H1 a with
      | none => exact y (R1.new e)
      | some u => exact z ⟨by rw [e]; simp, y⟩
    refine ⟨fun a => H1 a ≠ none ∧ ¬ Pm O ρ σ dep a, ds, ?_⟩
    cases e : F ds with
    | none => rw [e] at q; exact q.elim
    | some r =>
      rw [e] at q
      refine ⟨r, fun a z => z.1, RepL.stay (fun a u p r => ⟨fun z => z.2 p, r⟩) _ r1, rfl, ?_⟩
      cases r with
      | ret d => exact fun v H' s' rv => q v H' s' (Rep.dep (R1.same s') (Rep.stay (fun a u p r => ⟨n2 p, r⟩) _ rv))
      | lst l =>
        exact fun v H' s' ⟨p, xs, e1, e2, e3, rv⟩ => q v H' s' ⟨p, xs, l, rfl, e1, e2, e3, RepL.depZ (R1.same s') (RepL.stay (fun a u p r => ⟨⟨n2 p.1, p.2⟩, r⟩) _ rv)⟩
      | ex c => exact fun H' s' => q H' s'
end
end Vi

set_option maxRecDepth 100000
set_option maxHeartbeats 4000000
namespace Vi
open PySem PySem.Spec PyProof.Rows L2
theorem meets_enum1 {v : Value} {o : Obj} {H : Heap → Prop} (B : Begins v o H) :
    Meets (Builtin.«enumerate.__new__» ⟨[.type "enumerate", v], []⟩) (fun _ R s => H s.heap ∧
      R (.ok (.ret (.ref (s.heap.push o).objs.size))) { s with heap := (s.heap.push o).push { cls := .type "enumerate", data := .fields #[.none, .bool false, .ref s.heap.objs.size, rawInt 0, .none, .none] } }) :=
  .of_wp fun prog w A R s h => by
    obtain ⟨hp, g, d, tk, os⟩ := s; obtain ⟨h1, h⟩ := h
    have hsub := sub_enumerate
    have q1 : ∀ {A' : Around} {E : Value → Shared → Prop} {Q : Value → Shared → Prop}, Q (.ref hp.objs.size) ⟨hp.push o, g, d, tk, os⟩ → wpAny (model prog w) A' (pyIter v) Q E ⟨hp, g, d, tk, os⟩ :=
      fun q => B.iter prog w _ _ ⟨hp, g, d, tk, os⟩ _ h1 q
    wp_walk using q1
    refine wpAny_stack_any fun st => wpAny_pure ?_
    split
    · rename_i c _ _ _ _ _
      cases (c == Value.type "enumerate")
      · wp_walk using q1
        exact ⟨_, rfl, h⟩
      · wp_walk using q1
        exact ⟨_, rfl, h⟩
    · wp_walk using q1
      exact ⟨_, rfl, h⟩
section
variable {prog : Program} {w : World} {A : Around} {E : Value → Shared → Prop} {s : Shared}
theorem call_enum1 {v : Value} {o : Obj} {H : Heap → Prop} {Q : Value → Shared → Prop} (B : Begins v o H) (h1 : H s.heap)
    (h : ∀ h', IsEnum h' (s.heap.objs.size + 1) s.heap.objs.size 0 .none → h'.get? s.heap.objs.size = some o → h'.objs.size = s.heap.objs.size + 2 →
      (∀ b o, s.heap.get? b = some o → h'.get? b = some o) → Q (.ref (s.heap.objs.size + 1)) { s with heap := h' }) :
    wpAny (model prog w) A (call (.type "enumerate") [v]) Q E s := by
  refine callType_new F.called_enumerate (by decide) (F.typeCall_enumerate_1 _) (F.newCall_enumerate_1 _) (fun obj => F.args_object_init_2 obj _) F.entry_enumerate_new
    (meets_enum1 B) ⟨h1, ?_⟩
  have hz : (s.heap.push o).objs.size = s.heap.objs.size + 1 := Heap.size_push ..
  show _ ∧ _
  rw [hz]
  have he : IsEnum ((s.heap.push o).push { cls := .type "enumerate", data := .fields #[.none, .bool false, .ref s.heap.objs.size, rawInt 0, .none, .none] }) (s.heap.objs.size + 1) s.heap.objs.size 0 .none := by
    have := Heap.get?_push_size (s.heap.push o) (o := { cls := .type "enumerate", data := .fields #[.none, .bool false, .ref s.heap.objs.size, rawInt 0, .none, .none] }) rfl
    rw [hz] at this; exact this
  refine ⟨⟨_, he, rfl⟩, h _ he (Heap.get?_push_of_some _ (Heap.get?_push_size _ B.free)) (by rw [Heap.size_push, hz]) fun b o x => Heap.get?_push_of_some _ (Heap.get?_push_of_some _ x)⟩
end
/-- the tuple at a, each item in a new pair -/
def IteT (K : PySem.W.Frag) (a : Addr) : It :=
  ⟨fun i H => ∃ (xs : List V) (x : V), SqT K H a xs ∧ xs[i]? = some x, fun i H v H' => ∃ T x, v = .ref T ∧ H T = none ∧ H' = upd H T (.tup [.int (i : Nat), x]) ∧ ∀ xs, SqT K H a xs → xs[i]? = some x, fun i H => ∃ xs : List V, SqT K H a xs ∧ xs.length ≤ i⟩
theorem tupit_ne {h : Heap} {a it : Addr} {items : Array Value} {i : Nat} (p : IsTup h a items) (q : h.IsTupleIter it a i) : a ≠ it := by
  rintro rfl
  obtain ⟨o, e, c, _⟩ := p
  obtain ⟨o', e', c', _⟩ := q
  rw [e] at e'
  cases e'
  rw [c] at c'
  injection c' with c'
  exact absurd c' (by decide)
theorem turn_enumT {P : Program} {w : World} {K : PySem.W.Frag} {elts : List Expr} {kk : Nat} {tpos : Pos} (a e it : Addr) :
    Turn P w K (.Tuple elts kk tpos) (IteT K a) [e, it] e (fun i h => (∃ old, IsEnum h e it ((i : Nat) : Int) old) ∧ h.IsTupleIter it a i ∧ e ≠ it) where
  mem := by simp
  obj := fun i h st b hb => by
    obtain ⟨⟨old, he⟩, ⟨o, ho, hc, hd⟩, _⟩ := st
    have e' : b = e ∨ b = it := by simpa using hb
    rcases e' with z | z
    · rw [z]; exact ⟨_, he, fun v q => nomatch q⟩
    · rw [z]; exact ⟨o, ho, fun v q => by rw [hd] at q; cases q⟩
  keep := fun i h h' st k => let ⟨⟨old, he⟩, hi, hne⟩ := st; ⟨⟨old, k e (by simp) _ he⟩, hi.at fun o q => k it (by simp) o q, hne⟩
  item := by
    intro X hP hw hK hc i pins s σ H E I hf st hg
    subst hP hw hK
    obtain ⟨⟨old, he⟩, hit, hne⟩ := st
    obtain ⟨xs, x, hq, hx⟩ := hg
    obtain ⟨its, rv, p, hz⟩ := I.tuple hq
    obtain ⟨u, hu, ru⟩ := rv.get hx
    have hel : e < s.heap.objs.size := Heap.lt_size he
    have hil : it < s.heap.objs.size := by obtain ⟨_, q, _⟩ := hit; exact Heap.lt_size q
    have hta : a ≠ it := tupit_ne p hit
    have hea : e ≠ a := by
      rintro rfl
      obtain ⟨o, q, c, _⟩ := p
      rw [show s.heap.get? e = _ from he] at q
      cases q
      injection c with c
      exact absurd c (by decide)
    have lt : i < its.toArray.size := by
      have := (List.getElem?_eq_some_iff.mp hu).1
      simpa using this
    have D := Draws.tuple (prog := X.prog) (w := X.w) (A := X.A.in1) (show X.A.in1.handled = none from I.ok.hd hc) it a hta its.toArray
    refine wpAny_pyNext_enum_itemD D he ⟨hit, (show s.heap.IsTuple a its.toArray from p)⟩ lt hne (by simp; exact ⟨hne, hea⟩) fun y h' tk hy ho hit' hT hsz hk => ?_
    have ey : y = u := by
      have hy : its.toArray[i]? = some y := hy
      rw [show its.toArray[i]? = its[i]? by simp] at hy
      rw [hu] at hy
      exact (Option.some.inj hy).symm
    subst ey
    refine ⟨_, rfl, wpAny_letOwnedTupleGo_enum (s := { s with heap := h', toks := tk + 1 }) ho fun h'' he' sb => ?_⟩
    have hT2 : h''.get? s.heap.objs.size = some { cls := .type "tuple", data := .seq #[.int i tk, y] } := (sb.2 _ (Nat.ne_of_gt hel)).trans hT
    have new : ObjOk X.prog X.w (upd H s.heap.objs.size (.tup [.int (i : Nat), x])) h'' s.heap.objs.size (.tup [.int (i : Nat), x]) :=
      ⟨by show 2 ≤ sizeLine; decide, [.int i tk, y], .cons ⟨_, rfl⟩ (.cons ru .nil), ⟨_, hT2, rfl, _, rfl⟩⟩
    have I1 : Inv X pins σ (upd H s.heap.objs.size (.tup [.int (i : Nat), x])) { s with heap := h'', toks := tk + 1 } :=
      I.turnedNew (ch := [e, it]) (fun b ob hb q => (sb.2 b (fun z => hb (by simp [z]))).trans (hk b ob (fun z => hb (by simp [z])) (fun z => hb (by simp [z])) q)) hf (Nat.le_refl _) new
    refine ⟨.ref s.heap.objs.size, _, I1, rfl, ⟨_, x, rfl, I.hok.fresh (Nat.le_refl _), rfl, fun ys hy => by rw [I.tuple_inj hy hq]; exact hx⟩, ⟨⟨y, ?_⟩, hit'.1.at fun o q => (sb.2 it (Ne.symm hne)).trans q, hne⟩, fun b hb => ?_⟩
    · have e1 : ((i + 1 : Nat) : Int) = (i : Int) + 1 := by omega
      rw [e1]; exact he'
    · have hb' : b < s.heap.objs.size := by
        have e' : b = e ∨ b = it := by simpa using hb
        rcases e' with z | z
        · rw [z]; exact hel
        · rw [z]; exact hil
      rw [upd_ne (Nat.ne_of_lt hb')]
      exact (hf b hb).1
  done := by
    intro X hP hw hK hc i pins s σ H E I hf st hg
    subst hP hw hK
    obtain ⟨⟨old, he⟩, hit, hne⟩ := st
    obtain ⟨xs, hq, hx⟩ := hg
    obtain ⟨its, rv, p, hz⟩ := I.tuple hq
    obtain ⟨f0, f1, f2, f3, f4, f5⟩ := hf it (by simp)
    have hl := rv.length
    have hta : a ≠ it := tupit_ne p hit
    have hT : s.TypeIs (.ref e) "enumerate" := ⟨_, he, rfl⟩
    unfold pyNext
    refine wpAny_bind (wpAny_attempt (wpAny_callSpecial?_slot (name := Str.ofString "__next__") hT F.slot_enumerate_next
      (wpAny_call_entry F.slot_enumerate_next hT F.entry_enumerate_next ?_ (F.args_enumerate_next_1 _))))
    show wpAny _ _ (field (.ref e) 2 >>= _) _ _ _
    refine wpAny_bind (wpAny_field he rfl (x := .ref it) rfl ?_)
    refine wpAny_bind (wpAny_nextOf_tuple_end (show X.A.in1.in1.handled = none from I.ok.hd hc) hit (show s.heap.IsTuple a its.toArray from p) (by simp; omega) fun h' x he' hx' => ?_)
    obtain ⟨o, ho, hc'⟩ := hx'
    refine wpAny_bind (wpAny_isInstance (T := "StopIteration") (b := true) ⟨o, ho, hc'⟩ isSubtype_stop ?_)
    exact wpAny_pure ⟨rfl, I.turned (t' := s.toks) (fun b o hb q => he' b o hb q) f0 f1 f3 f4 f5⟩
  self := fun A i s Q E st h => let ⟨⟨_, he⟩, _⟩ := st; wpAny_pyIter_enum he h
def iEnumT (K : PySem.W.Frag) (ta : TA) : TI := fun σ H R => ta σ H fun vs H1 => ∃ a xs, vs = [.ref a] ∧ ((SqL K H1 a xs ∧ R (Ite K a) H1) ∨ (SqT K H1 a xs ∧ R (IteT K a) H1))
theorem pi_enumA {X : Cx} {e : Expr} {ta : TA} {p pos tpos : Pos} {elts : List Expr} {kk : Nat} (hg : Gl X "enumerate") (hm : X.mg "enumerate" = none) (ha : PA X [e] ta) (hs : starEach [e] X.env = [(false, eval e X.env)]) :
    PI X (.Tuple elts kk tpos) (.Call (.Name "enumerate" p) [e] [] pos) (iEnumT X.K ta) := by
  refine ⟨fun pins s σ H R I h => ?_⟩
  refine Call_ (ld_blt I hg hm boot_enumerate (PyProof.Rows.callWith_type1 (thn (ha.run pos pins s σ H _ I h) fun us s1 ⟨vs, H1, I1, r1, q1⟩ => ?_) hs rfl))
  obtain ⟨a, xs, ex, q1⟩ := q1
  subst ex
  cases r1 with
  | cons r rr =>
    cases rr
    cases r
    have fresh2 : ∀ b, b ∈ [s1.heap.objs.size + 1, s1.heap.objs.size] → FpOk X pins H1 b := fun b hb => by
      have e' : b = s1.heap.objs.size + 1 ∨ b = s1.heap.objs.size := by simpa using hb
      have hle : s1.heap.objs.size ≤ b := by
        rcases e' with z | z
        · rw [z]; exact Nat.le_add_right _ _
        · rw [z]; exact Nat.le_refl _
      exact I1.fpOk hle (I1.hok.fresh hle)
    rcases q1 with ⟨hq, q⟩ | ⟨hq, q⟩
    · obtain ⟨its, rv, p', hz⟩ := I1.list hq
      refine call_enumerate_list p'.isList fun h' he hit hsz hk => wpAny_pyIter_enum he ?_
      have I2 : Inv X pins σ H1 { s1 with heap := h' } := I1.kept (t' := s1.toks) hk
      exact ⟨s1.heap.objs.size + 1, [s1.heap.objs.size + 1, s1.heap.objs.size], _, _, H1, rfl, I2, turn_enum a (s1.heap.objs.size + 1) s1.heap.objs.size, ⟨⟨.none, he⟩, hit, Nat.succ_ne_self _⟩, fresh2, q⟩
    · obtain ⟨its, rv, p', hz⟩ := I1.tuple hq
      refine call_enum1 (begins_tuple a its.toArray) (show s1.heap.IsTuple a its.toArray from p') fun h' he hit hsz hk => wpAny_pyIter_enum he ?_
      have I2 : Inv X pins σ H1 { s1 with heap := h' } := I1.kept (t' := s1.toks) hk
      exact ⟨s1.heap.objs.size + 1, [s1.heap.objs.size + 1, s1.heap.objs.size], _, _, H1, rfl, I2, turn_enumT a (s1.heap.objs.size + 1) s1.heap.objs.size, ⟨⟨.none, he⟩, ⟨_, hit, rfl, rfl⟩, Nat.succ_ne_self _⟩, fresh2, q⟩
end Vi

set_option maxRecDepth 100000
set_option maxHeartbeats 4000000
namespace Vi
open PySem PySem.Spec PyProof.Rows L2
theorem place_ix {n : Nat} {i : Int} {j : Nat} (h : place n i = some j) : ixN n i = some j := by
  unfold place at h
  unfold ixN
  split at h
  · rename_i h0
    rw [if_pos h0]
    exact h
  · rename_i h0
    rw [if_neg h0]
    split at h
    · rename_i h1
      rw [if_pos (by omega)]
      exact h
    · cases h
theorem atI_of {α : Type} {l : List α} {i : Int} {x : α} (h : (place l.length i).bind (l[·]?) = some x) : atI l i = some x := by
  unfold atI
  cases e : place l.length i with
  | none => rw [e] at h; cases h
  | some j =>
    rw [e] at h
    rw [place_ix e]
    exact h
theorem RepL.atI {K : PySem.W.Frag} {H : Hp} {P : Addr → Prop} {ds : List D} {xs : List V} {i : Int} {d : D} (r : RepL K H P ds xs) (h : (place ds.length i).bind (ds[·]?) = some d) : ∃ v, L2.atI xs i = some v ∧ Rep K H P d v := by
  cases e : place ds.length i with
  | none => rw [e] at h; cases h
  | some j =>
    rw [e] at h
    obtain ⟨v, h1, h2⟩ := r.get (show ds[j]? = some d from h)
    refine ⟨v, ?_, h2⟩
    unfold L2.atI
    rw [← r.length, place_ix e]
    exact h1
section
variable {X : Cx} {N : List Str} {sc : Scope} {cm : Bool} {cur : Cur} {g : G} {W : WX} {a b c : Expr} {ea eb ec : E} {pos p : Pos} {rest : List Expr}
def plainIx : Expr → Bool
  | .Slice _ _ _ _ => false
  | _ => true
theorem plainIx_eq {b : Expr} (h : plainIx b = true) : PlainIx b := fun o i => by
  cases b <;> first | rfl | cases h
theorem t_idx (hi : plainIx b = true) (ha : PE X a (T X.K cur g W ea)) (hb : PE X b (T X.K cur g W eb)) : PE X (.Subscript a b pos) (T X.K cur g W (.idx ea eb)) := by
  refine T.imp (pe_ix ix_seq ha hb (plainIx_eq hi)) ?_
  rintro σ H Q ⟨O, ρ, R, h⟩
  refine t_two (k := fun _ da x _ _ y => match y with
    | .int k => (getAt x k).map fun d => .ok .plain (depF d da) d
    | _ => none) R h fun ka da x kb db y v u H1 H2 R1 R2 s1 s2 r1 r2 q => ?_
  cases y with
  | int i =>
    obtain rfl := r2.int
    have q : Fin X.K O ρ σ H2 W Q ((getAt x i).map fun d => Rs.ok .plain (depF d da) d) := q
    cases x with
    | list l =>
      obtain ⟨pa, xs, rfl, hq, r⟩ := r1.list R (same_trans s1 s2)
      cases e : (place l.length i).bind (l[·]?) with
      | none => rw [show getAt (.list l) i = (place l.length i).bind (l[·]?) from rfl, e] at q; exact q.elim
      | some d =>
        rw [show getAt (.list l) i = (place l.length i).bind (l[·]?) from rfl, e] at q
        obtain ⟨v, e1, r3⟩ := RepL.atI r e
        exact .inl ⟨pa, xs, i, v, rfl, rfl, hq, e1, Fin.val q (Rep.dep R2 r3)⟩
    | tuple l =>
      obtain ⟨pa, xs, rfl, hq, r⟩ := r1.tup
      cases e : (place l.length i).bind (l[·]?) with
      | none => rw [show getAt (.tuple l) i = (place l.length i).bind (l[·]?) from rfl, e] at q; exact q.elim
      | some d =>
        rw [show getAt (.tuple l) i = (place l.length i).bind (l[·]?) from rfl, e] at q
        obtain ⟨v, e1, r3⟩ := RepL.atI r e
        exact .inr (.inl ⟨pa, xs, i, v, rfl, rfl, hq.sqt, e1, Fin.val q (Rep.dep R2 r3)⟩)
    | str z =>
      obtain rfl := r1.str
      have q : Fin X.K O ρ σ H2 W Q ((if z.length ≤ sizeLine then (place z.length i).bind fun k => (z.cps.toList[k]?).map fun c => PyData.str ⟨#[c]⟩ else none).map fun d => Rs.ok .plain (depF d da) d) := q
      by_cases hz : z.length ≤ sizeLine
      · rw [if_pos hz] at q
        have el : z.cps.toList.length = z.length := by simp [Str.length]
        cases e : (place z.length i).bind fun k => (z.cps.toList[k]?).map fun c => PyData.str ⟨#[c]⟩ with
        | none => rw [e] at q; exact q.elim
        | some d =>
          rw [e] at q
          cases e2 : place z.length i with
          | none => rw [e2] at e; cases e
          | some j =>
            rw [e2] at e
            cases e3 : z.cps.toList[j]? with
            | none =>
              have e : (z.cps.toList[j]?).map (fun c => PyData.str ⟨#[c]⟩) = some d := e
              rw [e3] at e; cases e
            | some c =>
              have e : (z.cps.toList[j]?).map (fun c => PyData.str ⟨#[c]⟩) = some d := e
              rw [e3] at e
              cases e
              refine .inr (.inr ⟨z, i, c, rfl, rfl, hz, ?_, Fin.val q (.str _)⟩)
              unfold L2.atI
              rw [el, place_ix e2]
              exact e3
      · rw [if_neg hz] at q; exact q.elim
    | _ => exact q.elim
  | _ => exact q.elim
/-! ### slices -/
/-- a slice's part -/
def To (K : PySem.W.Frag) (cur : Cur) (g : G) (W : WX) (e : E) : TO := fun σ H Q => ∃ O ρ, StRel K cur O ρ σ H ∧ (if isMiss e = true then ∀ H', Same H H' → Q none H' else match ev g e ρ with
  | none => False
  | some (.ok _ _ (.int i)) => ∀ H', Same H H' → Q (some i) H'
  | some (.ok _ _ _) => False
  | some (.ex c) => ∀ H', Same H H' → W (.ref (He.ga K c)) none σ H')
theorem to_miss : PO X none (To X.K cur g W .miss) := ⟨fun pins s σ H Q I h => (po_none).run pins s σ H Q I (by
  obtain ⟨O, ρ, R, h⟩ := h
  rw [if_pos (show isMiss .miss = true from rfl)] at h
  exact h H same_refl)⟩
theorem to_some (hm : isMiss ea = false) (ha : PE X a (T X.K cur g W ea)) : PO X (some a) (To X.K cur g W ea) := ⟨fun pins s σ H Q I h => (po_some ha).run pins s σ H Q I (by
  obtain ⟨O, ρ, R, h⟩ := h
  rw [if_neg (by rw [hm]; exact Bool.false_ne_true)] at h
  refine ⟨O, ρ, R, ?_⟩
  cases e : ev g ea ρ with
  | none => rw [e] at h; exact h
  | some z =>
    rw [e] at h
    cases z with
    | ex c => exact h
    | ok k dep d =>
      cases d with
      | int i => exact fun v H' s' r => ⟨i, r.int, h H' s'⟩
      | _ => exact h.elim)⟩
theorem To.bind {K : PySem.W.Frag} {O : Addr → Prop} {ρ : REnv} {σ : L2.St} {H : Hp} {Q : VK} {e : E} {f : Option Int → Option Rs} {Gl : Option Int → Hp → Prop} (R : StRel K cur O ρ σ H)
    (h : Fin K O ρ σ H W Q (if isMiss e = true then f none else part (ev g e ρ) f)) (hk : ∀ o H1, StRel K cur O ρ σ H1 → Same H H1 → Fin K O ρ σ H1 W Q (f o) → Gl o H1) : To K cur g W e σ H Gl := by
  refine ⟨O, ρ, R, ?_⟩
  by_cases hm : isMiss e = true
  · rw [if_pos hm] at h ⊢
    exact fun H' s => hk none H' (R.same s) s (Fin.same s h)
  · rw [if_neg hm] at h ⊢
    cases e1 : ev g e ρ with
    | none => rw [e1] at h; exact h
    | some z =>
      rw [e1] at h
      cases z with
      | ex c => exact h
      | ok k dep d =>
        cases d with
        | int i => exact fun H' s => hk (some i) H' (R.same s) s (Fin.same s h)
        | _ => exact h.elim
theorem cut_cutV (xs : List V) (lo hi : Option Int) : cutV xs lo hi = cut xs lo hi := rfl
theorem RepL.cut {K : PySem.W.Frag} {H : Hp} {P : Addr → Prop} {ds : List D} {xs : List V} (r : RepL K H P ds xs) (lo hi : Option Int) : RepL K H P (Vi.cut ds lo hi) (cutV xs lo hi) := by
  have e := r.length
  show RepL K H P ((ds.drop (sBound ds.length 0 lo)).take (sBound ds.length ds.length hi - sBound ds.length 0 lo)) ((xs.drop (sBound xs.length 0 lo)).take (sBound xs.length xs.length hi - sBound xs.length 0 lo))
  rw [← e]
  exact (r.drop _).take _
theorem cut_whole {α : Type} {l : List α} {lo hi : Option Int} (h1 : sBound l.length 0 lo = 0) (h2 : sBound l.length l.length hi = l.length) : Vi.cut l lo hi = l := by
  unfold Vi.cut
  rw [h1, h2]
  simp
theorem t_slc {lo hi : Option Expr} {el eh : E} {p2 : Pos} (ha : PE X a (T X.K cur g W ea)) (hl : PO X lo (To X.K cur g W el)) (hh : PO X hi (To X.K cur g W eh)) : PE X (.Subscript a (.Slice lo hi none p2) pos) (T X.K cur g W (.slc ea el eh)) := by
  refine T.imp (pe_slice (sl_list.or (sl_tupA.or sl_str)) ha hl hh) ?_
  rintro σ H Q ⟨O, ρ, R, h⟩
  refine T.bind R h fun k dep d v H1 R1 s1 r1 q => ?_
  refine To.bind (f := fun l => if isMiss eh = true then (cutD d l none).map fun r => .ok r.1 (depOf r.2 dep) r.2 else part (ev g eh ρ) fun h => (cutD d l h).map fun r => .ok r.1 (depOf r.2 dep) r.2) R1 q fun l H2 R2 s2 q => ?_
  refine To.bind (f := fun h => (cutD d l h).map fun r => .ok r.1 (depOf r.2 dep) r.2) R2 q fun u H3 R3 s3 q => ?_
  have s13 := same_trans s2 s3
  have r3 := r1.stay s13
  cases d with
  | list ds =>
    obtain ⟨pa, xs, rfl, hq, r⟩ := r3.list R (same_trans s1 s13)
    exact .inl ⟨pa, xs, rfl, hq, fun p n => Fin.lst R3 q (r.cut l u) n⟩
  | tuple ds =>
    obtain ⟨pa, xs, rfl, hq, r⟩ := r3.tup
    have e := r.length
    refine .inr (.inl ⟨pa, xs, rfl, hq.sqt, fun w => ?_, fun _ p n => Fin.tup R3 q (r.cut l u) n⟩)
    have e2 : Vi.cut ds l u = ds := by
      refine cut_whole ?_ ?_
      · rw [e]; exact w.1
      · rw [e]; exact w.2
    have q : Fin X.K O ρ σ H3 W Q (some (.ok .plain dep (.tuple (Vi.cut ds l u)))) := q
    rw [e2] at q
    exact Fin.val q (.tup hq r)
  | str z =>
    obtain rfl := r3.str
    have q : Fin X.K O ρ σ H3 W Q ((if z.length ≤ sizeLine then some (Kd.plain, PyData.str ⟨(Vi.cut z.cps.toList l u).toArray⟩) else none).map fun r => Rs.ok r.1 (depOf r.2 dep) r.2) := q
    obtain ⟨hz, q⟩ := Fin.ite (r := .ex "") q
    refine .inr (.inr ⟨z, rfl, hz, ?_⟩)
    have e : cutS z l u = ⟨(Vi.cut z.cps.toList l u).toArray⟩ := by
      have el : z.cps.toList.length = z.length := by simp [Str.length]
      show (⟨((z.cps.toList.drop (sBound z.length 0 l)).take (sBound z.length z.length u - sBound z.length 0 l)).toArray⟩ : Str) = ⟨((z.cps.toList.drop (sBound z.cps.toList.length 0 l)).take (sBound z.cps.toList.length z.cps.toList.length u - sBound z.cps.toList.length 0 l)).toArray⟩
      rw [el]
    rw [e]
    exact Fin.val q (.str _)
  | _ => exact q.elim
theorem t_rev {p2 p3 p4 : Pos} {k3 : Nat} (ha : PE X a (T X.K cur g W ea)) : PE X (.Subscript a (.Slice none none (some (.UnaryOp .USub (.Constant (.int 1) k3 p4) p3)) p2) pos) (T X.K cur g W (.rev ea)) := by
  refine T.imp (pe_rev ha) ?_
  rintro σ H Q ⟨O, ρ, R, h⟩
  refine T.bind R h fun k dep d v H1 R1 s1 r1 q => ?_
  cases d with
  | list ds =>
    obtain ⟨pa, xs, rfl, hq, r⟩ := r1.list R s1
    exact ⟨pa, xs, rfl, .inl ⟨hq, fun p n => Fin.lst R1 q r.reverse n⟩⟩
  | tuple ds =>
    obtain ⟨pa, xs, rfl, hq, r⟩ := r1.tup
    exact ⟨pa, xs, rfl, .inr ⟨hq.sqt, fun p n => Fin.tup R1 q r.reverse n⟩⟩
  | _ => exact q.elim
end
end Vi

set_option maxRecDepth 100000
set_option maxHeartbeats 4000000
namespace Vi
open PySem PySem.Spec PyProof.Rows L2
section
variable {K : PySem.W.Frag} {cur : Cur} {O : Addr → Prop} {ρ ρ' : REnv} {σ σ' : L2.St} {H H' : Hp}
theorem set_cases {α : Type} {l : List α} {i j : Nat} {x y : α} (h : (l.set i x)[j]? = some y) : (j = i ∧ y = x) ∨ (j ≠ i ∧ l[j]? = some y) := by
  by_cases e : j = i
  · subst e
    by_cases hl : j < l.length
    · rw [List.getElem?_set_self hl] at h
      exact .inl ⟨rfl, (Option.some.inj h).symm⟩
    · rw [List.getElem?_eq_none (by simpa using hl)] at h
      cases h
  · rw [List.getElem?_set_ne (Ne.symm e)] at h
    exact .inr ⟨e, h⟩
theorem set_at {α : Type} {l : List α} {i : Nat} {x : α} (h : i < l.length) : (l.set i x)[i]? = some x := List.getElem?_set_self h
theorem set_ne {α : Type} {l : List α} {i j : Nat} {x : α} (h : j ≠ i) : (l.set i x)[j]? = l[j]? := List.getElem?_set_ne (Ne.symm h)
/-- no slot but i changes, and slot i owns nothing behind it -/
theorem Pm.set {s : Slot} {v : Option V} {i : Nat} {dep : List Nat} {a : Addr} (hs : ∀ ds, s ≠ .own ds) (h : Pm O ρ σ dep a) (hd : ∀ j ∈ dep, j = i) : Pm O (ρ.set i s) (σ.set i v) [] a := by
  refine ⟨h.1, fun j ds e1 e2 => ?_⟩
  rcases set_cases e1 with ⟨_, e⟩ | ⟨n, e1⟩
  · exact absurd e.symm (hs ds)
  · rw [set_ne n] at e2
    exact absurd (hd j (h.2 j ds e1 e2)) n
theorem Ow.set {s : Slot} {v : Option V} {i : Nat} {a : Addr} (hs : ∀ ds, s ≠ .own ds) (h : Ow (ρ.set i s) (σ.set i v) a) : Ow ρ σ a := by
  obtain ⟨j, ds, e1, e2⟩ := h
  rcases set_cases e1 with ⟨_, e⟩ | ⟨n, e1⟩
  · exact absurd e.symm (hs ds)
  · rw [set_ne n] at e2
    exact ⟨j, ds, e1, e2⟩
/-- a slot is stored that owns nothing -/
theorem StRel.put (R : StRel K cur O ρ σ H) {s : Slot} {v : Option V} {i : Nat} (hs : ∀ ds, s ≠ .own ds) (h1 : ∀ d, s = .val d → ∃ u, v = some u ∧ Rep K H (Pm O (ρ.set i s) (σ.set i v) []) d u)
    (h2 : ∀ c, s = .exc c → ∃ a, cur = some (a, c) ∧ v = some (.ref a)) (hi : i < ρ.length) : StRel K cur O (ρ.set i s) (σ.set i v) H := by
  have up : ∀ a, Pm O ρ σ [] a → Pm O (ρ.set i s) (σ.set i v) [] a := fun a p => p.set hs (fun j z => by simp at z)
  have hiσ : i < σ.length := by rw [← R.len]; exact hi
  refine ⟨by simp [R.len], R.od, fun j d e => ?_, fun j ds e => ?_, fun j k ds es a e1 e2 e3 e4 => ?_, fun j c e => ?_⟩
  · rcases set_cases e with ⟨rfl, e9⟩ | ⟨n, e⟩
    · obtain ⟨u, e1, r⟩ := h1 d e9.symm
      exact ⟨u, by rw [set_at hiσ, e1], r⟩
    · obtain ⟨u, e1, r⟩ := R.val j d e
      exact ⟨u, by rw [set_ne n]; exact e1, Rep.stay (.same same_refl up) _ r⟩
  · rcases set_cases e with ⟨_, e⟩ | ⟨n, e⟩
    · exact absurd e.symm (hs ds)
    · obtain ⟨a, xs, e1, e2, no, r⟩ := R.own j ds e
      exact ⟨a, xs, by rw [set_ne n]; exact e1, e2, no, RepL.stay (.same same_refl up) _ r⟩
  · rcases set_cases e1 with ⟨_, e⟩ | ⟨n, e1⟩
    · exact absurd e.symm (hs ds)
    · rcases set_cases e2 with ⟨_, e⟩ | ⟨n2, e2⟩
      · exact absurd e.symm (hs es)
      · rw [set_ne n] at e3
        rw [set_ne n2] at e4
        exact R.sep j k ds es a e1 e2 e3 e4
  · rcases set_cases e with ⟨rfl, e9⟩ | ⟨n, e⟩
    · obtain ⟨a, e1, e2⟩ := h2 c e9.symm
      exact ⟨a, e1, by rw [set_at hiσ, e2]⟩
    · obtain ⟨a, e1, e2⟩ := R.exc j c e
      exact ⟨a, e1, by rw [set_ne n]; exact e2⟩
theorem StRel.set_val (R : StRel K cur O ρ σ H) {i : Nat} {d : D} {v : V} (hi : i < ρ.length) (r : Rep K H (Pm O ρ σ []) d v) : StRel K cur O (ρ.set i (.val d)) (σ.set i (some v)) H :=
  R.put (fun _ e => nomatch e) (fun d' e => by
    cases e
    exact ⟨v, rfl, Rep.stay (.same same_refl fun a p => p.set (fun _ e => nomatch e) fun j z => by simp at z) _ r⟩) (fun _ e => nomatch e) hi
theorem Step.set_val {i : Nat} {s : Slot} {v : Option V} (hs : ∀ ds, s ≠ .own ds) : Step ρ σ H (ρ.set i s) (σ.set i v) H := ⟨fun a u e _ => e, fun a o => .inl (o.set hs), fun _ h => h⟩
theorem StRel.set_un (R : StRel K cur O ρ σ H) {i : Nat} {v : Option V} (hi : i < ρ.length) : StRel K cur O (ρ.set i .un) (σ.set i v) H :=
  R.put (fun _ e => nomatch e) (fun _ e => nomatch e) (fun _ e => nomatch e) hi
/-- a list is owned: one just made -/
theorem StRel.set_own (R : StRel K cur O ρ σ H) {i : Nat} {ds : List D} {xs : List V} {p : Addr} {H0 : Hp} (hi : i < ρ.length) (s : Same H0 H) (R0 : StRel K cur O ρ σ H0) (n : H0 p = none) (e : H p = some (.lst xs)) (r : RepL K H (fun a => Pm O ρ σ [] a ∧ a ≠ p) ds xs) :
    StRel K cur O (ρ.set i (.own ds)) (σ.set i (some (.ref p))) H := by
  have hiσ : i < σ.length := by rw [← R.len]; exact hi
  have up : ∀ a, Pm O ρ σ [] a → a ≠ p → Pm O (ρ.set i (.own ds)) (σ.set i (some (.ref p))) [] a := fun a q ne => ⟨q.1, fun j es e1 e2 => by
    rcases set_cases e1 with ⟨rfl, _⟩ | ⟨nj, e1⟩
    · rw [set_at hiσ] at e2
      cases e2
      exact absurd rfl ne
    · rw [set_ne nj] at e2
      exact q.2 j es e1 e2⟩
  -- what the slots hold is older than p
  have old : ∀ {d : D} {v : V}, Rep K H0 (Pm O ρ σ []) d v → Rep K H (Pm O (ρ.set i (.own ds)) (σ.set i (some (.ref p))) []) d v := fun r => Rep.stay (fun a u q z => ⟨up a q (fun e => by subst e; exact Rd.dom z n), Rd.same s z⟩) _ r
  have oldL : ∀ {d : List D} {v : List V}, RepL K H0 (Pm O ρ σ []) d v → RepL K H (Pm O (ρ.set i (.own ds)) (σ.set i (some (.ref p))) []) d v := fun r => RepL.stay (fun a u q z => ⟨up a q (fun e => by subst e; exact Rd.dom z n), Rd.same s z⟩) _ r
  have nop : ∀ (j : Nat) (es : List D), ρ[j]? = some (Slot.own es) → σ[j]? ≠ some (some (V.ref p)) := fun j es e1 e2 => by
    obtain ⟨a, ys, e3, e4, _⟩ := R0.own j es e1
    rw [e2] at e3
    cases e3
    rw [n] at e4
    cases e4
  refine ⟨by simp [R.len], R.od, fun j d e1 => ?_, fun j es e1 => ?_, fun j k es fs a e1 e2 e3 e4 => ?_, fun j c e1 => ?_⟩
  · rcases set_cases e1 with ⟨_, e1⟩ | ⟨nj, e1⟩
    · cases e1
    · obtain ⟨u, e2, q⟩ := R0.val j d e1
      exact ⟨u, by rw [set_ne nj]; exact e2, old q⟩
  · rcases set_cases e1 with ⟨rfl, e9⟩ | ⟨nj, e1⟩
    · cases e9
      exact ⟨p, xs, set_at hiσ, e, fun o => R0.od p o n, RepL.stay (fun a u q z => ⟨up a q.1 q.2, z⟩) _ r⟩
    · obtain ⟨a, ys, e2, e3, no, q⟩ := R0.own j es e1
      exact ⟨a, ys, by rw [set_ne nj]; exact e2, s _ _ e3, no, oldL q⟩
  · rcases set_cases e1 with ⟨hj, e1⟩ | ⟨nj, e1⟩
    · rcases set_cases e2 with ⟨hk, e2⟩ | ⟨nk, e2⟩
      · rw [hj, hk]
      · rw [hj, set_at hiσ] at e3
        cases e3
        rw [set_ne nk] at e4
        exact absurd e4 (nop k fs e2)
    · rcases set_cases e2 with ⟨hk, e2⟩ | ⟨nk, e2⟩
      · rw [hk, set_at hiσ] at e4
        cases e4
        rw [set_ne nj] at e3
        exact absurd e3 (nop j es e1)
      · rw [set_ne nj] at e3
        rw [set_ne nk] at e4
        exact R.sep j k es fs a e1 e2 e3 e4
  · rcases set_cases e1 with ⟨_, e1⟩ | ⟨nj, e1⟩
    · cases e1
    · obtain ⟨a, e2, e3⟩ := R.exc j c e1
      exact ⟨a, e2, by rw [set_ne nj]; exact e3⟩
theorem Step.set_own {i : Nat} {ds : List D} {p : Addr} (hi : i < σ.length) (n : H p = none) (s : Same H H') : Step ρ σ H (ρ.set i (.own ds)) (σ.set i (some (.ref p))) H' := by
  refine ⟨fun a u e _ => s a u e, fun a o => ?_, (Step.of_same (ρ := ρ) (σ := σ) s).dom⟩
  obtain ⟨j, es, e1, e2⟩ := o
  rcases set_cases e1 with ⟨rfl, _⟩ | ⟨nj, e1⟩
  · rw [set_at hi] at e2
    cases e2
    exact .inr n
  · rw [set_ne nj] at e2
    exact .inl ⟨j, es, e1, e2⟩
/-! ### lists are owned no more -/
theorem disown_length (dep : List Nat) (ρ : REnv) : (disown dep ρ).length = ρ.length := by
  cases dep with
  | nil => rfl
  | cons a b => simp [disown, disownAll]
theorem disown_get (dep : List Nat) (ρ : REnv) (i : Nat) : (disown dep ρ)[i]? = (ρ[i]?).map fun s => match s with
    | .own ds => if dep.contains i then .val (.list ds) else .own ds
    | s => s := by
  cases dep with
  | nil =>
    show ρ[i]? = _
    cases ρ[i]? with
    | none => rfl
    | some s => cases s <;> rfl
  | cons a b =>
    show (disownAll (a :: b) ρ)[i]? = _
    unfold disownAll
    rw [List.getElem?_mapIdx] <;> (cases ρ[i]? with
    | none => rfl
    | some s => cases s <;> rfl)
theorem disown_own {dep : List Nat} {ρ : REnv} {i : Nat} {ds : List D} (h : (disown dep ρ)[i]? = some (.own ds)) : ρ[i]? = some (.own ds) ∧ i ∉ dep := by
  rw [disown_get] at h
  cases e : ρ[i]? with
  | none => rw [e] at h; cases h
  | some s =>
    rw [e] at h
    cases s with
    | own es =>
      have h : some (if dep.contains i then Slot.val (.list es) else .own es) = some (.own ds) := h
      by_cases c : dep.contains i = true
      · rw [if_pos c] at h; cases h
      · rw [if_neg c] at h
        cases h
        exact ⟨rfl, by simpa using c⟩
    | _ => cases h
theorem Pm.disown {dep : List Nat} {a : Addr} (h : Pm O ρ σ dep a) : Pm O (Vi.disown dep ρ) σ [] a := ⟨h.1, fun i ds e1 e2 => by
  obtain ⟨e3, n⟩ := disown_own e1
  exact absurd (h.2 i ds e3 e2) n⟩
theorem Ow.disown {dep : List Nat} {a : Addr} (h : Ow (Vi.disown dep ρ) σ a) : Ow ρ σ a := by
  obtain ⟨i, ds, e1, e2⟩ := h
  exact ⟨i, ds, (disown_own e1).1, e2⟩
theorem StRel.disown (R : StRel K cur O ρ σ H) (dep : List Nat) : StRel K cur O (Vi.disown dep ρ) σ H := by
  have up : ∀ a, Pm O ρ σ [] a → Pm O (Vi.disown dep ρ) σ [] a := fun a p => Pm.disown (p.mono fun i z => by simp at z)
  refine ⟨by rw [disown_length]; exact R.len, R.od, fun i d e => ?_, fun i ds e => ?_, fun i j ds es a e1 e2 e3 e4 => R.sep i j ds es a (disown_own e1).1 (disown_own e2).1 e3 e4, fun i c e => ?_⟩
  · rw [disown_get] at e
    cases e1 : ρ[i]? with
    | none => rw [e1] at e; cases e
    | some s =>
      rw [e1] at e
      cases s with
      | own es =>
        have e : some (if dep.contains i then Slot.val (.list es) else .own es) = some (.val d) := e
        by_cases c : dep.contains i = true
        · rw [if_pos c] at e
          cases e
          obtain ⟨a, xs, e2, e3, no, r⟩ := R.own i es e1
          refine ⟨_, e2, .lst (.inl ⟨⟨no, fun j fs e4 e5 => ?_⟩, .inl e3⟩) (RepL.stay (.same same_refl up) _ r)⟩
          obtain ⟨e6, n⟩ := disown_own e4
          have := R.sep j i fs es a e6 e1 e5 e2
          subst this
          exact absurd (by simpa using c) n
        · rw [if_neg c] at e; cases e
      | val d9 =>
        have e : some (Slot.val d9) = some (Slot.val d) := e
        cases e
        obtain ⟨v, e2, r⟩ := R.val i d e1
        exact ⟨v, e2, Rep.stay (.same same_refl up) _ r⟩
      | _ => cases e
  · obtain ⟨e1, n⟩ := disown_own e
    obtain ⟨a, xs, e2, e3, no, r⟩ := R.own i ds e1
    exact ⟨a, xs, e2, e3, no, RepL.stay (.same same_refl up) _ r⟩
  · rw [disown_get] at e
    cases e1 : ρ[i]? with
    | none => rw [e1] at e; cases e
    | some s =>
      rw [e1] at e
      cases s with
      | own es =>
        have e : some (if dep.contains i then Slot.val (.list es) else .own es) = some (.exc c) := e
        by_cases q : dep.contains i = true
        · rw [if_pos q] at e; cases e
        · rw [if_neg q] at e; cases e
      | exc c9 =>
        have e : some (Slot.exc c9) = some (Slot.exc c) := e
        cases e
        exact R.exc i c e1
      | _ => cases e
theorem Step.disown (dep : List Nat) : Step ρ σ H (Vi.disown dep ρ) σ H := ⟨fun a u e _ => e, fun a o => .inl o.disown, fun _ h => h⟩
/-! ### targets -/
def gT (K : PySem.W.Frag) : Tg → TG
  | .one i => gName i
  | .two i j => gTup K 2 (gCons (gName i) (gCons (gName j) gNil))
theorem RepL.two {P : Addr → Prop} {x y : D} {xs : List V} (h : RepL K H P [x, y] xs) : ∃ u v, xs = [u, v] ∧ Rep K H P x u ∧ Rep K H P y v := by
  cases h with
  | cons a b =>
    cases b with
    | cons c d =>
      cases d
      exact ⟨_, _, rfl, a, c⟩
theorem bind_ok {tg : Tg} {d : D} {x : V} {ρ1 : REnv} {Gl : L2.St → Hp → Prop} (R : StRel K cur O ρ σ H) (r : Rep K H (Pm O ρ σ []) d x) (e : bindT tg d ρ = some ρ1)
    (h : ∀ σ1, StRel K cur O ρ1 σ1 H → Step ρ σ H ρ1 σ1 H → (∀ l : List Nat, (∀ i, (match tg with | .one j => i = j | .two j k => i = j ∨ i = k) → i ∈ l) → wipe σ1 l = wipe σ l) → Gl σ1 H) : gT K tg x σ H Gl := by
  have wset : ∀ (l : List Nat) (i : Nat) (v : Option V) (τ : L2.St), i ∈ l → wipe (τ.set i v) l = wipe τ l := by
    intro l
    induction l with
    | nil => intro i v τ h; simp at h
    | cons a l ih =>
      intro i v τ h
      unfold wipe
      by_cases hi : i ∈ l
      · rw [ih i v τ hi]
      · have hia : i = a := by simpa [hi] using h
        subst hia
        have : ∀ (m : List Nat), i ∉ m → (wipe (τ.set i v) m) = (wipe τ m).set i v := by
          intro m
          induction m with
          | nil => intro _; rfl
          | cons b m ihm =>
            intro hm
            unfold wipe
            have hb : i ≠ b := fun e => hm (by simp [e])
            rw [ihm (fun z => hm (List.mem_cons_of_mem _ z)), List.set_comm _ _ hb]
        rw [this l hi, List.set_set]
  cases tg with
  | one i =>
    have e : (if i < ρ.length then some (ρ.set i (.val d)) else none) = some ρ1 := e
    by_cases hi : i < ρ.length
    · rw [if_pos hi] at e
      cases e
      exact h _ (R.set_val hi r) (Step.set_val fun _ e => nomatch e) fun l hl => wset l i _ σ (hl i rfl)
    · rw [if_neg hi] at e; cases e
  | two i j =>
    cases d with
    | tuple l =>
      match l, e, r with
      | [], e, _ => cases e
      | [_], e, _ => cases e
      | _ :: _ :: _ :: _, e, _ => cases e
      | [a, b], e, r =>
        have e : (if i < ρ.length ∧ j < ρ.length then some ((ρ.set i (.val a)).set j (.val b)) else none) = some ρ1 := e
        by_cases hi : i < ρ.length ∧ j < ρ.length
        · rw [if_pos hi] at e
          cases e
          cases r with
          | tup q rl =>
            obtain ⟨u, v, rfl, ra, rb⟩ := rl.two
            refine ⟨_, _, rfl, q.sqt, rfl, u, [v], rfl, v, [], rfl, rfl, ?_⟩
            have R1 := R.set_val hi.1 ra
            have rb1 : Rep K H (Pm O (ρ.set i (.val a)) (σ.set i (some u)) []) b v := Rep.stay (.same same_refl fun a p => p.set (fun _ e => nomatch e) fun j z => by simp at z) _ rb
            refine h _ (R1.set_val (by simpa using hi.2) rb1) ((Step.set_val (s := .val a) fun _ e => nomatch e).trans (Step.set_val (s := .val b) fun _ e => nomatch e)) fun l hl => ?_
            rw [wset l j _ _ (hl j (.inr rfl)), wset l i _ _ (hl i (.inl rfl))]
        · rw [if_neg hi] at e; cases e
    | _ => cases e
end
end Vi

set_option maxRecDepth 100000
set_option maxHeartbeats 4000000
namespace Vi
open PySem PySem.Spec PyProof.Rows L2
/-- what a walk J draws: the items xs, its container within P0, the items within P1 -/
structure Yl (K : PySem.W.Frag) (J : It) (H0 : Hp) (P0 P1 : Addr → Prop) (xs : List D) : Prop where
  stop : ∀ (i : Nat) (H' : Hp) (P' : Addr → Prop), Stay H0 H' P0 P' → xs.length ≤ i → J.stop i H'
  go : ∀ (i : Nat) (H' : Hp) (P' : Addr → Prop), Stay H0 H' P0 P' → i < xs.length → J.go i H'
  yld : ∀ (i : Nat) (H' : Hp) (P' P1' : Addr → Prop) (d : D) (x : V) (H'' : Hp), Stay H0 H' P0 P' → Stay H0 H' P1 P1' → (∀ p, H' p = none → P1' p) → xs[i]? = some d → J.yld i H' x H'' → Same H' H'' ∧ Rep K H'' P1' d x
/-- a walk's reading -/
def FinI (K : PySem.W.Frag) (O : Addr → Prop) (ρ : REnv) (σ : L2.St) (H : Hp) (W : WX) (R : It → Hp → Prop) (r : Option Rs) : Prop := match r with
  | none => False
  | some (.ok k dep d) => match items d with
    | none => False
    | some xs => ∀ J H', Same H H' → Yl K J H' (Pm O ρ σ (k.tot dep)) (Pm O ρ σ dep) xs → R J H'
  | some (.ex c) => ∀ H', Same H H' → W (.ref (He.ga K c)) none σ H'
def Ti (K : PySem.W.Frag) (cur : Cur) (g : G) (W : WX) (e : E) : TI := fun σ H R => ∃ O ρ, StRel K cur O ρ σ H ∧ FinI K O ρ σ H W R (ev g e ρ)
theorem FinI.same {K : PySem.W.Frag} {O : Addr → Prop} {ρ : REnv} {σ : L2.St} {H H1 : Hp} {W : WX} {R : It → Hp → Prop} {r : Option Rs} (s : Same H H1) (h : FinI K O ρ σ H W R r) : FinI K O ρ σ H1 W R r := by
  cases r with
  | none => exact h
  | some z =>
    cases z with
    | ex c => exact fun H2 s2 => h H2 (same_trans s s2)
    | ok k dep d =>
      have h : match items d with
        | none => False
        | some xs => ∀ J H', Same H H' → Yl K J H' (Pm O ρ σ (k.tot dep)) (Pm O ρ σ dep) xs → R J H' := h
      show match items d with
        | none => False
        | some xs => ∀ J H2, Same H1 H2 → Yl K J H2 (Pm O ρ σ (k.tot dep)) (Pm O ρ σ dep) xs → R J H2
      cases e3 : items d with
      | none => rw [e3] at h; exact h
      | some xs => rw [e3] at h; exact fun J H2 s2 => h J H2 (same_trans s s2)
section
variable {K : PySem.W.Frag} {H : Hp} {P0 P1 : Addr → Prop}
theorem stay_refl : Stay H H P0 P0 := fun a u p r => ⟨p, r⟩
theorem yl_list {a : Addr} {vs : List V} {ds : List D} (q : QL K H P0 a vs) (r : RepL K H P1 ds vs) : Yl K (Itl K a) H P0 P1 ds where
  stop := fun i H' P' s h => ⟨vs, (q.stay s).sql, by rw [← r.length]; exact h⟩
  go := fun i H' P' s h => ⟨vs, vs[i]'(by rw [← r.length]; exact h), (q.stay s).sql, by simp⟩
  yld := fun i H' P' P1' d x H'' s s1 _ e y => by
    obtain ⟨rfl, y⟩ := y
    obtain ⟨v, e1, r1⟩ := (RepL.stay s1 _ r).get e
    have := y vs (q.stay s).sql
    rw [e1] at this
    cases this
    exact ⟨same_refl, r1⟩
theorem yl_tup {a : Addr} {vs : List V} {ds : List D} (q : QT K H P0 a vs) (r : RepL K H P1 ds vs) : Yl K (Itt K a) H P0 P1 ds where
  stop := fun i H' P' s h => ⟨vs, (q.stay s).sqt, by rw [← r.length]; exact h⟩
  go := fun i H' P' s h => ⟨vs, vs[i]'(by rw [← r.length]; exact h), (q.stay s).sqt, by simp⟩
  yld := fun i H' P' P1' d x H'' s s1 _ e y => by
    obtain ⟨rfl, y⟩ := y
    obtain ⟨v, e1, r1⟩ := (RepL.stay s1 _ r).get e
    have := y vs (q.stay s).sqt
    rw [e1] at this
    cases this
    exact ⟨same_refl, r1⟩
theorem yl_str {z : Str} : Yl K (Its z) H P0 P1 (chars z) := by
  have el : (chars z).length = z.cps.size := by simp [chars]
  refine ⟨fun i H' P' s h => ?_, fun i H' P' s h => ?_, fun i H' P' P1' d x H'' s s1 _ e y => ?_⟩
  · show z.cps.size ≤ i
    omega
  · show i < z.cps.size
    omega
  · obtain ⟨rfl, c, ec, rfl⟩ := y
    have e : (z.cps.toList.map fun c => PyData.str ⟨#[c]⟩)[i]? = some d := e
    rw [List.getElem?_map, Array.getElem?_toList, ec] at e
    cases e
    exact ⟨same_refl, .str _⟩
theorem yl_rng {lo : Int} {n : Nat} : Yl K (Itr lo n) H P0 P1 (rangeD lo n) := by
  have el : (rangeD lo n).length = n := by simp [rangeD]
  refine ⟨fun i H' P' s h => ?_, fun i H' P' s h => ?_, fun i H' P' P1' d x H'' s s1 _ e y => ?_⟩
  · show n ≤ i
    omega
  · show i < n
    omega
  · obtain ⟨rfl, rfl⟩ := y
    have hi : i < n := by
      have := (List.getElem?_eq_some_iff.mp e).1
      omega
    have e : ((List.range n).map fun (k : Nat) => PyData.int (lo + k))[i]? = some d := e
    rw [List.getElem?_map, List.getElem?_range hi] at e
    cases e
    exact ⟨same_refl, .int _⟩
theorem yl_down {lo : Int} {n : Nat} : Yl K (Itc lo (-1) n) H P0 P1 (rangeDown lo n) := by
  have el : (rangeDown lo n).length = n := by simp [rangeDown]
  refine ⟨fun i H' P' s h => ?_, fun i H' P' s h => ?_, fun i H' P' P1' d x H'' s s1 _ e y => ?_⟩
  · show n ≤ i
    omega
  · show i < n
    omega
  · obtain ⟨rfl, rfl⟩ := y
    have hi : i < n := by
      have := (List.getElem?_eq_some_iff.mp e).1
      omega
    have e : ((List.range n).map fun (k : Nat) => PyData.int (lo - k))[i]? = some d := e
    rw [List.getElem?_map, List.getElem?_range hi] at e
    cases e
    refine ⟨same_refl, ?_⟩
    have : lo + (i : Int) * -1 = lo - i := by omega
    rw [this]
    exact .int _
theorem rep_pair {H' : Hp} {P : Addr → Prop} {T : Addr} {a b : D} {x y : V} (n : H' T = none) (p : P T) (ra : Rep K H' P a x) (rb : Rep K H' P b y) : Same H' (upd H' T (.tup [x, y])) ∧ Rep K (upd H' T (.tup [x, y])) P (.tuple [a, b]) (.ref T) :=
  ⟨same_upd n, .tup (.inl ⟨p, .inl upd_same⟩) (.cons (Rep.stay (.same (same_upd n) fun _ z => z) _ ra) (.cons (Rep.stay (.same (same_upd n) fun _ z => z) _ rb) .nil))⟩
theorem enumD_length : ∀ (xs : List D) (k : Nat), (enumD xs k).length = xs.length
  | [], _ => rfl
  | x :: r, k => by simp [enumD, enumD_length r]
theorem enumD_get : ∀ (xs : List D) (k i : Nat) (d : D), (enumD xs k)[i]? = some d → ∃ x, xs[i]? = some x ∧ d = .tuple [.int ((k + i : Nat) : Int), x]
  | [], _, _, _, h => by simp [enumD] at h
  | x :: r, k, 0, d, h => by
    have h : some (PyData.tuple [.int k, x]) = some d := h
    cases h
    exact ⟨x, rfl, rfl⟩
  | x :: r, k, i + 1, d, h => by
    obtain ⟨y, e1, e2⟩ := enumD_get r (k + 1) i d h
    refine ⟨y, e1, ?_⟩
    rw [e2]
    have : k + 1 + i = k + (i + 1) := by omega
    rw [this]
theorem yl_enum {a : Addr} {vs : List V} {ds : List D} (q : QL K H P0 a vs) (r : RepL K H P1 ds vs) : Yl K (Ite K a) H P0 P1 (enumD ds 0) where
  stop := fun i H' P' s h => ⟨vs, (q.stay s).sql, by rw [enumD_length] at h; rw [← r.length]; exact h⟩
  go := fun i H' P' s h => ⟨vs, vs[i]'(by rw [enumD_length] at h; rw [← r.length]; exact h), (q.stay s).sql, by simp⟩
  yld := fun i H' P' P1' d x H'' s s1 hn e y => by
    obtain ⟨T, v, rfl, n, rfl, y⟩ := y
    obtain ⟨b, e1, rfl⟩ := enumD_get _ _ _ _ e
    obtain ⟨v', e2, r1⟩ := (RepL.stay s1 _ r).get e1
    have := y vs (q.stay s).sql
    rw [e2] at this
    cases this
    rw [Nat.zero_add]
    exact rep_pair n (hn T n) (.int _) r1
theorem yl_enumT {a : Addr} {vs : List V} {ds : List D} (q : QT K H P0 a vs) (r : RepL K H P1 ds vs) : Yl K (IteT K a) H P0 P1 (enumD ds 0) where
  stop := fun i H' P' s h => ⟨vs, (q.stay s).sqt, by rw [enumD_length] at h; rw [← r.length]; exact h⟩
  go := fun i H' P' s h => ⟨vs, vs[i]'(by rw [enumD_length] at h; rw [← r.length]; exact h), (q.stay s).sqt, by simp⟩
  yld := fun i H' P' P1' d x H'' s s1 hn e y => by
    obtain ⟨T, v, rfl, n, rfl, y⟩ := y
    obtain ⟨b, e1, rfl⟩ := enumD_get _ _ _ _ e
    obtain ⟨v', e2, r1⟩ := (RepL.stay s1 _ r).get e1
    have := y vs (q.stay s).sqt
    rw [e2] at this
    cases this
    rw [Nat.zero_add]
    exact rep_pair n (hn T n) (.int _) r1
theorem pairs_length : ∀ (xs ys : List D), (pairs xs ys).length = min xs.length ys.length
  | [], ys => by simp [pairs]
  | _ :: _, [] => by simp [pairs]
  | x :: xs, y :: ys => by simp [pairs, pairs_length xs ys]
theorem pairs_get : ∀ (xs ys : List D) (i : Nat) (d : D), (pairs xs ys)[i]? = some d → ∃ x y, xs[i]? = some x ∧ ys[i]? = some y ∧ d = .tuple [x, y]
  | [], _, _, _, h => by simp [pairs] at h
  | _ :: _, [], _, _, h => by simp [pairs] at h
  | x :: xs, y :: ys, 0, d, h => by
    have h : some (PyData.tuple [x, y]) = some d := h
    cases h
    exact ⟨x, y, rfl, rfl, rfl⟩
  | x :: xs, y :: ys, i + 1, d, h => pairs_get xs ys i d h
theorem yl_zip {a b : Addr} {vs ws : List V} {ds es : List D} (q : QL K H P0 a vs) (q2 : QL K H P0 b ws) (r : RepL K H P1 ds vs) (r2 : RepL K H P1 es ws) : Yl K (Itz K a b) H P0 P1 (pairs ds es) where
  stop := fun i H' P' s h => by
    have l1 := r.length
    have l2 := r2.length
    rw [pairs_length] at h
    exact ⟨vs, ws, (q.stay s).sql, (q2.stay s).sql, by omega⟩
  go := fun i H' P' s h => by
    have l1 := r.length
    have l2 := r2.length
    rw [pairs_length] at h
    exact ⟨vs, ws, vs[i]'(by omega), ws[i]'(by omega), (q.stay s).sql, (q2.stay s).sql, by simp, by simp⟩
  yld := fun i H' P' P1' d x H'' s s1 hn e y => by
    obtain ⟨T, u, v, rfl, n, rfl, y1, y2⟩ := y
    obtain ⟨c, c2, e1, e2, rfl⟩ := pairs_get _ _ _ _ e
    obtain ⟨v1, e3, r3⟩ := (RepL.stay s1 _ r).get e1
    obtain ⟨v2, e4, r4⟩ := (RepL.stay s1 _ r2).get e2
    have z1 := y1 vs (q.stay s).sql
    have z2 := y2 ws (q2.stay s).sql
    rw [e3] at z1
    rw [e4] at z2
    cases z1
    cases z2
    exact rep_pair n (hn T n) r3 r4
theorem yl_zipT {a b : Addr} {vs ws : List V} {ds es : List D} (q : QT K H P0 a vs) (q2 : QT K H P0 b ws) (r : RepL K H P1 ds vs) (r2 : RepL K H P1 es ws) : Yl K (RZ.ItzT K a b) H P0 P1 (pairs ds es) where
  stop := fun i H' P' s h => by
    have l1 := r.length
    have l2 := r2.length
    rw [pairs_length] at h
    exact ⟨vs, ws, (q.stay s).sqt, (q2.stay s).sqt, by omega⟩
  go := fun i H' P' s h => by
    have l1 := r.length
    have l2 := r2.length
    rw [pairs_length] at h
    exact ⟨vs, ws, vs[i]'(by omega), ws[i]'(by omega), (q.stay s).sqt, (q2.stay s).sqt, by simp, by simp⟩
  yld := fun i H' P' P1' d x H'' s s1 hn e y => by
    obtain ⟨T, u, v, rfl, n, rfl, y1, y2⟩ := y
    obtain ⟨c, c2, e1, e2, rfl⟩ := pairs_get _ _ _ _ e
    obtain ⟨v1, e3, r3⟩ := (RepL.stay s1 _ r).get e1
    obtain ⟨v2, e4, r4⟩ := (RepL.stay s1 _ r2).get e2
    have z1 := y1 vs (q.stay s).sqt
    have z2 := y2 ws (q2.stay s).sqt
    rw [e3] at z1
    rw [e4] at z2
    cases z1
    cases z2
    exact rep_pair n (hn T n) r3 r4
/-- the container of a list that an expression gave -/
theorem Res.listQ {cur : Cur} {O : Addr → Prop} {ρ : REnv} {σ : L2.St} {H' : Hp} {k : Kd} {dep : List Nat} {ds : List D} {v : V} (R : StRel K cur O ρ σ H) (h : Res K O ρ σ H H' k dep (.list ds) v) :
    ∃ a xs, v = .ref a ∧ QL K H' (Pm O ρ σ (k.tot dep)) a xs ∧ RepL K H' (Pm O ρ σ dep) ds xs := by
  cases k with
  | fresh =>
    obtain ⟨p, xs, ds, e0, rfl, n, e, r⟩ := h
    cases e0
    exact ⟨p, xs, rfl, .inl ⟨R.new n, .inl e⟩, RepL.stay (fun a u p r => ⟨p.1, r⟩) _ r⟩
  | own i =>
    obtain ⟨a, xs, ds, e0, e2, rfl, e1, e, r⟩ := h
    cases e0
    exact ⟨a, xs, rfl, .inl ⟨Pm.own R e2 e1 (List.mem_cons_self ..), .inl e⟩, r⟩
  | via l => exact h.elim
  | plain =>
    cases (show Rep K H' (Pm O ρ σ dep) (.list ds) v from h) with
    | lst q r => exact ⟨_, _, rfl, q, r⟩
theorem Res.tupQ {O : Addr → Prop} {ρ : REnv} {σ : L2.St} {H' : Hp} {k : Kd} {dep : List Nat} {ds : List D} {v : V} (h : Res K O ρ σ H H' k dep (.tuple ds) v) :
    ∃ a xs, v = .ref a ∧ QT K H' (Pm O ρ σ (k.tot dep)) a xs ∧ RepL K H' (Pm O ρ σ dep) ds xs := by
  cases k with
  | fresh => obtain ⟨p, xs, ds, e0, _⟩ := h; cases e0
  | own i => obtain ⟨a, xs, ds, e0, _⟩ := h; cases e0
  | via l => exact h.elim
  | plain =>
    cases (show Rep K H' (Pm O ρ σ dep) (.tuple ds) v from h) with
    | tup q r => exact ⟨_, _, rfl, q, r⟩
end
section
variable {X : Cx} {N : List Str} {sc : Scope} {cm : Bool} {cur : Cur} {g : G} {W : WX} {a b c : Expr} {ea eb ec : E} {pos p : Pos} {tg : Expr}
theorem PI.imp {X : Cx} {e : Expr} {t t' : TI} (h : PI X tg e t) (i : ∀ σ H Q, t' σ H Q → t σ H Q) : PI X tg e t' := ⟨fun pins s σ H Q I w => h.run pins s σ H Q I (i _ _ _ w)⟩
/-- a walk over a value: lists, tuples, texts -/
theorem PI.or {e : Expr} {t t' : TE} {f f' : TE → TI} : True := trivial
theorem Ti.bind {K : PySem.W.Frag} {O : Addr → Prop} {ρ : REnv} {σ : L2.St} {H : Hp} {R : It → Hp → Prop} {Gl : VK} {e : E} {f : Kd → List Nat → D → Option Rs} (S : StRel K cur O ρ σ H) (h : FinI K O ρ σ H W R (Rs.map2 (ev g e ρ) f))
    (hk : ∀ k dep d v H1, StRel K cur O ρ σ H1 → Same H H1 → Res K O ρ σ H H1 k dep d v → FinI K O ρ σ H1 W R (f k dep d) → Gl v H1) : T K cur g W e σ H Gl := by
  refine ⟨O, ρ, S, ?_⟩
  cases e1 : ev g e ρ with
  | none => rw [e1] at h; exact h
  | some z =>
    rw [e1] at h
    cases z with
    | ex c => exact h
    | ok k dep d => exact fun v H' s r => hk k dep d v H' (S.same s) s r (FinI.same s h)
theorem ti_val (ha : PE X a (T X.K cur g W ea)) : PI X tg a (Ti X.K cur g W ea) := by
  refine ⟨fun pins s σ H R I h => ?_⟩
  obtain ⟨O, ρ, S, h⟩ := h
  cases e1 : ev g ea ρ with
  | none => rw [e1] at h; exact h.elim
  | some z =>
    cases z with
    | ex c =>
      rw [e1] at h
      refine (pi_list (tg := tg) ha).run pins s σ H R I ⟨O, ρ, S, ?_⟩
      rw [e1]
      exact h
    | ok k dep d =>
      rw [e1] at h
      have h : match items d with
        | none => False
        | some xs => ∀ J H', Same H H' → Yl X.K J H' (Pm O ρ σ (k.tot dep)) (Pm O ρ σ dep) xs → R J H' := h
      cases d with
      | list l =>
        refine (pi_list (tg := tg) ha).run pins s σ H R I ⟨O, ρ, S, ?_⟩
        rw [e1]
        intro v H' s' r
        obtain ⟨pa, xs, rfl, q, rl⟩ := r.listQ S
        exact ⟨pa, rfl, ⟨xs, q.sql⟩, h _ H' s' (yl_list q rl)⟩
      | tuple l =>
        refine (pi_tup (tg := tg) ha).run pins s σ H R I ⟨O, ρ, S, ?_⟩
        rw [e1]
        intro v H' s' r
        obtain ⟨pa, xs, rfl, q, rl⟩ := r.tupQ
        exact ⟨pa, rfl, ⟨xs, q.sqt⟩, h _ H' s' (yl_tup q rl)⟩
      | str z =>
        refine (pi_str (tg := tg) ha).run pins s σ H R I ⟨O, ρ, S, ?_⟩
        rw [e1]
        intro v H' s' r
        obtain rfl := r.str
        exact ⟨z, rfl, h _ H' s' yl_str⟩
      | _ => exact h.elim
theorem star1' (h : notStar a = true) : starEach [a] X.env = [(false, eval a X.env)] := notStar_eq h _ _
theorem star2' (ha : notStar a = true) (hb : notStar b = true) : starEach [a, b] X.env = [(false, eval a X.env), (false, eval b X.env)] := by
  rw [notStar_eq ha, star1' hb]
theorem ti_range1 (C : Cxt X N sc cm cur g W) (hg : glB sc "range" = true) (hs : notStar a = true) (ha : PE X a (T X.K cur g W ea)) : PI X tg (.Call (.Name "range" p) [a] [] pos) (Ti X.K cur g W (.range1 ea)) := by
  refine PI.imp (pi_range1 (C.gl hg) (C.bl (by decide)) (pa_cons ha pa_nil (star1 hs)) (star1' hs)) ?_
  rintro σ H R ⟨O, ρ, S, h⟩
  refine Ti.bind (f := fun _ _ x => rng1 x) S h fun k dep d v H1 S1 s1 r1 q => ?_
  cases d with
  | int n =>
    obtain rfl := r1.int
    have q : FinI X.K O ρ σ H1 W R (if small n then some (Rs.ok .plain [] (.list (rangeD 0 n.toNat))) else none) := q
    by_cases hz : small n = true
    · rw [if_pos hz] at q
      obtain ⟨h1, h2⟩ := small_ok hz
      exact ⟨n, rfl, h1, h2, q _ H1 same_refl yl_rng⟩
    · rw [if_neg hz] at q; exact q.elim
  | _ => exact q.elim
theorem ti_range2 (C : Cxt X N sc cm cur g W) (hg : glB sc "range" = true) (hs : notStar a = true) (hs2 : notStar b = true) (ha : PE X a (T X.K cur g W ea)) (hb : PE X b (T X.K cur g W eb)) : PI X tg (.Call (.Name "range" p) [a, b] [] pos) (Ti X.K cur g W (.range2 ea eb)) := by
  refine PI.imp (pi_range2 (C.gl hg) (C.bl (by decide)) (pa_cons ha (pa_cons hb pa_nil (star1 hs2)) (star2 hs hs2)) (star2' hs hs2) (star1' hs2)) ?_
  rintro σ H R ⟨O, ρ, S, h⟩
  refine Ti.bind (f := fun _ _ x => Rs.map2 (ev g eb ρ) fun _ _ y => rng2 x y) S h fun k dep x v H1 S1 s1 r1 q => ?_
  refine Ti.bind (f := fun _ _ y => rng2 x y) S1 q fun k2 dep2 y u H2 S2 s2 r2 q => ?_
  cases x with
  | int m =>
    cases y with
    | int n =>
      obtain rfl := r1.int
      obtain rfl := r2.int
      have q : FinI X.K O ρ σ H2 W R (if small m && small n then some (Rs.ok .plain [] (.list (rangeD m (n - m).toNat))) else none) := q
      by_cases hz : (small m && small n) = true
      · rw [if_pos hz] at q
        obtain ⟨hm, hn⟩ := bb hz
        obtain ⟨h1, h2⟩ := small_ok hm
        obtain ⟨h3, h4⟩ := small_ok hn
        exact ⟨m, n, rfl, ⟨h1, h2, h3, h4⟩, q _ H2 same_refl yl_rng⟩
      · rw [if_neg hz] at q; exact q.elim
    | _ => exact q.elim
  | _ => exact q.elim
theorem star3 (ha : notStar a = true) : starEach [a, b, c] X.env = (false, eval a X.env) :: starEach [b, c] X.env := notStar_eq ha _ _
theorem plain3 (hb : notStar b = true) (hc : notStar c = true) {pos : Pos} : (backTo pos (starEach [b, c] X.env)).any (·.1) = false := by
  rw [star2' hb hc]; rfl
theorem ti_range3 (C : Cxt X N sc cm cur g W) (hg : glB sc "range" = true) (hs : notStar a = true) (hs2 : notStar b = true) (hs3 : notStar c = true) (ha : PE X a (T X.K cur g W ea)) (hb : PE X b (T X.K cur g W eb)) (hc : PE X c (T X.K cur g W ec)) : PI X tg (.Call (.Name "range" p) [a, b, c] [] pos) (Ti X.K cur g W (.range3 ea eb ec)) := by
  refine PI.imp (pi_range3 (C.gl hg) (C.bl (by decide)) (pa_cons ha (pa_cons hb (pa_cons hc pa_nil (star1 hs3)) (star2 hs2 hs3)) (star3 hs)) (star3 hs) (plain3 hs2 hs3)) ?_
  rintro σ H R ⟨O, ρ, S, h⟩
  refine Ti.bind (f := fun _ _ x => Rs.map2 (ev g eb ρ) fun _ _ y => Rs.map2 (ev g ec ρ) fun _ _ z => rng3 x y z) S h fun k dep x v H1 S1 s1 r1 q => ?_
  refine Ti.bind (f := fun _ _ y => Rs.map2 (ev g ec ρ) fun _ _ z => rng3 x y z) S1 q fun k2 dep2 y u H2 S2 s2 r2 q => ?_
  refine Ti.bind (f := fun _ _ z => rng3 x y z) S2 q fun k3 dep3 z w H3 S3 s3 r3 q => ?_
  cases x with
  | int m =>
    cases y with
    | int n =>
      cases z with
      | int k =>
        obtain rfl := r1.int
        obtain rfl := r2.int
        obtain rfl := r3.int
        have q : FinI X.K O ρ σ H3 W R (if k = -1 ∧ (small m && small n) = true then some (Rs.ok .plain [] (.list (rangeDown m (m - n).toNat))) else none) := q
        by_cases hz : k = -1 ∧ (small m && small n) = true
        · have q9 := q
          rw [if_pos hz] at q9
          obtain ⟨e9, hz⟩ := hz
          subst e9
          obtain ⟨hm, hn⟩ := bb hz
          obtain ⟨h1, h2⟩ := small_ok hm
          obtain ⟨h3, h4⟩ := small_ok hn
          exact ⟨m, n, -1, (m - n).toNat, rfl, RgC.neg (h1) (h2) (h3) (h4), q9 _ H3 same_refl yl_down⟩
        · rw [if_neg hz] at q; exact q.elim
      | _ => exact q.elim
    | _ => exact q.elim
  | _ => exact q.elim
theorem tot_mono {O : Addr → Prop} {ρ : REnv} {σ : L2.St} {H : Hp} {p q : List Nat} (h : ∀ i, i ∈ p → i ∈ q) : Stay H H (Pm O ρ σ p) (Pm O ρ σ q) := fun a u z r => ⟨z.mono h, r⟩
theorem ti_enum {elts : List Expr} {kk : Nat} {tpos : Pos} (C : Cxt X N sc cm cur g W) (hg : glB sc "enumerate" = true) (hs : notStar a = true) (ha : PE X a (T X.K cur g W ea)) : PI X (.Tuple elts kk tpos) (.Call (.Name "enumerate" p) [a] [] pos) (Ti X.K cur g W (.enum ea)) := by
  refine PI.imp (pi_enumA (C.gl hg) (C.bl (by decide)) (pa_cons ha pa_nil (star1 hs)) (star1' hs)) ?_
  rintro σ H R ⟨O, ρ, S, h⟩
  refine Ti.bind (f := fun ka da x => enumR ka da x) S h fun k dep d v H1 S1 s1 r1 q => ?_
  cases d with
  | list l =>
    obtain ⟨pa, xs, rfl, hq, rl⟩ := r1.listQ S
    exact ⟨pa, xs, rfl, .inl ⟨hq.sql, q _ H1 same_refl (yl_enum hq rl)⟩⟩
  | tuple l =>
    obtain ⟨pa, xs, rfl, hq, rl⟩ := r1.tupQ
    exact ⟨pa, xs, rfl, .inr ⟨hq.sqt, q _ H1 same_refl (yl_enumT hq rl)⟩⟩
  | _ => exact q.elim
theorem ti_zip {elts : List Expr} {kk : Nat} {tpos : Pos} (C : Cxt X N sc cm cur g W) (hg : glB sc "zip" = true) (hs : notStar a = true) (hs2 : notStar b = true) (ha : PE X a (T X.K cur g W ea)) (hb : PE X b (T X.K cur g W eb)) : PI X (.Tuple elts kk tpos) (.Call (.Name "zip" p) [a, b] [] pos) (Ti X.K cur g W (.zip ea eb)) := by
  refine PI.imp (RZ.pi_zipA (C.gl hg) (C.bl (by decide)) (pa_cons ha (pa_cons hb pa_nil (star1 hs2)) (star2 hs hs2)) (star2 hs hs2) (plain2 hs2)) ?_
  rintro σ H R ⟨O, ρ, S, h⟩
  refine Ti.bind (f := fun ka da x => Rs.map2 (ev g eb ρ) fun kb db y => zipR ka da x kb db y) S h fun ka da x v H1 S1 s1 r1 q => ?_
  refine Ti.bind (f := fun kb db y => zipR ka da x kb db y) S1 q fun kb db y u H2 S2 s2 r2 q => ?_
  have r1 := r1.stay s2
  have m1 : ∀ i, i ∈ da → i ∈ da ++ db := fun i z => List.mem_append_left _ z
  have m2 : ∀ i, i ∈ db → i ∈ da ++ db := fun i z => List.mem_append_right _ z
  cases x with
  | list l =>
    cases y with
    | list m =>
      obtain ⟨pa, xs, rfl, hq, rl⟩ := r1.listQ S
      obtain ⟨pb, ys, rfl, hq2, rl2⟩ := r2.listQ S1
      have t1 : ∀ i, i ∈ ka.tot da → i ∈ (Kd.via (ka.cont ++ kb.cont)).tot (da ++ db) := fun i z => by
        simp only [Kd.tot, Kd.cont, List.mem_append] at z ⊢
        rcases z with z | z
        · exact .inl (.inl z)
        · exact .inr (.inl z)
      have t2 : ∀ i, i ∈ kb.tot db → i ∈ (Kd.via (ka.cont ++ kb.cont)).tot (da ++ db) := fun i z => by
        simp only [Kd.tot, Kd.cont, List.mem_append] at z ⊢
        rcases z with z | z
        · exact .inl (.inr z)
        · exact .inr (.inr z)
      exact ⟨pa, pb, xs, ys, rfl, .inl ⟨hq.sql, hq2.sql, q _ H2 same_refl (yl_zip (hq.stay (tot_mono t1)) (hq2.stay (tot_mono t2)) (RepL.stay (tot_mono m1) _ rl) (RepL.stay (tot_mono m2) _ rl2))⟩⟩
    | _ => exact q.elim
  | tuple l =>
    cases y with
    | tuple m =>
      obtain ⟨pa, xs, rfl, hq, rl⟩ := r1.tup
      obtain ⟨pb, ys, rfl, hq2, rl2⟩ := r2.tup
      exact ⟨pa, pb, xs, ys, rfl, .inr ⟨hq.sqt, hq2.sqt, q _ H2 same_refl (yl_zipT (hq.stay (tot_mono m1)) (hq2.stay (tot_mono m2)) (RepL.stay (tot_mono m1) _ rl) (RepL.stay (tot_mono m2) _ rl2))⟩⟩
    | _ => exact q.elim
  | _ => exact q.elim
end
end Vi

set_option maxRecDepth 100000
set_option maxHeartbeats 4000000
namespace Vi
open PySem PySem.Spec PyProof.Rows L2
theorem none_back {H H1 : Hp} {D : Addr} (s : Same H H1) (n : H1 D = none) : H D = none := by
  cases q : H D with
  | none => rfl
  | some u => rw [s _ _ q] at n; cases n
def Tg.slots : Tg → List Nat
  | .one i => [i]
  | .two i j => [i, j]
theorem set_len {α : Type} {l : List α} {i : Nat} {x : α} : (l.set i x).length = l.length := List.length_set
theorem Tg.wipe_len (tg : Tg) (ρ : REnv) : (tg.wipe ρ).length = ρ.length := by cases tg <;> simp [Tg.wipe]
theorem Tg.wipe_ne {tg : Tg} {ρ : REnv} {j : Nat} (h : j ∉ tg.slots) : (tg.wipe ρ)[j]? = ρ[j]? := by
  cases tg with
  | one i =>
    show (ρ.set i .un)[j]? = _
    rw [set_ne (fun e => h (by simp [Tg.slots, e]))]
  | two i k =>
    show ((ρ.set k .un).set i .un)[j]? = _
    rw [set_ne (fun e => h (by simp [Tg.slots, e])), set_ne (fun e => h (by simp [Tg.slots, e]))]
theorem bindT_ne {tg : Tg} {d : D} {ρ ρ1 : REnv} {j : Nat} (e : bindT tg d ρ = some ρ1) (h : j ∉ tg.slots) : ρ1[j]? = ρ[j]? := by
  cases tg with
  | one i =>
    have e : (if i < ρ.length then some (ρ.set i (.val d)) else none) = some ρ1 := e
    by_cases hi : i < ρ.length
    · rw [if_pos hi] at e
      cases e
      rw [set_ne (fun e => h (by simp [Tg.slots, e]))]
    · rw [if_neg hi] at e; cases e
  | two i k =>
    match d, e with
    | .tuple [x, y], e =>
      have e : (if i < ρ.length ∧ k < ρ.length then some ((ρ.set i (.val x)).set k (.val y)) else none) = some ρ1 := e
      by_cases hi : i < ρ.length ∧ k < ρ.length
      · rw [if_pos hi] at e
        cases e
        rw [set_ne (fun e => h (by simp [Tg.slots, e])), set_ne (fun e => h (by simp [Tg.slots, e]))]
      · rw [if_neg hi] at e; cases e
theorem tgFree_own {tg : Tg} {ρ : REnv} {j : Nat} {ds : List D} (f : tgFree tg ρ = true) (e : ρ[j]? = some (.own ds)) : j ∉ tg.slots := by
  have no : ∀ i, notOwn ρ i = true → j ≠ i := fun i hi ei => by
    subst ei
    unfold notOwn at hi
    rw [e] at hi
    cases hi
  cases tg with
  | one i => simpa [Tg.slots] using no i f
  | two i k =>
    have f : (notOwn ρ i && notOwn ρ k) = true := f
    obtain ⟨f1, f2⟩ := bb f
    simp only [Tg.slots, List.mem_cons, List.not_mem_nil, or_false, not_or]
    exact ⟨no i f1, no k f2⟩
theorem wipe_wipe1 (σ : L2.St) (tg : Tg) : wipe (wipe σ tg.slots) tg.slots = wipe σ tg.slots := by
  cases tg with
  | one i =>
    show ((σ.set i none).set i none) = σ.set i none
    rw [List.set_set]
  | two i j =>
    show ((((σ.set j none).set i none).set j none).set i none) = (σ.set j none).set i none
    by_cases h : i = j
    · subst h; simp [List.set_set]
    · rw [List.set_comm none none (l := (σ.set j none)) h, List.set_set, List.set_set]
section
variable {K : PySem.W.Frag} {cur : Cur} {O O' : Addr → Prop} {ρ ρ' : REnv} {σ σ' : L2.St} {H H' : Hp}
/-- fewer slots known, more kept from us -/
theorem StRel.less (R : StRel K cur O ρ σ H) (hl : ρ'.length = ρ.length) (hσ : σ'.length = σ.length) (od : ∀ a, O' a → H' a ≠ none) (s : Same H H') (dO : ∀ a, O a → O' a) (nO : ∀ a, H a ≠ none → O' a → O a)
    (he : ∀ (i : Nat) (c : Str), ρ'[i]? ≠ some (.exc c)) (hv : ∀ (i : Nat) (x : Slot), ρ'[i]? = some x → x ≠ .un → ρ[i]? = some x ∧ σ'[i]? = σ[i]?) : StRel K none O' ρ' σ' H' := by
  have up : ∀ a u, Pm O ρ σ [] a → Rd H a u → Pm O' ρ' σ' [] a ∧ Rd H' a u := fun a u p r => ⟨⟨fun o => p.1 (nO a (Rd.dom r) o), fun i ds e1 e2 => by
    obtain ⟨e3, e4⟩ := hv i _ e1 (fun z => nomatch z)
    exact p.2 i ds e3 (by rw [← e4]; exact e2)⟩, Rd.same s r⟩
  refine ⟨by rw [hl, hσ, R.len], od, fun i d e => ?_, fun i ds e => ?_, fun i j ds es a e1 e2 e3 e4 => ?_, fun i c e => absurd e (he i c)⟩
  · obtain ⟨e3, e4⟩ := hv i _ e (fun z => nomatch z)
    obtain ⟨v, e5, r⟩ := R.val i d e3
    exact ⟨v, by rw [e4]; exact e5, Rep.stay up _ r⟩
  · obtain ⟨e3, e4⟩ := hv i _ e (fun z => nomatch z)
    obtain ⟨a, xs, e5, e6, no, r⟩ := R.own i ds e3
    exact ⟨a, xs, by rw [e4]; exact e5, s _ _ e6, fun o => no (nO a (by rw [e6]; simp) o), RepL.stay up _ r⟩
  · obtain ⟨e5, e6⟩ := hv i _ e1 (fun z => nomatch z)
    obtain ⟨e7, e8⟩ := hv j _ e2 (fun z => nomatch z)
    exact R.sep i j ds es a e5 e7 (by rw [← e6]; exact e3) (by rw [← e8]; exact e4)
theorem noExc_get {i : Nat} {c : Str} (h : noExc ρ = true) : ρ[i]? ≠ some (.exc c) := fun e => by
  unfold noExc at h
  rw [List.all_eq_true] at h
  have := h _ (List.mem_of_getElem? e)
  cases this
theorem Tg.wipe_get {tg : Tg} {i : Nat} {x : Slot} (h : (tg.wipe ρ)[i]? = some x) (n : x ≠ .un) : ρ[i]? = some x ∧ i ∉ tg.slots := by
  by_cases hi : i ∈ tg.slots
  · exfalso
    have w1 : ∀ {r : REnv} {j : Nat}, (r.set j .un)[j]? = some x → False := fun {r j} e => by
      rcases set_cases e with ⟨_, e⟩ | ⟨z, _⟩
      · exact n e
      · exact z rfl
    cases tg with
    | one j =>
      simp only [Tg.slots, List.mem_cons, List.not_mem_nil, or_false] at hi
      subst hi
      exact w1 h
    | two j k =>
      have h : ((ρ.set k .un).set j .un)[i]? = some x := h
      simp only [Tg.slots, List.mem_cons, List.not_mem_nil, or_false] at hi
      by_cases ej : i = j
      · subst ej; exact w1 h
      · rw [set_ne ej] at h
        rcases hi with z | z
        · exact ej z
        · subst z; exact w1 h
  · rw [Tg.wipe_ne hi] at h
    exact ⟨h, hi⟩
theorem compL_cons {f : D → Option (Option D)} {d : D} {r zs : List D} (h : compL f (d :: r) = some zs) : (f d = some none ∧ compL f r = some zs) ∨ ∃ y ys, f d = some (some y) ∧ compL f r = some ys ∧ zs = y :: ys := by
  have h : (match f d with
    | none => none
    | some none => compL f r
    | some (some y) => (compL f r).map (y :: ·)) = some zs := h
  cases e : f d with
  | none => rw [e] at h; cases h
  | some o =>
    cases o with
    | none => rw [e] at h; exact .inl ⟨rfl, h⟩
    | some y =>
      rw [e] at h
      have h : (compL f r).map (y :: ·) = some zs := h
      cases e2 : compL f r with
      | none => rw [e2] at h; cases h
      | some ys =>
        rw [e2] at h
        exact .inr ⟨y, ys, rfl, rfl, (Option.some.inj h).symm⟩
end
/-- a block's tests -/
def tTs (K : PySem.W.Frag) (g : G) (e : E) : TT := if isMiss e = true then tYes else Tt K none g (fun _ _ _ _ => False) e
theorem lc_of {K : PySem.W.Frag} {cur : Cur} {g : G} {W : WX} {tg : Tg} {it c el : E} {σ : L2.St} {H : Hp} {Q : VK} (h : T K cur g W (.comp tg it c el) σ H Q) :
    tLc (Ti K cur g W it) (gT K tg) (tTs K g c) (T K none g (fun _ _ _ _ => False) el) tg.slots σ H Q := by
  obtain ⟨O, ρ, R, h⟩ := h
  have h : Fin K O ρ σ H W Q (Rs.map2 (ev g it ρ) fun _ di x => match items x, di with
    | some xs, [] => if (tgFree tg ρ && noExc ρ) = true then (compL (compF (ev g c) (ev g el) (isMiss c) tg ρ) xs).bind fun ys => if ys.length ≤ sizeLine then some (.ok .fresh [] (.list ys)) else none else none
    | _, _ => none) := h
  refine ⟨O, ρ, R, ?_⟩
  cases e1 : ev g it ρ with
  | none => rw [e1] at h; exact h
  | some z =>
    rw [e1] at h
    cases z with
    | ex cc => exact h
    | ok k dep d =>
      show match items d with
        | none => False
        | some xs => _
      have h : Fin K O ρ σ H W Q (match (generalizing := false) items d, dep with
        | some xs, [] => if (tgFree tg ρ && noExc ρ) = true then (compL (compF (ev g c) (ev g el) (isMiss c) tg ρ) xs).bind fun ys => if ys.length ≤ sizeLine then some (.ok .fresh [] (.list ys)) else none else none
        | _, _ => none) := h
      cases e2 : items d with
      | none => rw [e2] at h; cases dep <;> exact h.elim
      | some xs =>
        rw [e2] at h
        cases dep with
        | cons a b => exact h.elim
        | nil =>
          have h : Fin K O ρ σ H W Q (if (tgFree tg ρ && noExc ρ) = true then (compL (compF (ev g c) (ev g el) (isMiss c) tg ρ) xs).bind fun ys => if ys.length ≤ sizeLine then some (.ok .fresh [] (.list ys)) else none else none) := h
          by_cases hf : (tgFree tg ρ && noExc ρ) = true
          · rw [if_pos hf] at h
            obtain ⟨hf, hx⟩ := bb hf
            cases e3 : compL (compF (ev g c) (ev g el) (isMiss c) tg ρ) xs with
            | none => rw [e3] at h; exact h.elim
            | some ys =>
              rw [e3] at h
              have h : Fin K O ρ σ H W Q (if ys.length ≤ sizeLine then some (.ok .fresh [] (.list ys)) else none) := h
              by_cases hz : ys.length ≤ sizeLine
              · rw [if_pos hz] at h
                intro J H1 s1 hy D nD
                -- the block's context
                have nowR : ∀ H2, Same H1 H2 → H2 D ≠ none → StRel K none (fun a => O a ∨ a = D) (tg.wipe ρ) (wipe σ tg.slots) H2 := fun H2 s2 d2 => by
                  have R1 := R.same s1
                  refine R1.less (Tg.wipe_len _ _) (wipe_length _ _) (fun a o => ?_) s2 (fun a o => .inl o) (fun a na o => ?_) (fun i c9 e9 => ?_) fun i x e9 n9 => ?_
                  · rcases o with o | rfl
                    · exact (R1.same s2).od a o
                    · exact d2
                  · rcases o with o | rfl
                    · exact o
                    · exact absurd nD na
                  · exact noExc_get hx (Tg.wipe_get e9 (fun z => nomatch z)).1
                  · obtain ⟨e3, e4⟩ := Tg.wipe_get e9 n9
                    exact ⟨e3, wipe_out e4⟩
                refine ⟨fun i m H2 => m = xs.length - i ∧ i ≤ xs.length ∧ Same H1 H2 ∧ ∃ acc zs ws, H2 D = some (.lst acc) ∧ RepL K H2 (fun a => Pm O ρ σ [] a ∧ a ≠ D) zs acc ∧ compL (compF (ev g c) (ev g el) (isMiss c) tg ρ) (xs.drop i) = some ws ∧ ys = zs ++ ws, ⟨xs.length, by simp, Nat.zero_le _, same_upd nD, [], [], ys, upd_same, .nil, e3, rfl⟩, ?_⟩
                rintro i m H2 ⟨rfl, hi, s2, acc, zs, ws, hD, rz, hw, hys⟩
                have st0 : Stay H1 H2 (Pm O ρ σ (k.tot [])) (Pm O ρ σ (k.tot [])) := .same s2 fun _ p => p
                by_cases hlt : i < xs.length
                · refine .inr ⟨hy.go i H2 _ st0 hlt, fun H3 => i + 1 ≤ xs.length ∧ Same H1 H3 ∧ ∃ acc zs ws, H3 D = some (.lst acc) ∧ RepL K H3 (fun a => Pm O ρ σ [] a ∧ a ≠ D) zs acc ∧ compL (compF (ev g c) (ev g el) (isMiss c) tg ρ) (xs.drop (i + 1)) = some ws ∧ ys = zs ++ ws, fun H3 ⟨a1, a2, a3⟩ => ⟨xs.length - (i + 1), by omega, rfl, a1, a2, a3⟩, fun x H3 yl => ?_⟩
                  have RB := nowR H2 s2 (by rw [hD]; simp)
                  have st1 : Stay H1 H2 (Pm O ρ σ []) (Pm (fun a => O a ∨ a = D) (tg.wipe ρ) (wipe σ tg.slots) []) := fun a u p r => by
                    refine ⟨⟨fun o => ?_, fun j ds e5 e6 => ?_⟩, Rd.same s2 r⟩
                    · rcases o with o | rfl
                      · exact p.1 o
                      · exact Rd.dom r nD
                    · obtain ⟨e7, e8⟩ := Tg.wipe_get e5 (fun z => nomatch z)
                      rw [wipe_out e8] at e6
                      exact p.2 j ds e7 e6
                  obtain ⟨s3, rx⟩ := hy.yld i H2 _ _ (xs[i]) x H3 st0 st1 (fun p n => RB.new n) (by simp) yl
                  have RB3 := RB.same s3
                  have hw : compL (compF (ev g c) (ev g el) (isMiss c) tg ρ) (xs[i] :: xs.drop (i + 1)) = some ws := by
                    rw [← List.drop_eq_getElem_cons hlt]; exact hw
                  -- what the turn does
                  have turn : ∃ o, compF (ev g c) (ev g el) (isMiss c) tg ρ (xs[i]) = some o ∧ ∃ w2, compL (compF (ev g c) (ev g el) (isMiss c) tg ρ) (xs.drop (i + 1)) = some w2 ∧ ws = (match o with | none => w2 | some y => y :: w2) := by
                    rcases compL_cons hw with ⟨a1, a2⟩ | ⟨y, w2, a1, a2, a3⟩
                    · exact ⟨none, a1, ws, a2, rfl⟩
                    · exact ⟨some y, a1, w2, a2, a3⟩
                  obtain ⟨o, ho, w2, hw2, hws⟩ := turn
                  have ho : (match bindT tg (xs[i]) (tg.wipe ρ) with
                    | none => none
                    | some ρ1 => if isMiss c then compE (ev g el) ρ1 else match ev g c ρ1 with
                      | some (.ok _ _ t) => match truth t with
                        | some true => compE (ev g el) ρ1
                        | some false => some none
                        | none => none
                      | _ => none) = some o := ho
                  cases eb : bindT tg (xs[i]) (tg.wipe ρ) with
                  | none => rw [eb] at ho; cases ho
                  | some ρ1 =>
                    rw [eb] at ho
                    have ho : (if isMiss c then compE (ev g el) ρ1 else match ev g c ρ1 with
                      | some (.ok _ _ t) => match truth t with
                        | some true => compE (ev g el) ρ1
                        | some false => some none
                        | none => none
                      | _ => none) = some o := ho
                    refine bind_ok RB3 rx eb fun σ2 R2 _ hwp => ?_
                    have hwp : wipe σ2 tg.slots = wipe σ tg.slots := by
                      rw [hwp tg.slots (fun j hj => by cases tg <;> simpa [Tg.slots] using hj), wipe_wipe1]
                    refine ⟨hwp, ?_⟩
                    have sD : ∀ {H4 : Hp}, Same H3 H4 → H4 D = some (.lst acc) := fun s4 => s4 _ _ (s3 _ _ hD)
                    -- the element
                    have elm : ∀ H4, Same H3 H4 → compE (ev g el) ρ1 = some o → T K none g (fun _ _ _ _ => False) el σ2 H4 fun y H5 => ∃ acc, H5 D = some (.lst acc) ∧ acc.length < sizeLine ∧ (i + 1 ≤ xs.length ∧ Same H1 (upd H5 D (.lst (acc ++ [y]))) ∧ ∃ acc' zs ws, (upd H5 D (.lst (acc ++ [y]))) D = some (.lst acc') ∧ RepL K (upd H5 D (.lst (acc ++ [y]))) (fun a => Pm O ρ σ [] a ∧ a ≠ D) zs acc' ∧ compL (compF (ev g c) (ev g el) (isMiss c) tg ρ) (xs.drop (i + 1)) = some ws ∧ ys = zs ++ ws) := by
                      intro H4 s4 ho
                      refine ⟨_, ρ1, R2.same s4, ?_⟩
                      have ho : (match ev g el ρ1 with
                        | some (.ok k p y) => if k.tot p = [] then some (some y) else none
                        | _ => none) = some o := ho
                      cases ee : ev g el ρ1 with
                      | none => rw [ee] at ho; cases ho
                      | some z =>
                        rw [ee] at ho
                        cases z with
                        | ex _ => cases ho
                        | ok k2 p2 y2 =>
                          have ho : (if k2.tot p2 = [] then some (some y2) else none) = some o := ho
                          by_cases hk : k2.tot p2 = []
                          · rw [if_pos hk] at ho
                            cases ho
                            intro v H5 s5 r5
                            have r6 := r5.rep (R2.same s4) s5
                            rw [hk] at r6
                            have d5 : H5 D = some (.lst acc) := s5 _ _ (sD s4)
                            have la : zs.length = acc.length := rz.length
                            have lz : zs.length + (w2.length + 1) ≤ sizeLine := by
                              rw [hys, hws, List.length_append] at hz
                              exact hz
                            have s15 : Same H1 H5 := same_trans s2 (same_trans s3 (same_trans s4 s5))
                            have upS : ∀ a u, (Pm O ρ σ [] a ∧ a ≠ D) → Rd H5 a u → (Pm O ρ σ [] a ∧ a ≠ D) ∧ Rd (upd H5 D (.lst (acc ++ [v]))) a u := fun a u p r => ⟨p, r.elim (fun e => .inl (by rw [upd_ne p.2]; exact e)) fun ⟨ob, e⟩ => .inr ⟨ob, by rw [upd_ne p.2]; exact e⟩⟩
                            refine ⟨acc, d5, by omega, hlt, fun a u e => ?_, acc ++ [v], zs ++ [y2], w2, upd_same, ?_, hw2, by rw [hys, hws]; simp⟩
                            · rw [upd_ne (ne_of_none e nD)]
                              exact s15 a u e
                            · refine RepL.append (RepL.stay upS _ (RepL.stay (.same (same_trans s3 (same_trans s4 s5)) fun _ p => p) _ rz)) (.cons ?_ .nil)
                              refine Rep.stay (fun a u p r => ?_) _ r6
                              have q : Pm O ρ σ [] a ∧ a ≠ D := by
                                refine ⟨⟨fun o => p.1 (.inl o), fun j ds e5 e6 => ?_⟩, fun e => p.1 (.inr e)⟩
                                have nj := tgFree_own hf e5
                                refine p.2 j ds ?_ ?_
                                · rw [bindT_ne eb nj, Tg.wipe_ne nj]; exact e5
                                · have := wipe_out (σ := σ2) nj
                                  rw [hwp, wipe_out nj] at this
                                  rw [← this]; exact e6
                              exact upS a u q r
                          · rw [if_neg hk] at ho; cases ho
                    unfold tTs
                    by_cases hm : isMiss c = true
                    · rw [if_pos hm] at ho ⊢
                      exact elm H3 same_refl ho
                    · rw [if_neg hm] at ho ⊢
                      refine ⟨_, ρ1, R2, ?_⟩
                      cases ec : ev g c ρ1 with
                      | none => rw [ec] at ho; cases ho
                      | some z =>
                        rw [ec] at ho
                        cases z with
                        | ex _ => cases ho
                        | ok k2 p2 t =>
                          have ho : (match truth t with
                            | some true => compE (ev g el) ρ1
                            | some false => some none
                            | none => none) = some o := ho
                          show match truth t with
                            | none => False
                            | some b => _
                          cases et : truth t with
                          | none => rw [et] at ho; cases ho
                          | some b =>
                            rw [et] at ho
                            intro H4 s4
                            cases b with
                            | true => exact elm H4 s4 ho
                            | false =>
                              cases ho
                              show i + 1 ≤ xs.length ∧ Same H1 H4 ∧ _
                              exact ⟨hlt, same_trans s2 (same_trans s3 s4), acc, zs, w2, sD s4, RepL.stay (.same (same_trans s3 s4) fun _ p => p) _ rz, hw2, by rw [hys, hws]⟩
                · have ei : i = xs.length := by omega
                  subst ei
                  rw [List.drop_length] at hw
                  have hw : some [] = some ws := hw
                  cases hw
                  rw [List.append_nil] at hys
                  subst hys
                  exact .inl ⟨hy.stop _ H2 _ st0 (Nat.le_refl _), h (.ref D) H2 (same_trans s1 s2) ⟨D, acc, _, rfl, rfl, none_back s1 nD, hD, rz⟩⟩
              · rw [if_neg hz] at h; exact h.elim
          · rw [if_neg hf] at h; exact h.elim
end Vi

set_option maxRecDepth 100000
set_option maxHeartbeats 4000000
namespace Vi
open PySem PySem.Spec PyProof.Rows L2
section
variable {X : Cx} {N : List Str} {sc : Scope} {cm : Bool} {cur : Cur} {g : G} {W : WX}
theorem Cxt.blk (C : Cxt X N sc cm cur g W) (s : Shared) (H : Hp) (scope : Scope) (c : Addr) (cl : List (Str × Addr)) (fp : List Addr) :
    Cxt (X.blk s H scope (compEnvC scope cl c X.env) fp) N (relS scope sc) cm none g (fun _ _ _ _ => False) where
  hN := C.hN
  nd := C.nd
  hsc := by
    show relS scope X.env.scope = _
    rw [C.hsc]
  calm := C.calm
  tk := fun u s' ⟨a, B, sI, pins, σ, H, cls, d, e, I, nb, up, sky, na, os, ag, w⟩ => w.elim
  hu := C.hu
  fns := fun hc k nm F e => ⟨(C.fns hc k nm F e).ex⟩
  blt := C.blt
  consts := C.consts
  isx := fun a x c b e => nomatch e
  isk := C.isk
variable {elt iter tgE : Expr} {ifs : List Expr} {scope : Scope} {own : List (Str × Nat)} {pos spos : Pos} {tg : Tg} {it c el : E}
theorem t_comp (C : Cxt X N sc cm cur g W) (hc : cm = true) (hown : own.map (·.2) = tg.slots) (hi : PI X tgE iter (Ti X.K cur g W it)) (ok : BlkOk N sc scope own)
    (hg : ∀ (s : Shared) (H : Hp) (C : Addr) (cl : List (Str × Addr)) (fp : List Addr), PG (X.blk s H scope (compEnvC scope cl C X.env) fp) tgE (gT X.K tg))
    (ht : ∀ (s : Shared) (H : Hp) (C : Addr) (cl : List (Str × Addr)) (fp : List Addr), PTs (X.blk s H scope (compEnvC scope cl C X.env) fp) ifs (tTs X.K g c))
    (he : ∀ (s : Shared) (H : Hp) (C : Addr) (cl : List (Str × Addr)) (fp : List Addr), PE (X.blk s H scope (compEnvC scope cl C X.env) fp) elt (T X.K none g (fun _ _ _ _ => False) el))
    (hs : ∀ x, foldedSetIterable iter X.env x = pure x) : PE X (.ListComp elt [⟨tgE, iter, ifs, 0⟩] scope pos) (T X.K cur g W (.comp tg it c el)) := by
  refine T.imp (pe_lc (own := own) (C.calm hc) (by rw [C.hN]; exact C.nd) hi (by rw [C.hN, C.hsc]; exact ok) hg ht he hs) ?_
  intro σ H Q h
  rw [hown]
  exact lc_of h
theorem p_setLc {i : Nat} {y : Str} {py : Pos} (C : Cxt X N sc cm cur g W) (hc : cm = true) (hown : own.map (·.2) = tg.slots) (hy : N[i]? = some y) (hyl : sc.names.lookup y = some .local)
    (hsw : swapsWith (.ListComp elt [⟨tgE, iter, ifs, 0⟩] scope pos) (some (.Name y py)) spos.line X.env = pure true) (hi : PI X tgE iter (Ti X.K cur g W it)) (ok : BlkOk N sc scope own)
    (hg : ∀ (s : Shared) (H : Hp) (C : Addr) (cl : List (Str × Addr)) (fp : List Addr), PG (X.blk s H scope (compEnvC scope cl C X.env) fp) tgE (gT X.K tg))
    (ht : ∀ (s : Shared) (H : Hp) (C : Addr) (cl : List (Str × Addr)) (fp : List Addr), PTs (X.blk s H scope (compEnvC scope cl C X.env) fp) ifs (tTs X.K g c))
    (he : ∀ (s : Shared) (H : Hp) (C : Addr) (cl : List (Str × Addr)) (fp : List Addr), PE (X.blk s H scope (compEnvC scope cl C X.env) fp) elt (T X.K none g (fun _ _ _ _ => False) el))
    (hs : ∀ x, foldedSetIterable iter X.env x = pure x) : PS X (.Assign [.Name y py] (.ListComp elt [⟨tgE, iter, ifs, 0⟩] scope pos) spos) (tAsg (T X.K cur g W (.comp tg it c el)) (gName i)) := by
  have h := ps_setLc (own := own) (C.calm hc) (by rw [C.hN]; exact C.nd) (by rw [C.hN]; exact hy) (by rw [C.hsc]; exact hyl) hsw hi (by rw [C.hN, C.hsc]; exact ok) hg ht he hs
  refine ⟨fun pins s σ H D I q => h.run pins s σ H D I ?_⟩
  rw [hown]
  exact lc_of (show T X.K cur g W (.comp tg it c el) σ H (fun x H1 => gName i x σ H1 D.nx) from q)
end
end Vi

set_option maxRecDepth 100000
set_option maxHeartbeats 4000000
namespace Vi
open PySem PySem.Spec PyProof.Rows L2
def Kp (ρ : REnv) (σ : L2.St) (H H' : Hp) : Prop := ∀ a u, H a = some u → ¬ Ow ρ σ a → H' a = some u
def FinS (K : PySem.W.Frag) (cur : Cur) (O : Addr → Prop) (ρ : REnv) (σ : L2.St) (H : Hp) (W : WX) (D : Ends) (r : Option SR) : Prop := match r with
  | none => False
  | some (.nx ρ') => ∀ σ' H', StRel K cur O ρ' σ' H' → Step ρ σ H ρ' σ' H' → D.nx σ' H'
  | some (.rt d) => ∀ v H', Kp ρ σ H H' → Rep K H' (fun a => ¬ O a) d v → D.rt v H'
  | some (.rl l) => ∀ v H', Kp ρ σ H H' → (∃ p xs, v = .ref p ∧ (H p = none ∨ Ow ρ σ p) ∧ H' p = some (.lst xs) ∧ RepL K H' (fun a => ¬ O a ∧ a ≠ p) l xs) → D.rt v H'
  | some (.ex c ρ') => ∀ σ' H', StRel K cur O ρ' σ' H' → Step ρ σ H ρ' σ' H' → W (.ref (He.ga K c)) none σ' H'
def Ts (K : PySem.W.Frag) (cur : Cur) (g : G) (W : WX) (s : S) : TS := fun D σ H => ∃ O ρ, StRel K cur O ρ σ H ∧ FinS K cur O ρ σ H W D (ex g s ρ)
section
variable {K : PySem.W.Frag} {cur : Cur} {O : Addr → Prop} {ρ ρ1 : REnv} {σ σ1 : L2.St} {H H1 : Hp} {W : WX} {D : Ends} {r : Option SR} {g : G}
theorem Kp.step {H' : Hp} (s : Step ρ σ H ρ1 σ1 H1) (k : Kp ρ1 σ1 H1 H') : Kp ρ σ H H' := fun a u e n => k a u (s.keep a u e n) fun o => (s.own a o).elim n fun z => by rw [e] at z; cases z
theorem FinS.step (s : Step ρ σ H ρ1 σ1 H1) (h : FinS K cur O ρ σ H W D r) : FinS K cur O ρ1 σ1 H1 W D r := by
  cases r with
  | none => exact h
  | some z =>
    cases z with
    | nx ρ' => exact fun σ' H' R' s' => h σ' H' R' (s.trans s')
    | rt d => exact fun v H' k q => h v H' (k.step s) q
    | rl l => exact fun v H' k ⟨p, xs, e1, e2, e3⟩ => h v H' (k.step s) ⟨p, xs, e1, by
        rcases e2 with e2 | e2
        · refine .inl ?_
          cases q : H p with
          | none => rfl
          | some u => exact absurd e2 (s.dom p (by rw [q]; simp))
        · exact (s.own p e2).symm, e3⟩
    | ex c ρ' => exact fun σ' H' R' s' => h σ' H' R' (s.trans s')
theorem FinS.same (s : Same H H1) (h : FinS K cur O ρ σ H W D r) : FinS K cur O ρ σ H1 W D r := h.step (Step.of_same s)
theorem T.bindS {e : E} {k : Kd → List Nat → PyData → Option SR} {Gl : VK} (R : StRel K cur O ρ σ H) (h : FinS K cur O ρ σ H W D (toS ρ (ev g e ρ) k))
    (hk : ∀ fr dep d v H1, StRel K cur O ρ σ H1 → Same H H1 → Res K O ρ σ H H1 fr dep d v → FinS K cur O ρ σ H W D (k fr dep d) → Gl v H1) : T K cur g W e σ H Gl := by
  refine ⟨O, ρ, R, ?_⟩
  cases e1 : ev g e ρ with
  | none => rw [e1] at h; exact h
  | some x =>
    rw [e1] at h
    cases x with
    | ok fr dep d => exact fun v H' s q => hk fr dep d v H' (R.same s) s q h
    | ex c => exact fun H' s => h σ H' (R.same s) (Step.of_same s)
theorem Tt.bindS {e : E} {f : Bool → Option SR} {Gl : Bool → Hp → Prop} (R : StRel K cur O ρ σ H) (h : FinS K cur O ρ σ H W D (toS ρ (ev g e ρ) fun _ _ x => (truth x).bind f))
    (hk : ∀ t H1, StRel K cur O ρ σ H1 → Same H H1 → FinS K cur O ρ σ H1 W D (f t) → Gl t H1) : Tt K cur g W e σ H Gl := by
  refine ⟨O, ρ, R, ?_⟩
  cases e1 : ev g e ρ with
  | none => rw [e1] at h; exact h
  | some x =>
    rw [e1] at h
    cases x with
    | ok k dep d =>
      show match truth d with
        | none => False
        | some b => ∀ H', Same H H' → Gl b H'
      have h : FinS K cur O ρ σ H W D ((truth d).bind f) := h
      cases e : truth d with
      | none => rw [e] at h; exact h
      | some b => rw [e] at h; exact fun H' s => hk b H' (R.same s) s (FinS.same s h)
    | ex c => exact fun H' s => h σ H' (R.same s) (Step.of_same s)
/-- a store -/
theorem put_ok {i : Nat} {k : Kd} {dep : List Nat} {d : PyData} {v : V} {H0 : Hp} (R0 : StRel K cur O ρ σ H0) (R : StRel K cur O ρ σ H) (s : Same H0 H) (r : Res K O ρ σ H0 H k dep d v) (hi : i < ρ.length) (h : FinS K cur O ρ σ H0 W D (some (.nx (put ρ i k dep d)))) : D.nx (σ.set i (some v)) H := by
  have gen : FinS K cur O ρ σ H0 W D (some (.nx ((disown (k.tot dep) ρ).set i (.val d)))) → D.nx (σ.set i (some v)) H := fun h => by
    have rr := r.rep R0 s
    refine h _ _ ((R.disown (k.tot dep)).set_val (by rw [disown_length]; exact hi) (Rep.stay (fun a u p q => ⟨p.disown, q⟩) _ rr)) ?_
    exact (Step.of_same s).trans ((Step.disown (k.tot dep)).trans (Step.set_val fun _ e => nomatch e))
  cases k with
  | fresh =>
    cases dep with
    | nil =>
      cases d with
      | list ds =>
        obtain ⟨p, xs, ds', e, rfl, n, hp, q⟩ := r
        cases e
        exact h _ _ (R.set_own hi s R0 n hp q) (Step.set_own (by rw [← R.len]; exact hi) n s)
      | _ => exact gen h
    | cons a b => cases d <;> exact gen h
  | _ => exact gen h
end
section
variable {X : Cx} {N : List Str} {sc : Scope} {cm : Bool} {cur : Cur} {g : G} {W : WX}
/-- what statements run in -/
structure Cxs (X : Cx) (N : List Str) (sc : Scope) (cm : Bool) (cur : Cur) (g : G) (W : WX) : Prop extends Cxt X N sc cm cur g W where
  knd : sc.kind = .function
  fnT : ∀ x, X.fn x = true
  po : PassesOwn (model X.prog X.w) X.A X.env X.xe
  hst : X.stack = X.env :: X.outer
  hfr : X.env.frame = some X.env.locals
  rai : ∀ c ∈ g.rai, ∃ (B newId initId : String) (bmB : List Value), ExcBaseFacts B newId initId bmB ∧ PySem.W.excIn X.K (He.ga X.K c) bmB newId = true ∧ X.mg c = some (.ref (He.ga X.K c)) ∧ PySem.W.keepIn X.K (.ref (He.ga X.K c)) = true ∧ Raises X (.ref (He.ga X.K c))
  exk : ∀ x, (g.exm.any fun p => p.1.2 == x) = true → ∃ cv, (X.mg x = some cv ∨ (X.mg x = none ∧ bootBuiltins x = some cv ∧ x ≠ "__name__")) ∧ ∀ c b, g.exm.lookup (c, x) = some b → PySem.W.exmOne X.K (.ref (He.ga X.K c)) cv = some b
  exc : ∀ c x b, g.isx.lookup (c, x) = some b → ExcC X.K (He.ga X.K c)
variable {a b c : Expr} {ea eb ec ed e1 : E} {pos p p1 p2 : Pos} {st : Stmt} {rest : List Stmt} {s r : S} {i j : Nat} {x y : Str}
theorem p_nil : PSs X [] (Ts X.K cur g W .nil) := by
  refine ⟨fun pins s σ H D I h => pss_nil.run pins s σ H D I ?_⟩
  obtain ⟨O, ρ, R, h⟩ := h
  exact h σ H R Step.refl
theorem p_cons (h1 : PS X st (Ts X.K cur g W s)) (h2 : PSs X rest (Ts X.K cur g W r)) : PSs X (st :: rest) (Ts X.K cur g W (.cons s r)) := by
  refine ⟨fun pins s0 σ H D I h => (pss_cons h1 h2).run pins s0 σ H D I ?_⟩
  obtain ⟨O, ρ, R, h⟩ := h
  have h : FinS X.K cur O ρ σ H W D (match ex g s ρ with
    | some (.nx ρ1) => ex g r ρ1
    | x => x) := h
  refine ⟨O, ρ, R, ?_⟩
  cases e : ex g s ρ with
  | none => rw [e] at h; exact h
  | some z =>
    rw [e] at h
    cases z with
    | nx ρ' => exact fun σ' H' R' s' => ⟨O, ρ', R', FinS.step s' h⟩
    | rt d => exact h
    | rl l => exact h
    | ex c ρ' => exact h
theorem p_pass {j : Nat} : PS X (.Expr (.Constant (.str x) j p) pos) (Ts X.K cur g W .pass) := by
  refine ⟨fun pins s σ H D I h => ps_doc.run pins s σ H D I ?_⟩
  obtain ⟨O, ρ, R, h⟩ := h
  exact h σ H R Step.refl
theorem p_asg (C : Cxs X N sc cm cur g W) (hi : N[i]? = some x) (h : PS X st (tAsg (T X.K cur g W ea) (gName i))) : PS X st (Ts X.K cur g W (.set i ea)) := by
  refine ⟨fun pins s σ H D I q => h.run pins s σ H D I ?_⟩
  obtain ⟨O, ρ, R, q⟩ := q
  have q : FinS X.K cur O ρ σ H W D (toS ρ (ev g ea ρ) fun fr dep d => if i < ρ.length then some (.nx (put ρ i fr dep d)) else none) := q
  refine T.bindS R q fun fr dep d v H1 R1 s1 r1 q => ?_
  by_cases hl : i < ρ.length
  · rw [if_pos hl] at q
    exact put_ok R R1 s1 r1 hl q
  · rw [if_neg hl] at q; exact q.elim

/-! ### what slots own, written -/
theorem StRel.write {K : PySem.W.Frag} {O : Addr → Prop} {ρ : REnv} {σ : L2.St} {H : Hp} {i : Nat} {ds ds' : List PyData} {a0 : Addr} {xs' : List V} (R : StRel K cur O ρ σ H) (e : ρ[i]? = some (.own ds)) (e1 : σ[i]? = some (some (.ref a0))) (hr : RepL K H (Pm O ρ σ []) ds' xs') :
    StRel K cur O (ρ.set i (.own ds')) σ (upd H a0 (.lst xs')) ∧ Step ρ σ H (ρ.set i (.own ds')) σ (upd H a0 (.lst xs')) := by
  have ow0 : Ow ρ σ a0 := ⟨i, ds, e, e1⟩
  have hi : i < ρ.length := (List.getElem?_eq_some_iff.mp e).1
  have owb : ∀ {j : Nat} {es : List PyData}, (ρ.set i (.own ds'))[j]? = some (.own es) → ∃ fs, ρ[j]? = some (.own fs) := fun {j es} h => by
    rcases set_cases h with ⟨rfl, _⟩ | ⟨n, h⟩
    · exact ⟨ds, e⟩
    · exact ⟨es, h⟩
  have up : ∀ a u, Pm O ρ σ [] a → Rd H a u → Pm O (ρ.set i (.own ds')) σ [] a ∧ Rd (upd H a0 (.lst xs')) a u := fun a u q r => by
    have ne : a ≠ a0 := fun z => q.not_ow (z ▸ ow0)
    refine ⟨⟨q.1, fun j es h1 h2 => ?_⟩, r.elim (fun z => .inl (by rw [upd_ne ne]; exact z)) fun ⟨o, z⟩ => .inr ⟨o, by rw [upd_ne ne]; exact z⟩⟩
    obtain ⟨fs, h3⟩ := owb h1
    exact q.2 j fs h3 h2
  refine ⟨⟨by simp [R.len], fun a o z => ?_, fun j d h => ?_, fun j es h => ?_, fun j k es fs a h1 h2 h3 h4 => ?_, fun j c h => ?_⟩, ⟨fun a u h n => ?_, fun a o => ?_, fun a h z => ?_⟩⟩
  · by_cases q : a = a0
    · rw [q, upd_same] at z; cases z
    · rw [upd_ne q] at z; exact R.od a o z
  · rcases set_cases h with ⟨_, h⟩ | ⟨n, h⟩
    · cases h
    · obtain ⟨v, h1, r⟩ := R.val j d h
      exact ⟨v, h1, Rep.stay up _ r⟩
  · rcases set_cases h with ⟨rfl, h9⟩ | ⟨n, h⟩
    · cases h9
      obtain ⟨a, xs, h1, h2, no, _⟩ := R.own j ds e
      rw [e1] at h1
      cases h1
      exact ⟨a0, xs', e1, upd_same, no, RepL.stay up _ hr⟩
    · obtain ⟨a, xs, h1, h2, no, r⟩ := R.own j es h
      have ne : a ≠ a0 := fun z => n (R.sep j i es ds a h e h1 (by rw [z]; exact e1))
      exact ⟨a, xs, h1, by rw [upd_ne ne]; exact h2, no, RepL.stay up _ r⟩
  · obtain ⟨_, h5⟩ := owb h1
    obtain ⟨_, h6⟩ := owb h2
    exact R.sep j k _ _ a h5 h6 h3 h4
  · rcases set_cases h with ⟨_, h⟩ | ⟨n, h⟩
    · cases h
    · exact R.exc j c h
  · have ne : a ≠ a0 := fun z => n (z ▸ ow0)
    rw [upd_ne ne]
    exact h
  · obtain ⟨j, es, h1, h2⟩ := o
    obtain ⟨fs, h3⟩ := owb h1
    exact .inl ⟨j, fs, h3, h2⟩
  · by_cases q : a = a0
    · rw [q, upd_same] at z; cases z
    · rw [upd_ne q] at z; exact h z
theorem tv_own {i : Nat} {O : Addr → Prop} {ρ : REnv} {σ : L2.St} {H : Hp} {K : PySem.W.Frag} {ds : List PyData} {Gl : VK} (R : StRel K cur O ρ σ H) (e : ρ[i]? = some (.own ds)) (hk : ∀ a0, σ[i]? = some (some (.ref a0)) → (∃ xs, H a0 = some (.lst xs)) → Gl (.ref a0) H) : tVar i σ H Gl := by
  obtain ⟨a, xs, h1, h2, _⟩ := R.own i ds e
  exact ⟨_, h1, hk a h1 ⟨xs, h2⟩⟩
theorem pv (C : Cxt X N sc cm cur g W) (hi : N[i]? = some x) (hv : Vis sc x) (hd : (x == ("__debug__" : Str)) = false) (hcd : (x == ("__classdict__" : Str)) = false) : PE X (.Name x pos) (tVar i) := pe_var (by rw [C.hN]; exact hi) (by rw [C.hsc]; exact hv) hd hcd
theorem p_app (C : Cxs X N sc cm cur g W) (hi : N[i]? = some x) (hv : Vis sc x) (hd : (x == ("__debug__" : Str)) = false) (hcd : (x == ("__classdict__" : Str)) = false) (hs : notStar a = true) (ha : PE X a (T X.K cur g W ea)) {ap cp : Pos} (hl : (ap.endLine == cp.line) = true)
    (hb : attributeBase (.Name x p) "append" X.env (eval (.Name x p) X.env) = eval (.Name x p) X.env) : PS X (.Expr (.Call (.Attribute (.Name x p) "append" ap) [a] [] cp) pos) (Ts X.K cur g W (.app i ea)) := by
  refine ⟨fun pins s σ H D I q => ?_⟩
  obtain ⟨O, ρ, R, q⟩ := q
  have q : FinS X.K cur O ρ σ H W D (match ρ[i]? with
    | some (.own ds) => toS ρ (ev g ea ρ) fun ke de d => if ke.tot de = [] ∧ ds.length < sizeLine then some (.nx (ρ.set i (.own (ds ++ [d])))) else none
    | _ => none) := q
  split at q
  · rename_i ds e
    have hst := star1 (X := X) hs
    refine (ps_expr (pe_bm PySem.F.plainAttrs_list PySem.F.slot_list_append PySem.F.type_list_append mt_append (pv C.toCxt hi hv hd hcd) (pa_cons ha pa_nil hst) hb (by rw [hst]; rfl) hl hst rfl)).run pins s σ H D I ?_
    show tVar i σ H (fun x H1 => tyV X.K "list" x H1 ∧ T X.K cur g W ea σ H1 fun y H2 => rAppend x [y] H2 fun _ H3 => D.nx σ H3)
    refine tv_own R e fun a0 ha0 ⟨xs0, hx0⟩ => ⟨.inl ⟨rfl, xs0, .inl (.inl hx0)⟩, ?_⟩
    refine T.bindS R q fun fr dep d v H1 R1 s1 r1 q => ?_
    by_cases hz : fr.tot dep = [] ∧ ds.length < sizeLine
    · rw [if_pos hz] at q
      obtain ⟨a, xs, h1, h2, no, r⟩ := R1.own i ds e
      rw [ha0] at h1
      cases h1
      have rv := r1.rep R s1
      rw [hz.1] at rv
      have W1 := R1.write e ha0 (r.append (.cons rv .nil))
      exact ⟨a0, xs, v, rfl, rfl, h2, by rw [← r.length]; exact hz.2, q _ _ W1.1 ((Step.of_same s1).trans W1.2)⟩
    · rw [if_neg hz] at q; exact q.elim
  · exact q.elim
end
end Vi

set_option maxRecDepth 100000
set_option maxHeartbeats 4000000
namespace Vi
open PySem PySem.Spec PyProof.Rows L2
section
variable {X : Cx} {N : List Str} {sc : Scope} {cm : Bool} {cur : Cur} {g : G} {W : WX}
variable {a b c : Expr} {ea eb ec ed e1 : E} {pos p p1 p2 p3 p4 : Pos} {st : Stmt} {rest : List Stmt} {s r sa sb : S} {i j : Nat} {x y : Str}
theorem p_ext (C : Cxs X N sc cm cur g W) (hi : N[i]? = some x) (hv : Vis sc x) (hd : (x == ("__debug__" : Str)) = false) (hcd : (x == ("__classdict__" : Str)) = false) (hs : notStar a = true) (ha : PE X a (T X.K cur g W ea)) {ap cp : Pos} (hl : (ap.endLine == cp.line) = true)
    (hb : attributeBase (.Name x p) "extend" X.env (eval (.Name x p) X.env) = eval (.Name x p) X.env) : PS X (.Expr (.Call (.Attribute (.Name x p) "extend" ap) [a] [] cp) pos) (Ts X.K cur g W (.ext i ea)) := by
  refine ⟨fun pins s σ H D I q => ?_⟩
  obtain ⟨O, ρ, R, q⟩ := q
  have q : FinS X.K cur O ρ σ H W D (match ρ[i]? with
    | some (.own ds) => toS ρ (ev g ea ρ) fun ke de d => match d with
      | .list es => if ke = .fresh ∧ de = [] ∧ ds.length + es.length ≤ sizeLine then some (.nx (ρ.set i (.own (ds ++ es)))) else none
      | _ => none
    | _ => none) := q
  split at q
  · rename_i ds e
    have hst := star1 (X := X) hs
    refine (ps_expr (pe_bm PySem.F.plainAttrs_list PySem.F.slot_list_extend PySem.F.type_list_extend mt_extend (pv C.toCxt hi hv hd hcd) (pa_cons ha pa_nil hst) hb (by rw [hst]; rfl) hl hst rfl)).run pins s σ H D I ?_
    show tVar i σ H (fun x H1 => tyV X.K "list" x H1 ∧ T X.K cur g W ea σ H1 fun y H2 => rExtend x [y] H2 fun _ H3 => D.nx σ H3)
    refine tv_own R e fun a0 ha0 ⟨xs0, hx0⟩ => ⟨.inl ⟨rfl, xs0, .inl (.inl hx0)⟩, ?_⟩
    refine T.bindS R q fun fr dep d v H1 R1 s1 r1 q => ?_
    cases d with
    | list es =>
      have q : FinS X.K cur O ρ σ H W D (if fr = .fresh ∧ dep = [] ∧ ds.length + es.length ≤ sizeLine then some (.nx (ρ.set i (.own (ds ++ es)))) else none) := q
      by_cases hz : fr = .fresh ∧ dep = [] ∧ ds.length + es.length ≤ sizeLine
      · have q9 := q
        rw [if_pos hz] at q9
        clear q
        obtain ⟨h7, h8, h9⟩ := hz
        subst h7
        subst h8
        obtain ⟨a, xs, h1, h2, no, r⟩ := R1.own i ds e
        rw [ha0] at h1
        cases h1
        obtain ⟨p, ys, es', ee, rfl, n, hp, re⟩ := r1
        cases ee
        have W1 := R1.write e ha0 (r.append (RepL.stay (fun a u q z => ⟨q.1, z⟩) _ re))
        exact ⟨a0, p, xs, ys, rfl, rfl, h2, hp, by rw [← r.length, ← re.length]; exact h9, q9 _ _ W1.1 ((Step.of_same s1).trans W1.2)⟩
      · rw [if_neg hz] at q; exact q.elim
    | _ => exact q.elim
  · exact q.elim
theorem p_pop (C : Cxs X N sc cm cur g W) (hi : N[i]? = some x) (hv : Vis sc x) (hd : (x == ("__debug__" : Str)) = false) (hcd : (x == ("__classdict__" : Str)) = false) {ap cp : Pos} (hl : (ap.endLine == cp.line) = true)
    (hb : attributeBase (.Name x p) "pop" X.env (eval (.Name x p) X.env) = eval (.Name x p) X.env) : PS X (.Expr (.Call (.Attribute (.Name x p) "pop" ap) [] [] cp) pos) (Ts X.K cur g W (.pop i)) := by
  refine ⟨fun pins s σ H D I q => ?_⟩
  obtain ⟨O, ρ, R, q⟩ := q
  have q : FinS X.K cur O ρ σ H W D (match ρ[i]? with
    | some (.own ds) => if ds ≠ [] then some (.nx (ρ.set i (.own ds.dropLast))) else none
    | _ => none) := q
  split at q
  · rename_i ds e
    refine (ps_expr (pe_bm0 PySem.F.plainAttrs_list PySem.F.slot_list_pop PySem.F.type_list_pop mt_pop (pv C.toCxt hi hv hd hcd) hb hl)).run pins s σ H D I ?_
    show tVar i σ H (fun x H1 => tyV X.K "list" x H1 ∧ rPop x [] H1 fun _ H3 => D.nx σ H3)
    refine tv_own R e fun a0 ha0 ⟨xs0, hx0⟩ => ⟨.inl ⟨rfl, xs0, .inl (.inl hx0)⟩, ?_⟩
    by_cases hz : ds ≠ []
    · rw [if_pos hz] at q
      obtain ⟨a, xs, h1, h2, no, r⟩ := R.own i ds e
      rw [ha0] at h1
      cases h1
      have W1 := R.write e ha0 r.dropLast
      have hl := r.length
      have hp : 0 < ds.length := List.length_pos_iff.mpr hz
      exact ⟨a0, xs, xs[xs.length - 1]'(by omega), rfl, rfl, h2, by simp, q _ _ W1.1 W1.2⟩
    · rw [if_neg hz] at q; exact q.elim
  · exact q.elim
theorem p_expr (he : PE X a (T X.K cur g W ea)) (hs : swapsWith a none pos.line X.env = pure false) : PS X (.Expr a pos) (Ts X.K cur g W (.expr ea)) := by
  refine ⟨fun pins s σ H D I q => (ps_expr he hs).run pins s σ H D I ?_⟩
  obtain ⟨O, ρ, R, q⟩ := q
  exact T.bindS (k := fun _ _ _ => some (.nx ρ)) R q fun fr dep d v H1 R1 s1 r1 q => q _ _ R1 (Step.of_same s1)
theorem p_ret (he : PE X a (T X.K cur g W ea)) : PS X (.Return (some a) pos) (Ts X.K cur g W (.ret ea)) := by
  refine ⟨fun pins s σ H D I q => (ps_ret he).run pins s σ H D I ?_⟩
  obtain ⟨O, ρ, R, q⟩ := q
  refine T.bindS (k := fun k dep d => some (retOf k dep d)) R q fun fr dep d v H1 R1 s1 r1 q => ?_
  have gen : FinS X.K cur O ρ σ H W D (some (.rt d)) → D.rt v H1 := fun q => q v H1 (fun a u e _ => s1 a u e) (Rep.stay (fun a u p z => ⟨p.1, z⟩) _ (r1.rep R s1))
  cases fr with
  | fresh =>
    cases d with
    | list l =>
      obtain ⟨p, xs, ds, e, rfl, n, hp, rl⟩ := r1
      cases e
      exact q _ H1 (fun a u e _ => s1 a u e) ⟨p, xs, rfl, .inl n, hp, RepL.stay (fun a u p z => ⟨⟨p.1.1, p.2⟩, z⟩) _ rl⟩
    | _ => exact gen q
  | own i =>
    cases dep with
    | nil =>
      cases d with
      | list l =>
        obtain ⟨a0, xs, ds, e, e0, rfl, e1, hp, rl⟩ := r1
        cases e
        exact q _ H1 (fun a u e _ => s1 a u e) ⟨a0, xs, rfl, .inr ⟨i, _, e0, e1⟩, hp, RepL.stay (fun a u p z => ⟨⟨p.1, fun e9 => p.not_ow (e9 ▸ ⟨i, _, e0, e1⟩)⟩, z⟩) _ rl⟩
      | _ => exact gen q
    | cons a b => cases d <;> exact gen q
  | _ => exact gen q
theorem p_retn : PS X (.Return none pos) (Ts X.K cur g W .retn) := by
  refine ⟨fun pins s σ H D I q => ps_retN.run pins s σ H D I ?_⟩
  obtain ⟨O, ρ, R, q⟩ := q
  exact q _ _ (fun a u e _ => e) .non
theorem ex_ite {ρ : REnv} : ex g (.ite ec sa sb) ρ = toS ρ (ev g ec ρ) fun _ _ x => (truth x).bind fun t => if t = true then ex g sa ρ else ex g sb ρ := by
  show toS ρ (ev g ec ρ) (fun _ _ x => match truth x with
    | some true => ex g sa ρ
    | some false => ex g sb ρ
    | none => none) = _
  congr 1
  funext k dep x
  cases truth x with
  | none => rfl
  | some t => cases t <;> rfl
theorem p_if {ss tt : List Stmt} (hc : PT X c (Tt X.K cur g W ec)) (ha : PSs X ss (Ts X.K cur g W sa)) (hb : PSs X tt (Ts X.K cur g W sb)) : PS X (.If c ss tt pos) (Ts X.K cur g W (.ite ec sa sb)) := by
  refine ⟨fun pins s σ H D I q => (ps_if hc ha hb).run pins s σ H D I ?_⟩
  obtain ⟨O, ρ, R, q⟩ := q
  rw [ex_ite] at q
  refine Tt.bindS (D := D) R q fun t H1 R1 s1 q => ?_
  cases t with
  | true => exact ⟨O, ρ, R1, q⟩
  | false => exact ⟨O, ρ, R1, q⟩
theorem p_aug (C : Cxs X N sc cm cur g W) (hi : N[i]? = some x) (hx : Loc sc x) (he : PE X a (T X.K cur g W ea)) : PS X (.AugAssign (.Name x p) .Add a pos) (Ts X.K cur g W (.aug i .add ea)) := by
  refine ⟨fun pins s σ H D I q => (ps_aug (by rw [C.hN]; exact C.nd) (by rw [C.hN]; exact hi) (by rw [C.hsc]; exact hx) he ip_add (.inl (C.fnT x))).run pins s σ H D I ?_⟩
  obtain ⟨O, ρ, R, q⟩ := q
  have q : FinS X.K cur O ρ σ H W D (match ρ[i]? with
    | some (.val x) => toS ρ (ev g ea ρ) fun _ _ y => match x, y with
      | .int _, .int _ => (binop .plain .add x y).map fun r => .nx (ρ.set i (.val r.2))
      | _, _ => none
    | _ => none) := q
  split at q
  · rename_i d e
    obtain ⟨v, hv, rv⟩ := R.val i d e
    refine ⟨v, hv, T.bindS R q fun fr dep dd u H1 R1 s1 r1 q => ?_⟩
    cases d with
    | int m =>
      cases dd with
      | int n =>
        obtain rfl := r1.int
        cases rv
        have hl : i < ρ.length := (List.getElem?_eq_some_iff.mp e).1
        exact ⟨m, n, rfl, rfl, q _ _ (R1.set_val hl (.int _)) ((Step.of_same s1).trans (Step.set_val fun _ e => nomatch e))⟩
      | _ => exact q.elim
    | _ => exact q.elim
  · exact q.elim
theorem p_par (C : Cxs X N sc cm cur g W) (hc : cm = true) (hij : i ≠ j) (hi : N[i]? = some x) (hj : N[j]? = some y) (hx : sc.names.lookup x = some .local) (hy : sc.names.lookup y = some .local) (hs1 : notStar a = true) (hs2 : notStar b = true)
    (ha : PE X a (T X.K cur g W ea)) (hb : PE X b (T X.K cur g W eb)) {kt k2 : Nat}
    (hw : swappedStores [.Tuple [.Name x p1, .Name y p2] kt p3] (.Tuple [a, b] k2 p4) X.env = pure (some [x, y])) : PS X (.Assign [.Tuple [.Name x p1, .Name y p2] kt p3] (.Tuple [a, b] k2 p4) pos) (Ts X.K cur g W (.par i j ea eb)) := by
  refine ⟨fun pins s σ H D I q => ?_⟩
  obtain ⟨O, ρ, R, q⟩ := q
  have q : FinS X.K cur O ρ σ H W D (toS ρ (ev g ea ρ) fun ka da x => toS ρ (ev g eb ρ) fun kb db y => if i < ρ.length ∧ j < ρ.length ∧ i ≠ j ∧ ka.tot da = [] ∧ kb.tot db = [] then some (.nx ((ρ.set i (.val x)).set j (.val y))) else none) := q
  refine (ps_par (C.calm hc) (by rw [C.hN]; exact C.nd) (by rw [C.hN]; exact hi) (by rw [C.hN]; exact hj) hij (by rw [C.hsc]; exact hx) (by rw [C.hsc]; exact hy) (pa_cons ha (pa_cons hb pa_nil (star1 hs2)) (star2 hs1 hs2)) hw).run pins s σ H D I ?_
  refine T.bindS R q fun ka da d1 v H1 R1 s1 r1 q => ?_
  refine T.bindS R1 (FinS.same s1 q) fun kb db d2 u H2 R2 s2 r2 q => ?_
  by_cases hz : i < ρ.length ∧ j < ρ.length ∧ i ≠ j ∧ ka.tot da = [] ∧ kb.tot db = []
  · rw [if_pos hz] at q
    obtain ⟨h1, h2, _, h3, h4⟩ := hz
    have rv := (r1.stay s2).rep R (same_trans s1 s2)
    have ru := r2.rep R1 s2
    rw [h3] at rv
    rw [h4] at ru
    have R3 := R2.set_val h1 rv
    have ru1 : Rep X.K H2 (Pm O (ρ.set i (.val d1)) (σ.set i (some v)) []) d2 u := Rep.stay (.same same_refl fun a p => p.set (fun _ e => nomatch e) fun j z => by simp at z) _ ru
    exact ⟨v, u, rfl, q _ _ (R3.set_val (by simpa using h2) ru1) ((Step.of_same s2).trans ((Step.set_val (s := .val d1) fun _ e => nomatch e).trans (Step.set_val (s := .val d2) fun _ e => nomatch e)))⟩
  · rw [if_neg hz] at q; exact q.elim
/-- x, y = e -/
theorem p_set2 (C : Cxs X N sc cm cur g W) (hc : cm = true) (hi : N[i]? = some x) (hj : N[j]? = some y) (hx : Loc sc x) (hy : Loc sc y) (ha : PE X a (T X.K cur g W ea)) {kt : Nat}
    (hs : swapsWithSole [.Tuple [.Name x p1, .Name y p2] kt p3] a pos.line X.env = pure false) (hw : swappedStores [.Tuple [.Name x p1, .Name y p2] kt p3] a X.env = pure none) :
    PS X (.Assign [.Tuple [.Name x p1, .Name y p2] kt p3] a pos) (Ts X.K cur g W (.set2 i j ea)) := by
  have gx : PG X (.Name x p1) (gName i) := pg_name (by rw [C.hN]; exact C.nd) (by rw [C.hN]; exact hi) (by rw [C.hsc]; exact hx) (.inl (C.fnT x))
  have gy : PG X (.Name y p2) (gName j) := pg_name (by rw [C.hN]; exact C.nd) (by rw [C.hN]; exact hj) (by rw [C.hsc]; exact hy) (.inl (C.fnT y))
  refine ⟨fun pins s σ H D I q => (ps_asg ha (pg_tup (C.calm hc) (pgs_cons gx (pgs_cons gy pgs_nil))) hs hw).run pins s σ H D I ?_⟩
  obtain ⟨O, ρ, R, q⟩ := q
  have q : FinS X.K cur O ρ σ H W D (toS ρ (ev g ea ρ) fun k dep d => match d with
    | .tuple [x, y] => if i < ρ.length ∧ j < ρ.length ∧ k.tot dep = [] then some (.nx ((ρ.set i (.val x)).set j (.val y))) else none
    | _ => none) := q
  refine T.bindS R q fun k dep d v H1 R1 s1 r1 q => ?_
  have rv := r1.rep R s1
  match d, q, rv with
  | .tuple [x, y], q, rv =>
    have q : FinS X.K cur O ρ σ H W D (if i < ρ.length ∧ j < ρ.length ∧ k.tot dep = [] then some (.nx ((ρ.set i (.val x)).set j (.val y))) else none) := q
    by_cases hz : i < ρ.length ∧ j < ρ.length ∧ k.tot dep = []
    · rw [if_pos hz] at q
      rw [hz.2.2] at rv
      have eb : bindT (.two i j) (.tuple [x, y]) ρ = some ((ρ.set i (.val x)).set j (.val y)) := by
        show (if i < ρ.length ∧ j < ρ.length then some ((ρ.set i (.val x)).set j (.val y)) else none) = _
        rw [if_pos ⟨hz.1, hz.2.1⟩]
      exact bind_ok (tg := .two i j) R1 rv eb fun σ1 R2 s2 _ => q _ _ R2 ((Step.of_same s1).trans s2)
    · rw [if_neg hz] at q; exact q.elim
theorem setIx_ix {l l' : List PyData} {k : Int} {d : PyData} (h : setIx l k d = some l') : ∃ j, ixN l.length k = some j ∧ l' = l.set j d := by
  have h : (place l.length k).map (fun j => l.set j d) = some l' := h
  cases e : place l.length k with
  | none => rw [e] at h; cases h
  | some j =>
    rw [e] at h
    exact ⟨j, place_ix e, (Option.some.inj h).symm⟩
/-- x[k] = e -/
theorem p_seti (C : Cxs X N sc cm cur g W) (hi : N[i]? = some x) (hv : Vis sc x) (hd : (x == ("__debug__" : Str)) = false) (hcd : (x == ("__classdict__" : Str)) = false) (ha : PE X a (T X.K cur g W ea)) (hk : PE X b (T X.K cur g W eb))
    (hs : swapsWithSole [.Subscript (.Name x p1) b p2] a pos.line X.env = pure false) (hw : swappedStores [.Subscript (.Name x p1) b p2] a X.env = pure none)
    (hg : ∀ v, assign (.Subscript (.Name x p1) b p2) X.env v = (do
      let ov ← holding [v] (eval (.Name x p1) X.env)
      let iv ← holding [v, ov] (eval b X.env)
      standAt p2
      holding [v, ov, iv] (setItem ov iv v)
      release [v, ov, iv] [])) :
    PS X (.Assign [.Subscript (.Name x p1) b p2] a pos) (Ts X.K cur g W (.seti i eb ea)) := by
  refine ⟨fun pins s σ H D I q => (ps_asg ha (pg_sub (pv C.toCxt hi hv hd hcd) hk set_list hg) hs hw).run pins s σ H D I ?_⟩
  obtain ⟨O, ρ, R, q⟩ := q
  have q : FinS X.K cur O ρ σ H W D (match ρ[i]? with
    | some (.own ds) => toS ρ (ev g ea ρ) fun ke de d => toS ρ (ev g eb ρ) fun _ _ kd => match kd with
      | .int n => if ke.tot de = [] then (setIx ds n d).map fun ds' => .nx (ρ.set i (.own ds')) else none
      | _ => none
    | _ => none) := q
  split at q
  · rename_i ds e
    refine T.bindS R q fun ka da d1 v H1 R1 s1 r1 q => ?_
    refine tv_own R1 e fun a0 ha0 _ => ?_
    refine T.bindS R1 (FinS.same s1 q) fun kb db d2 u H2 R2 s2 r2 q => ?_
    cases d2 with
    | int n =>
      obtain rfl := r2.int
      have q : FinS X.K cur O ρ σ H1 W D (if ka.tot da = [] then (setIx ds n d1).map fun ds' => .nx (ρ.set i (.own ds')) else none) := q
      by_cases hz : ka.tot da = []
      · rw [if_pos hz] at q
        cases es : setIx ds n d1 with
        | none => rw [es] at q; exact q.elim
        | some ds' =>
          rw [es] at q
          obtain ⟨k, hk, rfl⟩ := setIx_ix es
          have rv := (r1.stay s2).rep R (same_trans s1 s2)
          rw [hz] at rv
          obtain ⟨a, xs, h1, h2, no, r⟩ := R2.own i ds e
          rw [ha0] at h1
          cases h1
          have W1 := R2.write e ha0 (r.set k rv)
          exact ⟨a0, xs, n, k, rfl, rfl, h2, by rw [← r.length]; exact hk, q _ _ W1.1 ((Step.of_same s2).trans W1.2)⟩
      · rw [if_neg hz] at q; exact q.elim
    | _ => exact q.elim
  · exact q.elim
/-- x[k], x[l] = x[m], x[n] -/
theorem p_swap (C : Cxs X N sc cm cur g W) (hc : cm = true) (hi : N[i]? = some x) (hv : Vis sc x) (hd : (x == ("__debug__" : Str)) = false) (hcd : (x == ("__classdict__" : Str)) = false) {k l : Expr} {ek el : E} {q1 q2 q3 q4 q5 q6 : Pos} {kt k2 : Nat}
    (ha : PE X a (T X.K cur g W (.idx (.var i) ea))) (hb : PE X b (T X.K cur g W (.idx (.var i) eb))) (hk : PE X k (T X.K cur g W ek)) (hl : PE X l (T X.K cur g W el)) (hn1 : notStar a = true) (hn2 : notStar b = true)
    (hs : swapsWithSole [.Tuple [.Subscript (.Name x q1) k q2, .Subscript (.Name x q3) l q4] kt q5] (.Tuple [a, b] k2 q6) pos.line X.env = pure false)
    (hw : swappedStores [.Tuple [.Subscript (.Name x q1) k q2, .Subscript (.Name x q3) l q4] kt q5] (.Tuple [a, b] k2 q6) X.env = pure none)
    (hg : ∀ (p p' : Pos) (b : Expr), b = k ∨ b = l → ∀ v, assign (.Subscript (.Name x p) b p') X.env v = (do
      let ov ← holding [v] (eval (.Name x p) X.env)
      let iv ← holding [v, ov] (eval b X.env)
      standAt p'
      holding [v, ov, iv] (setItem ov iv v)
      release [v, ov, iv] [])) :
    PS X (.Assign [.Tuple [.Subscript (.Name x q1) k q2, .Subscript (.Name x q3) l q4] kt q5] (.Tuple [a, b] k2 q6) pos) (Ts X.K cur g W (.swap i ek el ea eb)) := by
  have g1 := pg_sub (pos := q2) (pv (pos := q1) C.toCxt hi hv hd hcd) hk set_list (hg q1 q2 k (.inl rfl))
  have g2 := pg_sub (pos := q4) (pv (pos := q3) C.toCxt hi hv hd hcd) hl set_list (hg q3 q4 l (.inr rfl))
  refine ⟨fun pins s σ H D I q => (ps_asg (pe_tup (pa_cons ha (pa_cons hb pa_nil (star1 hn2)) (star2 hn1 hn2))) (pg_tup (C.calm hc) (pgs_cons g1 (pgs_cons g2 pgs_nil))) hs hw).run pins s σ H D I ?_⟩
  obtain ⟨O, ρ, R, q⟩ := q
  have q : FinS X.K cur O ρ σ H W D (match ρ[i]? with
    | some (.own ds) => toS ρ (ev g (.idx (.var i) ea) ρ) fun k1 d1 x => toS ρ (ev g (.idx (.var i) eb) ρ) fun k2 d2 y => toS ρ (ev g ek ρ) fun _ _ ka => match ka with
      | .int m => if k1.tot d1 = [] ∧ k2.tot d2 = [] then (setIx ds m x).bind fun ds1 => toS (ρ.set i (.own ds1)) (ev g el (ρ.set i (.own ds1))) fun _ _ kb => match kb with
        | .int n => (setIx ds1 n y).map fun ds2 => .nx (ρ.set i (.own ds2))
        | _ => none else none
      | _ => none
    | _ => none) := q
  split at q
  · rename_i ds e
    refine T.bindS R q fun k1 d1 x1 v H1 R1 s1 r1 q => ?_
    refine T.bindS R1 (FinS.same s1 q) fun k2 d2 x2 u H2 R2 s2 r2 q => ?_
    refine ⟨by show 2 ≤ sizeLine; decide, fun z hz => ?_⟩
    have s3 : Same H2 (upd H2 z (.tup [v, u])) := same_upd hz
    have R3 := R2.same s3
    refine ⟨z, [v, u], rfl, .inl (.inl upd_same), rfl, v, [u], rfl, ?_⟩
    refine tv_own R3 e fun a0 ha0 _ => ?_
    refine T.bindS R3 (FinS.same (same_trans s2 s3) q) fun kk dk xk w H4 R4 s4 r4 q => ?_
    cases xk with
    | int m =>
      obtain rfl := r4.int
      have q : FinS X.K cur O ρ σ (upd H2 z (.tup [v, u])) W D (if k1.tot d1 = [] ∧ k2.tot d2 = [] then (setIx ds m x1).bind fun ds1 => toS (ρ.set i (.own ds1)) (ev g el (ρ.set i (.own ds1))) fun _ _ kb => match kb with
        | .int n => (setIx ds1 n x2).map fun ds2 => .nx (ρ.set i (.own ds2))
        | _ => none else none) := q
      by_cases ht : k1.tot d1 = [] ∧ k2.tot d2 = []
      · rw [if_pos ht] at q
        cases es : setIx ds m x1 with
        | none => rw [es] at q; exact q.elim
        | some ds1 =>
          rw [es] at q
          obtain ⟨j, hj, rfl⟩ := setIx_ix es
          have s24 : Same H2 H4 := same_trans s3 s4
          have rv := (r1.stay (same_trans s2 s24)).rep R (same_trans s1 (same_trans s2 s24))
          have ru := (r2.stay s24).rep R1 (same_trans s2 s24)
          rw [ht.1] at rv
          rw [ht.2] at ru
          obtain ⟨a, xs, h1, h2, no, r⟩ := R4.own i ds e
          rw [ha0] at h1
          cases h1
          have W1 := R4.write e ha0 (r.set j rv)
          refine ⟨a0, xs, m, j, rfl, rfl, h2, by rw [← r.length]; exact hj, u, [], rfl, ?_⟩
          have hi : i < ρ.length := (List.getElem?_eq_some_iff.mp e).1
          have e5 : (ρ.set i (.own (ds.set j x1)))[i]? = some (.own (ds.set j x1)) := set_at hi
          refine tv_own W1.1 e5 fun a1 ha1 _ => ?_
          have q5 : FinS X.K cur O (ρ.set i (.own (ds.set j x1))) σ (upd H4 a0 (.lst (xs.set j v))) W D (toS (ρ.set i (.own (ds.set j x1))) (ev g el (ρ.set i (.own (ds.set j x1)))) fun _ _ kb => match kb with
            | .int n => (setIx (ds.set j x1) n x2).map fun ds2 => .nx (ρ.set i (.own ds2))
            | _ => none) := FinS.step ((Step.of_same s4).trans W1.2) q
          refine T.bindS W1.1 q5 fun kl dl xl w5 H5 R5 s5 r5 q => ?_
          cases xl with
          | int n =>
            obtain rfl := r5.int
            have q : FinS X.K cur O (ρ.set i (.own (ds.set j x1))) σ (upd H4 a0 (.lst (xs.set j v))) W D ((setIx (ds.set j x1) n x2).map fun ds2 => .nx (ρ.set i (.own ds2))) := q
            cases es2 : setIx (ds.set j x1) n x2 with
            | none => rw [es2] at q; exact q.elim
            | some ds2 =>
              rw [es2] at q
              obtain ⟨j2, hj2, rfl⟩ := setIx_ix es2
              obtain ⟨a, ys, h1, h2, no, r⟩ := R5.own i _ e5
              rw [ha1] at h1
              cases h1
              have ru2 : Rep X.K H5 (Pm O (ρ.set i (.own (ds.set j x1))) σ []) x2 u := Rep.stay (Stay.step (((Step.of_same (ρ := ρ) (σ := σ) same_refl).trans W1.2).trans (Step.of_same s5))) _ ru
              have W2 := R5.write e5 ha1 (r.set j2 ru2)
              rw [List.set_set] at W2
              exact ⟨a1, ys, n, j2, rfl, rfl, h2, by rw [← r.length]; exact hj2, rfl, q _ _ W2.1 ((Step.of_same s5).trans W2.2)⟩
          | _ => exact q.elim
      · rw [if_neg ht] at q; exact q.elim
    | _ => exact q.elim
  · exact q.elim
end
end Vi

set_option maxRecDepth 100000
set_option maxHeartbeats 4000000
namespace Vi
open PySem PySem.Spec PyProof.Rows L2
section
variable {X : Cx} {N : List Str} {sc : Scope} {cm : Bool} {cur : Cur} {g : G} {W : WX}
variable {a b c : Expr} {ea eb ec ed e1 : E} {pos p p1 p2 p3 p4 : Pos} {st : Stmt} {rest body : List Stmt} {s r sa sb : S} {i j : Nat} {x y : Str}
theorem whileL_succ {c : REnv → Option Rs} {body : REnv → Option SR} {n : Nat} {ρ : REnv} : whileL c body (n + 1) ρ = toS ρ (c ρ) fun _ _ t => (truth t).bind fun b => if b = true then (match body ρ with
    | some (.nx ρ2) => whileL c body n ρ2
    | x => x) else some (.nx ρ) := by
  show (match c ρ with
    | some (.ok _ _ t) => match truth t with
      | some true => match body ρ with
        | some (.nx ρ2) => whileL c body n ρ2
        | x => x
      | some false => some (.nx ρ)
      | none => none
    | some (.ex x) => some (.ex x ρ)
    | none => none) = _
  cases c ρ with
  | none => rfl
  | some z =>
    cases z with
    | ok k dep t =>
      show (match truth t with
        | some true => _
        | some false => _
        | none => none) = (truth t).bind _
      cases truth t with
      | none => rfl
      | some b => cases b <;> rfl
    | ex x => rfl
theorem p_while (C : Cxs X N sc cm cur g W) (hc : PT X c (Tt X.K cur g W ec)) (hb : PSs X body (Ts X.K cur g W s)) : PS X (.While c body [] pos) (Ts X.K cur g W (.whl ec s)) := by
  refine ⟨fun pins s0 σ H D I q => (ps_while C.po hc hb).run pins s0 σ H D I ?_⟩
  obtain ⟨O, ρ, R, q⟩ := q
  have q : FinS X.K cur O ρ σ H W D (whileL (ev g ec) (ex g s) g.fuel ρ) := q
  refine ⟨fun m σ H => ∃ ρ, StRel X.K cur O ρ σ H ∧ FinS X.K cur O ρ σ H W D (whileL (ev g ec) (ex g s) m ρ), ⟨g.fuel, ρ, R, q⟩, ?_⟩
  rintro m σ1 H1 ⟨ρ1, R1, q⟩
  cases m with
  | zero => exact q.elim
  | succ m =>
    rw [whileL_succ] at q
    refine Tt.bindS R1 q fun t H2 R2 s2 q => ?_
    cases t with
    | false => exact q _ _ R2 Step.refl
    | true =>
      have q : FinS X.K cur O ρ1 σ1 H2 W D (match ex g s ρ1 with
        | some (.nx ρ2) => whileL (ev g ec) (ex g s) m ρ2
        | x => x) := q
      refine ⟨fun σ' H' => ∃ ρ, StRel X.K cur O ρ σ' H' ∧ FinS X.K cur O ρ σ' H' W D (whileL (ev g ec) (ex g s) m ρ), fun σ' H' h => ⟨m, Nat.lt_succ_self m, h⟩, O, ρ1, R2, ?_⟩
      cases e : ex g s ρ1 with
      | none => rw [e] at q; exact q
      | some z =>
        rw [e] at q
        cases z with
        | nx ρ2 => exact fun σ' H' R' s' => ⟨ρ2, R', FinS.step s' q⟩
        | rt d => exact q
        | rl d => exact q
        | ex c ρ2 => exact q
theorem p_for {tgE it : Expr} {tg : Tg} {eit : E} (C : Cxs X N sc cm cur g W) (hc : cm = true) (hi : PI X tgE it (Ti X.K cur g W eit)) (hg : PG X tgE (gT X.K tg)) (hb : PSs X body (Ts X.K cur g W s)) (hs : ∀ x, foldedSetIterable it X.env x = pure x) :
    PS X (.For tgE it body [] pos) (Ts X.K cur g W (.for_ tg eit s)) := by
  refine ⟨fun pins s0 σ H D I q => (ps_for C.po (C.calm hc) hi hg hb hs).run pins s0 σ H D I ?_⟩
  obtain ⟨O, ρ, R, q⟩ := q
  have q : FinS X.K cur O ρ σ H W D (match ev g eit ρ with
    | some (.ok k dep x) => match items x with
      | some xs => forL tg (ex g s) xs (disown (k.tot dep) ρ)
      | none => none
    | some (.ex c) => some (.ex c ρ)
    | none => none) := q
  refine ⟨O, ρ, R, ?_⟩
  cases e : ev g eit ρ with
  | none => rw [e] at q; exact q
  | some z =>
    rw [e] at q
    cases z with
    | ex c => exact fun H' s' => q σ H' (R.same s') (Step.of_same s')
    | ok k dep d =>
      show match items d with
        | none => False
        | some xs => _
      have q : FinS X.K cur O ρ σ H W D (match items d with
        | some xs => forL tg (ex g s) xs (disown (k.tot dep) ρ)
        | none => none) := q
      cases e2 : items d with
      | none => rw [e2] at q; exact q
      | some xs =>
        rw [e2] at q
        intro J H1 s1 hy
        have R1 := (R.same s1).disown (k.tot dep)
        have s01 : Step ρ σ H (disown (k.tot dep) ρ) σ H1 := (Step.of_same s1).trans (Step.disown _)
        have q1 : FinS X.K cur O (disown (k.tot dep) ρ) σ H1 W D (forL tg (ex g s) xs (disown (k.tot dep) ρ)) := FinS.step s01 q
        have st0 : Stay H1 H1 (Pm O ρ σ (k.tot dep)) (Pm O (disown (k.tot dep) ρ) σ []) := .same same_refl fun a p => p.disown
        have st1 : Stay H1 H1 (Pm O ρ σ dep) (Pm O (disown (k.tot dep) ρ) σ []) := .same same_refl fun a p => Pm.disown (p.mono fun i z => List.mem_append_right _ z)
        refine ⟨fun i m σ' H' => m = xs.length - i ∧ i ≤ xs.length ∧ ∃ ρ', StRel X.K cur O ρ' σ' H' ∧ Step (disown (k.tot dep) ρ) σ H1 ρ' σ' H' ∧ FinS X.K cur O ρ' σ' H' W D (forL tg (ex g s) (xs.drop i) ρ'), ⟨xs.length, by simp, Nat.zero_le _, _, R1, Step.refl, q1⟩, ?_⟩
        rintro i m σ2 H2 ⟨rfl, hi, ρ2, R2, s2, q2⟩
        have ss : Stay H1 H2 (Pm O (disown (k.tot dep) ρ) σ []) (Pm O ρ2 σ2 []) := Stay.step s2
        have st0' : Stay H1 H2 (Pm O ρ σ (k.tot dep)) (Pm O ρ2 σ2 []) := fun a u p r => let ⟨p1, r1⟩ := st0 a u p r; ss a u p1 r1
        have st1' : Stay H1 H2 (Pm O ρ σ dep) (Pm O ρ2 σ2 []) := fun a u p r => let ⟨p1, r1⟩ := st1 a u p r; ss a u p1 r1
        by_cases hlt : i < xs.length
        · rw [List.drop_eq_getElem_cons hlt] at q2
          have q2 : FinS X.K cur O ρ2 σ2 H2 W D (match bindT tg (xs[i]) ρ2 with
            | none => none
            | some ρ1 => match ex g s ρ1 with
              | some (.nx ρ2) => forL tg (ex g s) (xs.drop (i + 1)) ρ2
              | x => x) := q2
          refine .inr ⟨hy.go i H2 _ st0' hlt, fun σ' H' => ∃ ρ', StRel X.K cur O ρ' σ' H' ∧ Step (disown (k.tot dep) ρ) σ H1 ρ' σ' H' ∧ FinS X.K cur O ρ' σ' H' W D (forL tg (ex g s) (xs.drop (i + 1)) ρ'), fun σ' H' h => ⟨xs.length - (i + 1), by omega, rfl, hlt, h⟩, fun v H3 yl => ?_⟩
          obtain ⟨s3, rx⟩ := hy.yld i H2 _ _ (xs[i]) v H3 st0' st1' (fun p n => R2.new n) (by simp) yl
          have R3 := R2.same s3
          cases eb : bindT tg (xs[i]) ρ2 with
          | none => rw [eb] at q2; exact q2.elim
          | some ρ3 =>
            rw [eb] at q2
            have q2 : FinS X.K cur O ρ2 σ2 H2 W D (match ex g s ρ3 with
              | some (.nx ρ2) => forL tg (ex g s) (xs.drop (i + 1)) ρ2
              | x => x) := q2
            refine bind_ok R3 rx eb fun σ3 R4 s4 _ => ⟨O, ρ3, R4, ?_⟩
            have s24 : Step ρ2 σ2 H2 ρ3 σ3 H3 := (Step.of_same s3).trans s4
            have q3 := FinS.step s24 q2
            cases ee : ex g s ρ3 with
            | none => rw [ee] at q3; exact q3
            | some z =>
              rw [ee] at q3
              cases z with
              | nx ρ4 => exact fun σ' H' R' s' => ⟨ρ4, R', s2.trans (s24.trans s'), FinS.step s' q3⟩
              | rt d => exact q3
              | rl d => exact q3
              | ex c ρ4 => exact q3
        · have ei : i = xs.length := by omega
          subst ei
          rw [List.drop_length] at q2
          exact .inl ⟨hy.stop _ H2 _ st0' (Nat.le_refl _), q2 _ _ R2 Step.refl⟩
/-- raise C('..') -/
theorem p_raise {m : Str} {jj : Nat} (C : Cxs X N sc cm cur g W) (hc : cm = true) (hr : g.rai.contains x = true) (hg : glB sc x = true) (hd : (x == ("__debug__" : Str)) = false) :
    PS X (.Raise (some (.Call (.Name x p1) [.Constant (.str m) jj p2] [] p3)) none pos) (Ts X.K cur g W (.raise x)) := by
  obtain ⟨B, n1, n2, bm, F, h1, h2, h3, h4⟩ := C.rai x (by simpa using hr)
  refine ⟨fun pins s σ H D I q => (ps_raise (C.calm hc) C.tk (pmk_own F h1 h2 h3 h4 (C.toCxt.gl hg) hd)).run pins s σ H D I ?_⟩
  obtain ⟨O, ρ, R, q⟩ := q
  exact q σ H R Step.refl
end
section
variable {X : Cx} {N : List Str} {sc : Scope} {cm : Bool} {cur : Cur} {g : G} {W : WX}
theorem Cxs.tr (C : Cxs X N sc cm cur g W) {W' : WX} {pn : List (Addr × Obj)} {xe : Value → Shared → Prop} (tk : Takes (X.tr pn xe) W') (po : PassesOwn (model X.prog X.w) X.A X.env xe) (hcur : cur = none) : Cxs (X.tr pn xe) N sc cm cur g W' where
  hN := C.hN
  nd := C.nd
  hsc := C.hsc
  calm := C.calm
  tk := tk
  hu := C.hu
  fns := fun hc k nm F e => ⟨(C.fns hc k nm F e).ex⟩
  blt := C.blt
  consts := C.consts
  isx := fun a x c b e => by rw [hcur] at e; cases e
  isk := C.isk
  knd := C.knd
  fnT := C.fnT
  po := po
  hst := C.hst
  hfr := C.hfr
  rai := C.rai
  exk := C.exk
  exc := C.exc
theorem Cxs.suite (C : Cxs X N sc cm cur g W) {a : Addr} {oe : Obj} {pn : List (Addr × Obj)} {c : Str} (hz : Zc (.ref (He.ga X.K c)) none oe) (hf : ∃ vs, oe.data = .fields vs) : Cxs (X.suite a ((a, oe) :: pn)) N sc false (some (a, c)) g (fun _ _ _ _ => False) where
  hN := C.hN
  nd := C.nd
  hsc := C.hsc
  calm := fun z => nomatch z
  tk := fun u s' ⟨a, B, sI, pins, σ, H, cls, d, e, I, nb, up, sky, na, os, ag, w⟩ => w.elim
  hu := C.hu
  fns := fun z => nomatch z
  blt := C.blt
  consts := C.consts
  isx := fun a' x' c' b' e e2 => by
    cases e
    exact call_isE (C.exc _ _ _ e2) hz hf
  isk := C.isk
  knd := C.knd
  fnT := C.fnT
  po := PassesOwn.never
  hst := C.hst
  hfr := C.hfr
  rai := C.rai
  exk := C.exk
  exc := C.exc
theorem StRel.cur_of {K : PySem.W.Frag} {cur cur' : Cur} {O : Addr → Prop} {ρ : REnv} {σ : L2.St} {H : Hp} (R : StRel K cur O ρ σ H) (h : cur = none ∨ noExc ρ = true) : StRel K cur' O ρ σ H :=
  ⟨R.len, R.od, R.val, R.own, R.sep, fun i c e => by
    rcases h with h | h
    · obtain ⟨a, h1, _⟩ := R.exc i c e
      rw [h] at h1
      cases h1
    · exact absurd e (noExc_get h)⟩
variable {pos p1 p2 p3 np : Pos} {body su : List Stmt} {b0 : Stmt} {sb ss : S} {j : Nat} {x n : Str}
theorem Cxs.names (C : Cxs X N sc cm cur g W) (hg : glB sc x = true) (hd : (x == ("__debug__" : Str)) = false) (hx : (g.exm.any fun p => p.1.2 == x) = true) : ∃ cv, Names X x cv ∧ ∀ c b, g.exm.lookup (c, x) = some b → PySem.W.exmOne X.K (.ref (He.ga X.K c)) cv = some b := by
  obtain ⟨cv, h1, h2⟩ := C.exk x hx
  exact ⟨cv, ⟨C.toCxt.gl hg, hd, h1⟩, h2⟩
theorem p_try (C : Cxs X N sc cm cur g W) (hcur : cur = none) (hj : N[j]? = some n) (hn : sc.names.lookup n = some .local) (hg : glB sc x = true) (hd : (x == ("__debug__" : Str)) = false) (hx : (g.exm.any fun p => p.1.2 == x) = true)
    (hb : ∀ X' W', Cxs X' N sc cm cur g W' → X'.K = X.K → X'.env = X.env → PSs X' body (Ts X'.K cur g W' sb))
    (hs : ∀ X' a c, Cxs X' N sc false (some (a, c)) g (fun _ _ _ _ => False) → X'.env = X.env → PSs X' (b0 :: su) (Ts X'.K (some (a, c)) g (fun _ _ _ _ => False) ss)) :
    PS X (.Try body [.ExceptHandler (some (.Name x np)) (some n) (b0 :: su) p1] [] [] pos) (Ts X.K cur g W (.tryx sb x (some j) ss)) := by
  obtain ⟨cv, hn1, hex⟩ := C.names hg hd hx
  have hln : X.env.kindOf n = some .local := by
    show X.env.scope.names.lookup n = _
    rw [C.hsc]; exact hn
  refine ⟨fun pins s σ H D I q => (ps_try_as (tb := fun W' => Ts X.K cur g W' sb) (ts := fun a cls d => fun D σ H => ∃ c, cls = .ref (He.ga X.K c) ∧ d = none ∧ Ts X.K (some (a, c)) g (fun _ _ _ _ => False) ss D σ H) C.hst C.hfr (by rw [C.hN]; exact C.nd) (by rw [C.hN]; exact hj) hln hn1 C.tk (fun W' pn xe tk po => hb _ W' (C.tr tk po hcur) rfl rfl) (fun a oe cls d pn hz hf => ⟨fun pins s σ H D I h => ?_⟩)).run pins s σ H D I ?_⟩
  · obtain ⟨c, rfl, rfl, h⟩ := h
    exact (hs _ a c (C.suite hz hf) rfl).run pins s σ H D I h
  · obtain ⟨O, ρ, R, q⟩ := q
    refine ⟨O, ρ, R, ?_⟩
    have q : FinS X.K cur O ρ σ H W D (match ex g sb ρ with
      | some (.ex c ρ1) => match g.exm.lookup (c, x) with
        | some true => if j < ρ1.length then (match ex g ss (ρ1.set j (.exc c)) with
          | some (.nx ρ2) => if noExc (ρ2.set j .un) = true ∧ j < ρ2.length then some (.nx (ρ2.set j .un)) else none
          | some (.rt d) => some (.rt d)
          | some (.rl d) => some (.rl d)
          | _ => none) else none
        | some false => some (.ex c ρ1)
        | none => none
      | r => r) := q
    cases e : ex g sb ρ with
    | none => rw [e] at q; exact q
    | some z =>
      rw [e] at q
      cases z with
      | nx ρ1 => exact q
      | rt d => exact q
      | rl d => exact q
      | ex c ρ1 =>
        intro σ1 H1 R1 s1
        have q : FinS X.K cur O ρ σ H W D (match g.exm.lookup (c, x) with
          | some true => if j < ρ1.length then (match ex g ss (ρ1.set j (.exc c)) with
            | some (.nx ρ2) => if noExc (ρ2.set j .un) = true ∧ j < ρ2.length then some (.nx (ρ2.set j .un)) else none
            | some (.rt d) => some (.rt d)
            | some (.rl d) => some (.rl d)
            | _ => none) else none
          | some false => some (.ex c ρ1)
          | none => none) := q
        cases el : g.exm.lookup (c, x) with
        | none => rw [el] at q; exact q.elim
        | some b =>
          rw [el] at q
          refine ⟨b, hex c b el, fun hb a na => ?_, fun hb => ?_⟩
          · subst hb
            have q : FinS X.K cur O ρ σ H W D (if j < ρ1.length then (match ex g ss (ρ1.set j (.exc c)) with
              | some (.nx ρ2) => if noExc (ρ2.set j .un) = true ∧ j < ρ2.length then some (.nx (ρ2.set j .un)) else none
              | some (.rt d) => some (.rt d)
              | some (.rl d) => some (.rl d)
              | _ => none) else none) := q
            by_cases hl : j < ρ1.length
            · rw [if_pos hl] at q
              have R2 : StRel X.K (some (a, c)) O (ρ1.set j (.exc c)) (σ1.set j (some (.ref a))) H1 := (R1.cur_of (cur' := some (a, c)) (.inl hcur)).put (fun _ e => nomatch e) (fun _ e => nomatch e) (fun c' e => by cases e; exact ⟨a, rfl, rfl⟩) hl
              have s2 : Step ρ σ H (ρ1.set j (.exc c)) (σ1.set j (some (.ref a))) H1 := s1.trans (Step.set_val fun _ e => nomatch e)
              refine ⟨c, rfl, rfl, O, ρ1.set j (.exc c), R2, ?_⟩
              cases e2 : ex g ss (ρ1.set j (.exc c)) with
              | none => rw [e2] at q; exact q.elim
              | some z =>
                rw [e2] at q
                cases z with
                | ex c' ρ' => exact q.elim
                | rt d => exact fun v H' k r => q v H' (k.step s2) r
                | rl d => exact FinS.step (W := fun _ _ _ _ => False) s2 (r := some (.rl d)) q
                | nx ρ2 =>
                  have q : FinS X.K cur O ρ σ H W D (if noExc (ρ2.set j .un) = true ∧ j < ρ2.length then some (.nx (ρ2.set j .un)) else none) := q
                  by_cases hz : noExc (ρ2.set j .un) = true ∧ j < ρ2.length
                  · rw [if_pos hz] at q
                    intro σ' H' R' s'
                    exact q _ _ ((R'.set_un hz.2).cur_of (.inr hz.1)) (s2.trans (s'.trans (Step.set_val fun _ e => nomatch e)))
                  · rw [if_neg hz] at q; exact q.elim
            · rw [if_neg hl] at q; exact q.elim
          · subst hb
            exact q _ _ R1 s1
theorem p_tryo (C : Cxs X N sc cm cur g W) (hcur : cur = none) (hg : glB sc x = true) (hd : (x == ("__debug__" : Str)) = false) (hx : (g.exm.any fun p => p.1.2 == x) = true)
    (hb : ∀ X' W', Cxs X' N sc cm cur g W' → X'.K = X.K → X'.env = X.env → PSs X' body (Ts X'.K cur g W' sb))
    (hs : ∀ X' a c, Cxs X' N sc false (some (a, c)) g (fun _ _ _ _ => False) → X'.env = X.env → PSs X' (b0 :: su) (Ts X'.K (some (a, c)) g (fun _ _ _ _ => False) ss)) :
    PS X (.Try body [.ExceptHandler (some (.Name x np)) none (b0 :: su) p1] [] [] pos) (Ts X.K cur g W (.tryx sb x none ss)) := by
  obtain ⟨cv, hn1, hex⟩ := C.names hg hd hx
  refine ⟨fun pins s σ H D I q => (ps_try_only (tb := fun W' => Ts X.K cur g W' sb) (ts := fun a cls d => fun D σ H => ∃ c, cls = .ref (He.ga X.K c) ∧ d = none ∧ Ts X.K (some (a, c)) g (fun _ _ _ _ => False) ss D σ H) C.hst C.hfr hn1 C.tk (fun W' pn xe tk po => hb _ W' (C.tr tk po hcur) rfl rfl) (fun a oe cls d pn hz hf => ⟨fun pins s σ H D I h => ?_⟩)).run pins s σ H D I ?_⟩
  · obtain ⟨c, rfl, rfl, h⟩ := h
    exact (hs _ a c (C.suite hz hf) rfl).run pins s σ H D I h
  · obtain ⟨O, ρ, R, q⟩ := q
    refine ⟨O, ρ, R, ?_⟩
    have q : FinS X.K cur O ρ σ H W D (match ex g sb ρ with
      | some (.ex c ρ1) => match g.exm.lookup (c, x) with
        | some true => match ex g ss ρ1 with
          | some (.nx ρ2) => if noExc ρ2 = true then some (.nx ρ2) else none
          | some (.rt d) => some (.rt d)
          | some (.rl d) => some (.rl d)
          | _ => none
        | some false => some (.ex c ρ1)
        | none => none
      | r => r) := q
    cases e : ex g sb ρ with
    | none => rw [e] at q; exact q
    | some z =>
      rw [e] at q
      cases z with
      | nx ρ1 => exact q
      | rt d => exact q
      | rl d => exact q
      | ex c ρ1 =>
        intro σ1 H1 R1 s1
        have q : FinS X.K cur O ρ σ H W D (match g.exm.lookup (c, x) with
          | some true => match ex g ss ρ1 with
            | some (.nx ρ2) => if noExc ρ2 = true then some (.nx ρ2) else none
            | some (.rt d) => some (.rt d)
            | some (.rl d) => some (.rl d)
            | _ => none
          | some false => some (.ex c ρ1)
          | none => none) := q
        cases el : g.exm.lookup (c, x) with
        | none => rw [el] at q; exact q.elim
        | some b =>
          rw [el] at q
          refine ⟨b, hex c b el, fun hb a na => ?_, fun hb => ?_⟩
          · subst hb
            have R2 : StRel X.K (some (a, c)) O ρ1 σ1 H1 := R1.cur_of (cur' := some (a, c)) (.inl hcur)
            refine ⟨c, rfl, rfl, O, ρ1, R2, ?_⟩
            have q : FinS X.K cur O ρ σ H W D (match ex g ss ρ1 with
              | some (.nx ρ2) => if noExc ρ2 = true then some (.nx ρ2) else none
              | some (.rt d) => some (.rt d)
              | some (.rl d) => some (.rl d)
              | _ => none) := q
            cases e2 : ex g ss ρ1 with
            | none => rw [e2] at q; exact q.elim
            | some z =>
              rw [e2] at q
              cases z with
              | ex c' ρ' => exact q.elim
              | rt d => exact fun v H' k r => q v H' (k.step s1) r
              | rl d => exact FinS.step (W := fun _ _ _ _ => False) s1 (r := some (.rl d)) q
              | nx ρ2 =>
                have q : FinS X.K cur O ρ σ H W D (if noExc ρ2 = true then some (.nx ρ2) else none) := q
                by_cases hz : noExc ρ2 = true
                · rw [if_pos hz] at q
                  intro σ' H' R' s'
                  exact q _ _ (R'.cur_of (.inr hz)) (s1.trans s')
                · rw [if_neg hz] at q; exact q.elim
          · subst hb
            exact q _ _ R1 s1
end
end Vi

set_option maxRecDepth 100000
set_option maxHeartbeats 4000000
namespace Vi
open PySem PySem.Spec PyProof.Rows L2
/-! ### does a short form tell what the code says -/
inductive Nd where
  | ex (x : Expr) | li (xs : List Expr) | it (tg x : Expr)
def opM : Op → Operator → Bool
  | .add, .Add => true
  | .sub, .Sub => true
  | .mul, .Mult => true
  | .mod, .Mod => true
  | .fdiv, .FloorDiv => true
  | .pow, .Pow => true
  | _, _ => false
def visB (sc : Scope) (x : Str) : Bool := match sc.names.lookup x with
  | some .local => true
  | some .cell => true
  | some .free => true
  | _ => false
def locB (sc : Scope) (x : Str) : Bool := match sc.names.lookup x with
  | some .local => true
  | some .cell => true
  | _ => false
def isTup : Expr → Bool
  | .Tuple _ _ _ => true
  | _ => false
def notIf : Expr → Bool
  | .IfExp _ _ _ _ => false
  | _ => true
def isIt : E → Bool
  | .range1 _ => true
  | .range2 _ _ => true
  | .range3 _ _ _ => true
  | .zip _ _ => true
  | .enum _ => true
  | _ => false
def notSet : Expr → Bool
  | .Set _ _ _ => false
  | _ => true
def at_ (N : List Str) (i : Nat) (x : Str) : Bool := match N[i]? with
  | some y => y == x
  | none => false
def tgM (N : List Str) (sc : Scope) : Tg → Expr → Bool
  | .one i, .Name x _ => at_ N i x && locB sc x
  | .two i j, .Tuple [.Name x _, .Name y _] _ _ => at_ N i x && locB sc x && (at_ N j y && locB sc y)
  | _, _ => false
def ownOf : Tg → Expr → List (Str × Nat)
  | .one i, .Name x _ => [(x, i)]
  | .two i j, .Tuple [.Name x _, .Name y _] _ _ => [(x, i), (y, j)]
  | _, _ => []
def bfName : Bf → Str
  | .len => "len" | .int => "int" | .str => "str" | .tuple => "tuple" | .list => "list" | .sum => "sum" | .sorted => "sorted"
def isNm (x y : Str) : Bool := x == y
def dbgs : Str := "__debug__"
def okN (N : List Str) : Bool := decide N.Nodup && N.all fun x => !(x == dbgs) && !(x == ("__classdict__" : Str))
def fnM (g : G) (k : Nat) (f : Str) : Bool := match g.fns[k]? with
  | some p => p.1 == f
  | none => false
def mtName : Mth → Str
  | .sindex => "index" | .lindex => "index" | .join => "join" | .lcount => "count"
def notCall : Expr → Bool
  | .Call _ _ _ _ => false
  | _ => true
def bfOk (cm : Bool) : Bf → Bool
  | .sum => cm
  | .sorted => false
  | _ => true
def mE (g : G) (N : List Str) (cm : Bool) : E → Scope → Nd → Bool
  | .var i, sc, .ex (.Name x _) => at_ N i x && visB sc x
  | .glob y, sc, .ex (.Name x _) => y == x && (glB sc x && !(x == dbgs))
  | .int n, _, .ex (.Constant (.int m) _ _) => n == m
  | .bl n, _, .ex (.Constant (.bool m) _ _) => n == m
  | .non, _, .ex (.Constant .none _ _) => true
  | .str n, _, .ex (.Constant (.str m) _ _) => n == m
  | .bin o a b, sc, .ex (.BinOp x p y _) => opM o p && (mE g N cm a sc (.ex x) && mE g N cm b sc (.ex y))
  | .neg a, sc, .ex (.UnaryOp .USub x _) => mE g N cm a sc (.ex x)
  | .not a, sc, .ex (.UnaryOp .Not x _) => notIf x && mE g N cm a sc (.ex x)
  | .cmp c a b, sc, .ex (.Compare x [op] [y] _) => decide (op = opB c) && (mE g N cm a sc (.ex x) && (mE g N cm b sc (.ex y) && !behindInMarks op y))
  | .cmp2 c c' a b d, sc, .ex (.Compare x [op, op'] [y, z] _) => decide (op = opB c) && (decide (op' = opB c') && (mE g N cm a sc (.ex x) && (mE g N cm b sc (.ex y) && (mE g N cm d sc (.ex z) && !lastMarks [op, op'] [y, z]))))
  | .land a r, sc, .ex (.BoolOp .And (x :: y :: rest) pos) => notIf x && (mE g N cm a sc (.ex x) && mE g N cm r sc (.ex (.BoolOp .And (y :: rest) pos)))
  | .lor a r, sc, .ex (.BoolOp .Or (x :: y :: rest) pos) => notIf x && (mE g N cm a sc (.ex x) && mE g N cm r sc (.ex (.BoolOp .Or (y :: rest) pos)))
  | .one a, sc, .ex (.BoolOp _ [x] _) => notIf x && mE g N cm a sc (.ex x)
  | .ife c a b, sc, .ex (.IfExp z x y _) => (notIf z && mE g N cm c sc (.ex z)) && (mE g N cm a sc (.ex x) && mE g N cm b sc (.ex y))
  | .nil, _, .li [] => true
  | .cons a r, sc, .li (x :: xs) => notStar x && (mE g N cm a sc (.ex x) && mE g N cm r sc (.li xs))
  | .tup as, sc, .ex (.Tuple xs _ _) => mE g N cm as sc (.li xs)
  | .lst as, sc, .ex (.List xs _) => mE g N cm as sc (.li xs)
  | .call k as, sc, .ex (.Call (.Name f _) (x :: xs) [] _) => cm && (fnM g k f && (glB sc f && (!(f == dbgs) && (notStar x && (xs.all notStar && mE g N cm as sc (.li (x :: xs)))))))
  | .bf f a, sc, .ex (.Call (.Name y _) [x] [] _) => isNm (bfName f) y && (glB sc y && (notStar x && (mE g N cm a sc (.ex x) && bfOk cm f)))
  | .max2 a b, sc, .ex (.Call (.Name z _) [x, y] [] _) => cm && (isNm "max" z && (glB sc z && (notStar x && (notStar y && (mE g N cm a sc (.ex x) && mE g N cm b sc (.ex y))))))
  | .min2 a b, sc, .ex (.Call (.Name z _) [x, y] [] _) => cm && (isNm "min" z && (glB sc z && (notStar x && (notStar y && (mE g N cm a sc (.ex x) && mE g N cm b sc (.ex y))))))
  | .isi t a, sc, .ex (.Call (.Name z _) [x, .Name y _] [] _) => isNm "isinstance" z && (isNm (Str.ofString (tyName t)) y && (glB sc z && (glB sc y && (notStar x && mE g N cm a sc (.ex x)))))
  | .isx i c, sc, .ex (.Call (.Name z _) [.Name x _, .Name y _] [] _) => isNm "isinstance" z && (isNm c y && (glB sc z && (glB sc y && (at_ N i x && (visB sc x && !(y == dbgs))))))
  | .slc a lo hi, sc, .ex (.Subscript x (.Slice xlo xhi none _) _) => mE g N cm a sc (.ex x) && ((match xlo with | none => (match lo with | .miss => true | _ => false) | some y => !isMiss lo && mE g N cm lo sc (.ex y)) && (match xhi with | none => (match hi with | .miss => true | _ => false) | some y => !isMiss hi && mE g N cm hi sc (.ex y)))
  | .rev a, sc, .ex (.Subscript x (.Slice none none (some (.UnaryOp .USub (.Constant (.int n) _ _) _)) _) _) => n == 1 && mE g N cm a sc (.ex x)
  | .idx a i, sc, .ex (.Subscript x y _) => plainIx y && (mE g N cm a sc (.ex x) && mE g N cm i sc (.ex y))
  | .comp tg it c el, sc, .ex (.ListComp elt [⟨tgE, iter, ifs, k⟩] scope _) => cm && (decide (k = 0) && (tgM N scope tg tgE && (blkC N sc scope (ownOf tg tgE) && (notSet iter && ((if isIt it then mE g N cm it sc (.it tgE iter) else mE g N cm it sc (.ex iter)) &&
      ((match ifs with | [] => isMiss c | [x] => !isMiss c && (notIf x && mE g N cm c (relS scope sc) (.ex x)) | _ => false) && mE g N cm el (relS scope sc) (.ex elt)))))))
  | .range1 a, sc, .it _ (.Call (.Name z _) [x] [] _) => isNm "range" z && (glB sc z && (notStar x && mE g N cm a sc (.ex x)))
  | .range2 a b, sc, .it _ (.Call (.Name z _) [x, y] [] _) => isNm "range" z && (glB sc z && (notStar x && (notStar y && (mE g N cm a sc (.ex x) && mE g N cm b sc (.ex y)))))
  | .range3 a b c, sc, .it _ (.Call (.Name z _) [x, y, w] [] _) => isNm "range" z && (glB sc z && (notStar x && (notStar y && (notStar w && (mE g N cm a sc (.ex x) && (mE g N cm b sc (.ex y) && mE g N cm c sc (.ex w)))))))
  | .enum a, sc, .it tg (.Call (.Name z _) [x] [] _) => isTup tg && (isNm "enumerate" z && (glB sc z && (notStar x && mE g N cm a sc (.ex x))))
  | .zip a b, sc, .it tg (.Call (.Name z _) [x, y] [] _) => isTup tg && (isNm "zip" z && (glB sc z && (notStar x && (notStar y && (mE g N cm a sc (.ex x) && mE g N cm b sc (.ex y))))))
  | .met m a b, sc, .ex (.Call (.Attribute x nm ap) [y] [] cp) => isNm (mtName m) nm && ((ap.endLine == cp.line) && (notCall x && (notStar y && (mE g N cm a sc (.ex x) && mE g N cm b sc (.ex y)))))
  | _, _, _ => false
section
theorem visB_ok {sc : Scope} {x : Str} (h : visB sc x = true) : Vis sc x := by
  unfold visB at h
  split at h <;> first | exact .inl (by assumption) | exact .inr (.inl (by assumption)) | exact .inr (.inr (by assumption)) | cases h
theorem locB_ok {sc : Scope} {x : Str} (h : locB sc x = true) : Loc sc x := by
  unfold locB at h
  split at h <;> first | exact .inl (by assumption) | exact .inr (by assumption) | cases h
theorem at_ok {N : List Str} {i : Nat} {x : Str} (h : at_ N i x = true) : N[i]? = some x := by
  unfold at_ at h
  split at h
  · rename_i y e
    rw [e, beq_iff_eq.mp h]
  · cases h
theorem okN_of {N : List Str} (h : okN N = true) : N.Nodup ∧ ∀ (i : Nat) (x : Str), N[i]? = some x → (x == ("__debug__" : Str)) = false ∧ (x == ("__classdict__" : Str)) = false := by
  obtain ⟨h1, h2⟩ := bb h
  refine ⟨of_decide_eq_true h1, fun i x e => ?_⟩
  rw [List.all_eq_true] at h2
  obtain ⟨h3, h4⟩ := bb (h2 x (List.mem_of_getElem? e))
  exact ⟨by simpa [dbgs] using h3, by simpa using h4⟩
theorem notSet_ok {iter : Expr} (h : notSet iter = true) (env : PySem.Env) (x : Value) : foldedSetIterable iter env x = pure x := by
  cases iter <;> first | rfl | cases h
variable {X : Cx} {N : List Str} {sc : Scope} {cm : Bool} {cur : Cur} {g : G} {W : WX}
theorem all_plain {xs : List Expr} (h : xs.all notStar = true) {pos : Pos} {env : PySem.Env} : (backTo pos (starEach xs env)).any (·.1) = false := by
  induction xs with
  | nil => rfl
  | cons x xs ih =>
    obtain ⟨h1, h2⟩ := bb (show (notStar x && xs.all notStar) = true from h)
    rw [notStar_eq h1]
    exact ih h2
/-- a comprehension's own names -/
theorem pg_blk {tg : Tg} {tgE : Expr} {scope : Scope} (C : Cxt X N sc cm cur g W) (hc : cm = true) (h : tgM N scope tg tgE = true) (s : Shared) (H : Hp) (c : Addr) (cl : List (Str × Addr)) (fp : List Addr) :
    PG (X.blk s H scope (compEnvC scope cl c X.env) fp) tgE (gT X.K tg) := by
  have B := C.blk s H scope c cl fp
  have one : ∀ {i : Nat} {x : Str} {p : Pos}, at_ N i x = true → locB scope x = true → PG (X.blk s H scope (compEnvC scope cl c X.env) fp) (.Name x p) (gName i) := fun {i x p} h1 h2 => by
    refine pg_name (by rw [B.hN]; exact B.nd) (by rw [B.hN]; exact at_ok h1) ?_ ?_
    · rw [B.hsc]
      rcases locB_ok h2 with e | e
      · exact .inl (lookup_relS_keep (fun z => nomatch z) e)
      · exact .inr (lookup_relS_keep (fun z => nomatch z) e)
    · rcases locB_ok h2 with e | e
      · refine .inr ?_
        rw [B.hsc]
        exact lookup_relS_keep (fun z => nomatch z) e
      · refine .inl ?_
        show (scope.names.lookup x == some NameKind.cell) = true
        rw [e]
        rfl
  unfold tgM at h
  split at h
  · obtain ⟨h1, h2⟩ := bb h
    exact one h1 h2
  · obtain ⟨h1, h2⟩ := bb h
    obtain ⟨h3, h4⟩ := bb h1
    obtain ⟨h5, h6⟩ := bb h2
    exact pg_tup (B.calm hc) (pgs_cons (one h3 h4) (pgs_cons (one h5 h6) pgs_nil))
  · cases h
theorem own_slots {tg : Tg} {tgE : Expr} {scope : Scope} (h : tgM N scope tg tgE = true) : (ownOf tg tgE).map (·.2) = tg.slots := by
  unfold tgM at h
  split at h
  · rfl
  · rfl
  · cases h
/-- a target of a loop -/
theorem pg_st {tg : Tg} {tgE : Expr} (C : Cxs X N sc cm cur g W) (hc : cm = true) (h : tgM N sc tg tgE = true) : PG X tgE (gT X.K tg) := by
  have one : ∀ {i : Nat} {x : Str} {p : Pos}, at_ N i x = true → locB sc x = true → PG X (.Name x p) (gName i) := fun {i x p} h1 h2 =>
    pg_name (by rw [C.hN]; exact C.nd) (by rw [C.hN]; exact at_ok h1) (by rw [C.hsc]; exact locB_ok h2) (.inl (C.fnT x))
  unfold tgM at h
  split at h
  · obtain ⟨h1, h2⟩ := bb h
    exact one h1 h2
  · obtain ⟨h1, h2⟩ := bb h
    obtain ⟨h3, h4⟩ := bb h1
    obtain ⟨h5, h6⟩ := bb h2
    exact pg_tup (C.calm hc) (pgs_cons (one h3 h4) (pgs_cons (one h5 h6) pgs_nil))
  · cases h
end
end Vi

set_option maxRecDepth 100000
set_option maxHeartbeats 4000000
namespace Vi
open PySem PySem.Spec PyProof.Rows L2
theorem no {p : Prop} (h : false = true) : p := Bool.noConfusion h
theorem nmS {x y : Str} (h : isNm x y = true) : y = x := (beq_iff_eq.mp h).symm
theorem nb {b : Bool} (h : (!b) = true) : b = false := by simpa using h
/-- what holds of a short form's matches -/
structure Snd (g : G) (N : List Str) (e : E) : Prop where
  pe : ∀ {cm : Bool} {X : Cx} {sc : Scope} {cur : Cur} {W : WX}, Cxt X N sc cm cur g W → ∀ x, mE g N cm e sc (.ex x) = true → PE X x (T X.K cur g W e)
  pt : ∀ {cm : Bool} {X : Cx} {sc : Scope} {cur : Cur} {W : WX}, Cxt X N sc cm cur g W → ∀ x, mE g N cm e sc (.ex x) = true → notIf x = true → PT X x (Tt X.K cur g W e)
  pa : ∀ {cm : Bool} {X : Cx} {sc : Scope} {cur : Cur} {W : WX}, Cxt X N sc cm cur g W → ∀ xs, mE g N cm e sc (.li xs) = true → PA X xs (Ta X.K cur g W e)
  pi : ∀ {cm : Bool} {X : Cx} {sc : Scope} {cur : Cur} {W : WX}, Cxt X N sc cm cur g W → ∀ tg x, mE g N cm e sc (.it tg x) = true → PI X tg x (Ti X.K cur g W e)
  pw : ∀ {cm : Bool} {X : Cx} {sc : Scope} {cur : Cur} {W : WX}, Cxt X N sc cm cur g W → ∀ op xs pos, mE g N cm e sc (.ex (.BoolOp op xs pos)) = true → PW X (.BoolOp op xs pos) (Tt X.K cur g W e)
/-- of a form without tests of its own -/
theorem Snd.of {g : G} {N : List Str} {e : E} (pe : ∀ {cm : Bool} {X : Cx} {sc : Scope} {cur : Cur} {W : WX}, Cxt X N sc cm cur g W → ∀ x, mE g N cm e sc (.ex x) = true → PE X x (T X.K cur g W e) ∧ plainT x = true)
    (li : ∀ {cm : Bool} {sc : Scope} xs, mE g N cm e sc (.li xs) = false) (it : ∀ {cm : Bool} {sc : Scope} tg x, mE g N cm e sc (.it tg x) = false) : Snd g N e where
  pe := fun C x h => (pe C x h).1
  pt := fun C x h _ => tt_val (pe C x h).1 (pe C x h).2
  pa := fun C xs h => no ((li xs).symm.trans h)
  pi := fun C tg x h => no ((it tg x).symm.trans h)
  pw := fun C op xs pos h => no ((pe C _ h).2)
theorem Snd.itr {g : G} {N : List Str} {e : E} (pi : ∀ {cm : Bool} {X : Cx} {sc : Scope} {cur : Cur} {W : WX}, Cxt X N sc cm cur g W → ∀ tg x, mE g N cm e sc (.it tg x) = true → PI X tg x (Ti X.K cur g W e))
    (li : ∀ {cm : Bool} {sc : Scope} xs, mE g N cm e sc (.li xs) = false) (ex : ∀ {cm : Bool} {sc : Scope} x, mE g N cm e sc (.ex x) = false) : Snd g N e where
  pe := fun C x h => no ((ex x).symm.trans h)
  pt := fun C x h _ => no ((ex x).symm.trans h)
  pa := fun C xs h => no ((li xs).symm.trans h)
  pi := pi
  pw := fun C op xs pos h => no ((ex _).symm.trans h)
variable {g : G} {N : List Str}
theorem snd_var (hN : okN N = true) (i : Nat) : Snd g N (.var i) := .of (fun {cm X sc cur W} C x h => by
  cases x with
  | Name x p =>
    obtain ⟨h1, h2⟩ := bb (show (at_ N i x && visB sc x) = true from h)
    have h1 := at_ok h1
    exact ⟨t_var C h1 (visB_ok h2) ((okN_of hN).2 i x h1).1 ((okN_of hN).2 i x h1).2, rfl⟩
  | _ => exact no h) (fun _ => rfl) (fun _ _ => rfl)
theorem dbg_ok {x : Str} (h : (!(x == dbgs)) = true) : (x == ("__debug__" : Str)) = false := nb h
theorem snd_glob (y : Str) : Snd g N (.glob y) := .of (fun {cm X sc cur W} C x h => by
  cases x with
  | Name x p =>
    obtain ⟨h1, h2⟩ := bb (show (y == x && (glB sc x && !(x == dbgs))) = true from h)
    obtain ⟨h2, h3⟩ := bb h2
    obtain rfl := beq_iff_eq.mp h1
    exact ⟨t_glob C h2 (dbg_ok h3), rfl⟩
  | _ => exact no h) (fun _ => rfl) (fun _ _ => rfl)
theorem snd_int (n : Int) : Snd g N (.int n) := .of (fun {cm X sc cur W} C x h => by
  cases x with
  | Constant v k p =>
    cases v with
    | int m =>
      obtain rfl := beq_iff_eq.mp (show (n == m) = true from h)
      exact ⟨t_int, rfl⟩
    | _ => exact no h
  | _ => exact no h) (fun _ => rfl) (fun _ _ => rfl)
theorem snd_bl (n : Bool) : Snd g N (.bl n) := .of (fun {cm X sc cur W} C x h => by
  cases x with
  | Constant v k p =>
    cases v with
    | bool m =>
      obtain rfl := beq_iff_eq.mp (show (n == m) = true from h)
      exact ⟨t_bl, rfl⟩
    | _ => exact no h
  | _ => exact no h) (fun _ => rfl) (fun _ _ => rfl)
theorem snd_non : Snd g N .non := .of (fun {cm X sc cur W} C x h => by
  cases x with
  | Constant v k p =>
    cases v with
    | none => exact ⟨t_non, rfl⟩
    | _ => exact no h
  | _ => exact no h) (fun _ => rfl) (fun _ _ => rfl)
theorem snd_str (n : Str) : Snd g N (.str n) := .of (fun {cm X sc cur W} C x h => by
  cases x with
  | Constant v k p =>
    cases v with
    | str m =>
      obtain rfl := beq_iff_eq.mp (show (n == m) = true from h)
      exact ⟨t_str, rfl⟩
    | _ => exact no h
  | _ => exact no h) (fun _ => rfl) (fun _ _ => rfl)
theorem snd_bin {a b : E} (o : Op) (A : Snd g N a) (B : Snd g N b) : Snd g N (.bin o a b) := .of (fun {cm X sc cur W} C x h => by
  cases x with
  | BinOp x p y pos =>
    obtain ⟨h1, h2⟩ := bb (show (opM o p && (mE g N cm a sc (.ex x) && mE g N cm b sc (.ex y))) = true from h)
    obtain ⟨h2, h3⟩ := bb h2
    have ha := A.pe C x h2
    have hb := B.pe C y h3
    unfold opM at h1
    split at h1
    · exact ⟨t_add ha hb, rfl⟩
    · exact ⟨t_sub ha hb, rfl⟩
    · exact ⟨t_mul ha hb, rfl⟩
    · exact ⟨t_mod ha hb, rfl⟩
    · exact ⟨t_fdiv ha hb, rfl⟩
    · exact ⟨t_pow ha hb, rfl⟩
    · cases h1
  | _ => exact no h) (fun _ => rfl) (fun _ _ => rfl)
theorem snd_neg {a : E} (A : Snd g N a) : Snd g N (.neg a) := .of (fun {cm X sc cur W} C x h => by
  cases x with
  | UnaryOp op x pos =>
    cases op with
    | USub => exact ⟨t_neg (A.pe C x h), rfl⟩
    | _ => exact no h
  | _ => exact no h) (fun _ => rfl) (fun _ _ => rfl)
theorem snd_not {a : E} (A : Snd g N a) : Snd g N (.not a) where
  pe := fun {cm X sc cur W} C x h => by
    cases x with
    | UnaryOp op x pos =>
      cases op with
      | Not => exact t_not (A.pe C x (bb (show (notIf x && mE g N cm a sc (.ex x)) = true from h)).2)
      | _ => exact no h
    | _ => exact no h
  pt := fun {cm X sc cur W} C x h _ => by
    cases x with
    | UnaryOp op x pos =>
      cases op with
      | Not =>
        obtain ⟨h1, h2⟩ := bb (show (notIf x && mE g N cm a sc (.ex x)) = true from h)
        exact tt_not (A.pt C x h2 h1)
      | _ => exact no h
    | _ => exact no h
  pa := fun C xs h => no h
  pi := fun C tg x h => no h
  pw := fun C op xs pos h => no h
theorem snd_cmp {a b : E} (c : Cm) (A : Snd g N a) (B : Snd g N b) : Snd g N (.cmp c a b) := by
  have both : ∀ {cm : Bool} {X : Cx} {sc : Scope} {cur : Cur} {W : WX}, Cxt X N sc cm cur g W → ∀ x, mE g N cm (.cmp c a b) sc (.ex x) = true → PE X x (T X.K cur g W (.cmp c a b)) ∧ PT X x (Tt X.K cur g W (.cmp c a b)) := fun {cm X sc cur W} C x h => by
    cases x with
    | Compare x ops ys pos =>
      match ops, ys, h with
      | [op], [y], h =>
        obtain ⟨h1, h2⟩ := bb (show (decide (op = opB c) && (mE g N cm a sc (.ex x) && (mE g N cm b sc (.ex y) && !behindInMarks op y))) = true from h)
        obtain rfl := of_decide_eq_true h1
        obtain ⟨h2, h3⟩ := bb h2
        obtain ⟨h3, h4⟩ := bb h3
        exact ⟨t_cmp (cmpR C.hu c) (A.pe C x h2) (B.pe C y h3) (nb h4), tt_cmp (cmpR C.hu c) (A.pe C x h2) (B.pe C y h3) (nb h4)⟩
      | [], _, h => exact no h
      | [_], [], h => exact no h
      | [_], _ :: _ :: _, h => exact no h
      | _ :: _ :: _, _, h => exact no h
    | _ => exact no h
  exact ⟨fun C x h => (both C x h).1, fun C x h _ => (both C x h).2, fun C xs h => no h, fun C tg x h => no h, fun C op xs pos h => no h⟩
theorem snd_cmp2 {a b d : E} (c c' : Cm) (A : Snd g N a) (B : Snd g N b) (D : Snd g N d) : Snd g N (.cmp2 c c' a b d) := by
  have both : ∀ {cm : Bool} {X : Cx} {sc : Scope} {cur : Cur} {W : WX}, Cxt X N sc cm cur g W → ∀ x, mE g N cm (.cmp2 c c' a b d) sc (.ex x) = true → PE X x (T X.K cur g W (.cmp2 c c' a b d)) ∧ PT X x (Tt X.K cur g W (.cmp2 c c' a b d)) := fun {cm X sc cur W} C x h => by
    cases x with
    | Compare x ops ys pos =>
      match ops, ys, h with
      | [op, op'], [y, z], h =>
        obtain ⟨h1, h2⟩ := bb (show (decide (op = opB c) && (decide (op' = opB c') && (mE g N cm a sc (.ex x) && (mE g N cm b sc (.ex y) && (mE g N cm d sc (.ex z) && !lastMarks [op, op'] [y, z]))))) = true from h)
        obtain ⟨k2, h3⟩ := bb h2
        have e2 := of_decide_eq_true k2
        have e1 := of_decide_eq_true h1
        clear h2 k2 h1 h
        subst e1
        subst e2
        obtain ⟨h3, h4⟩ := bb h3
        obtain ⟨h4, h5⟩ := bb h4
        obtain ⟨h5, h6⟩ := bb h5
        exact ⟨t_cmp2 (cmpR C.hu c) (cmpR C.hu c') (A.pe C x h3) (B.pe C y h4) (D.pe C z h5) (nb h6), tt_cmp2 (cmpR C.hu c) (cmpR C.hu c') (A.pe C x h3) (B.pe C y h4) (D.pe C z h5) (nb h6)⟩
      | [], _, h => exact no h
      | [_], _, h => exact no h
      | [_, _], [], h => exact no h
      | [_, _], [_], h => exact no h
      | [_, _], _ :: _ :: _ :: _, h => exact no h
      | _ :: _ :: _ :: _, _, h => exact no h
    | _ => exact no h
  exact ⟨fun C x h => (both C x h).1, fun C x h _ => (both C x h).2, fun C xs h => no h, fun C tg x h => no h, fun C op xs pos h => no h⟩
theorem snd_one {a : E} (A : Snd g N a) : Snd g N (.one a) := by
  have both : ∀ {cm : Bool} {X : Cx} {sc : Scope} {cur : Cur} {W : WX}, Cxt X N sc cm cur g W → ∀ x, mE g N cm (.one a) sc (.ex x) = true → PE X x (T X.K cur g W (.one a)) ∧ PW X x (Tt X.K cur g W (.one a)) := fun {cm X sc cur W} C x h => by
    cases x with
    | BoolOp op xs pos =>
      match xs, h with
      | [x], h =>
        obtain ⟨h1, h2⟩ := bb (show (notIf x && mE g N cm a sc (.ex x)) = true from h)
        cases op with
        | And => exact ⟨t_one (A.pe C x h2), tw_and1 (A.pt C x h2 h1)⟩
        | Or => exact ⟨t_one (A.pe C x h2), tw_or1 (A.pt C x h2 h1)⟩
      | [], h => exact no h
      | _ :: _ :: _, h => exact no h
    | _ => exact no h
  exact ⟨fun C x h => (both C x h).1, fun C x h _ => (both C x h).2.pt, fun C xs h => no h, fun C tg x h => no h, fun C op xs pos h => (both C _ h).2⟩
theorem snd_land {a r : E} (A : Snd g N a) (B : Snd g N r) : Snd g N (.land a r) := by
  have both : ∀ {cm : Bool} {X : Cx} {sc : Scope} {cur : Cur} {W : WX}, Cxt X N sc cm cur g W → ∀ x, mE g N cm (.land a r) sc (.ex x) = true → PE X x (T X.K cur g W (.land a r)) ∧ PW X x (Tt X.K cur g W (.land a r)) := fun {cm X sc cur W} C x h => by
    cases x with
    | BoolOp op xs pos =>
      match op, xs, h with
      | .And, x :: y :: rest, h =>
        obtain ⟨h0, h1⟩ := bb (show (notIf x && (mE g N cm a sc (.ex x) && mE g N cm r sc (.ex (.BoolOp .And (y :: rest) pos)))) = true from h)
        obtain ⟨h1, h2⟩ := bb h1
        exact ⟨t_land (A.pe C x h1) (B.pe C _ h2), tw_and (A.pt C x h1 h0) (B.pw C _ _ _ h2)⟩
      | .And, [], h => exact no h
      | .And, [_], h => exact no h
      | .Or, _, h => exact no h
    | _ => exact no h
  exact ⟨fun C x h => (both C x h).1, fun C x h _ => (both C x h).2.pt, fun C xs h => no h, fun C tg x h => no h, fun C op xs pos h => (both C _ h).2⟩
theorem snd_lor {a r : E} (A : Snd g N a) (B : Snd g N r) : Snd g N (.lor a r) := by
  have both : ∀ {cm : Bool} {X : Cx} {sc : Scope} {cur : Cur} {W : WX}, Cxt X N sc cm cur g W → ∀ x, mE g N cm (.lor a r) sc (.ex x) = true → PE X x (T X.K cur g W (.lor a r)) ∧ PW X x (Tt X.K cur g W (.lor a r)) := fun {cm X sc cur W} C x h => by
    cases x with
    | BoolOp op xs pos =>
      match op, xs, h with
      | .Or, x :: y :: rest, h =>
        obtain ⟨h0, h1⟩ := bb (show (notIf x && (mE g N cm a sc (.ex x) && mE g N cm r sc (.ex (.BoolOp .Or (y :: rest) pos)))) = true from h)
        obtain ⟨h1, h2⟩ := bb h1
        exact ⟨t_lor (A.pe C x h1) (B.pe C _ h2), tw_or (A.pt C x h1 h0) (B.pw C _ _ _ h2)⟩
      | .Or, [], h => exact no h
      | .Or, [_], h => exact no h
      | .And, _, h => exact no h
    | _ => exact no h
  exact ⟨fun C x h => (both C x h).1, fun C x h _ => (both C x h).2.pt, fun C xs h => no h, fun C tg x h => no h, fun C op xs pos h => (both C _ h).2⟩
theorem snd_ife {c a b : E} (Cc : Snd g N c) (A : Snd g N a) (B : Snd g N b) : Snd g N (.ife c a b) := by
  have one : ∀ {cm : Bool} {X : Cx} {sc : Scope} {cur : Cur} {W : WX}, Cxt X N sc cm cur g W → ∀ x, mE g N cm (.ife c a b) sc (.ex x) = true → PE X x (T X.K cur g W (.ife c a b)) ∧ notIf x = false := fun {cm X sc cur W} C x h => by
    cases x with
    | IfExp z x y pos =>
      obtain ⟨h1, h2⟩ := bb (show ((notIf z && mE g N cm c sc (.ex z)) && (mE g N cm a sc (.ex x) && mE g N cm b sc (.ex y))) = true from h)
      obtain ⟨h3, h4⟩ := bb h1
      obtain ⟨h5, h6⟩ := bb h2
      exact ⟨t_ife (Cc.pt C z h4 h3) (A.pe C x h5) (B.pe C y h6), rfl⟩
    | _ => exact no h
  exact ⟨fun C x h => (one C x h).1, fun C x h hn => no ((one C x h).2.symm.trans hn), fun C xs h => no h, fun C tg x h => no h, fun C op xs pos h => no h⟩
theorem Snd.arg {e : E} (pa : ∀ {cm : Bool} {X : Cx} {sc : Scope} {cur : Cur} {W : WX}, Cxt X N sc cm cur g W → ∀ xs, mE g N cm e sc (.li xs) = true → PA X xs (Ta X.K cur g W e))
    (ex : ∀ {cm : Bool} {sc : Scope} x, mE g N cm e sc (.ex x) = false) (it : ∀ {cm : Bool} {sc : Scope} tg x, mE g N cm e sc (.it tg x) = false) : Snd g N e where
  pe := fun C x h => no ((ex x).symm.trans h)
  pt := fun C x h _ => no ((ex x).symm.trans h)
  pa := pa
  pi := fun C tg x h => no ((it tg x).symm.trans h)
  pw := fun C op xs pos h => no ((ex _).symm.trans h)
theorem snd_nil : Snd g N .nil := .arg (fun {cm X sc cur W} C xs h => by
  cases xs with
  | nil => exact ta_nil
  | cons x xs => exact no h) (fun _ => rfl) (fun _ _ => rfl)
theorem snd_cons {a r : E} (A : Snd g N a) (B : Snd g N r) : Snd g N (.cons a r) := .arg (fun {cm X sc cur W} C xs h => by
  cases xs with
  | nil => exact no h
  | cons x xs =>
    obtain ⟨h1, h2⟩ := bb (show (notStar x && (mE g N cm a sc (.ex x) && mE g N cm r sc (.li xs))) = true from h)
    obtain ⟨h2, h3⟩ := bb h2
    exact ta_cons h1 (A.pe C x h2) (B.pa C xs h3)) (fun _ => rfl) (fun _ _ => rfl)
theorem snd_tup {a : E} (A : Snd g N a) : Snd g N (.tup a) := .of (fun {cm X sc cur W} C x h => by
  cases x with
  | Tuple xs k pos => exact ⟨t_tup (A.pa C xs h), rfl⟩
  | _ => exact no h) (fun _ => rfl) (fun _ _ => rfl)
theorem snd_lst {a : E} (A : Snd g N a) : Snd g N (.lst a) := .of (fun {cm X sc cur W} C x h => by
  cases x with
  | List xs pos => exact ⟨t_lst (A.pa C xs h), rfl⟩
  | _ => exact no h) (fun _ => rfl) (fun _ _ => rfl)
theorem fnM_ok {k : Nat} {f : Str} (h : fnM g k f = true) : ∃ F, g.fns[k]? = some (f, F) := by
  unfold fnM at h
  split at h
  · rename_i p e
    obtain ⟨n, F⟩ := p
    obtain rfl := beq_iff_eq.mp (show (n == f) = true from h)
    exact ⟨F, e⟩
  · cases h
theorem snd_call {a : E} (k : Nat) (A : Snd g N a) : Snd g N (.call k a) := .of (fun {cm X sc cur W} C x h => by
  cases x with
  | Call f xs kw pos =>
    cases f with
    | Name f p =>
      match xs, kw, h with
      | x :: xs, [], h =>
        obtain ⟨h1, h2⟩ := bb (show (cm && (fnM g k f && (glB sc f && (!(f == dbgs) && (notStar x && (xs.all notStar && mE g N cm a sc (.li (x :: xs)))))))) = true from h)
        obtain ⟨h2, h3⟩ := bb h2
        obtain ⟨h3, h4⟩ := bb h3
        obtain ⟨h4, h5⟩ := bb h4
        obtain ⟨h5, h6⟩ := bb h5
        obtain ⟨h6, h7⟩ := bb h6
        obtain ⟨F, hF⟩ := fnM_ok h2
        exact ⟨t_call C h1 hF h3 (dbg_ok h4) h5 (all_plain h6) (A.pa C _ h7), rfl⟩
      | [], _, h => exact no h
      | _ :: _, _ :: _, h => exact no h
    | _ => exact no h
  | _ => exact no h) (fun _ => rfl) (fun _ _ => rfl)
theorem snd_bf {a : E} (f : Bf) (A : Snd g N a) : Snd g N (.bf f a) := .of (fun {cm X sc cur W} C x h => by
  cases x with
  | Call y xs kw pos =>
    cases y with
    | Name y p =>
      match xs, kw, h with
      | [x], [], h =>
        obtain ⟨h1, h2⟩ := bb (show (isNm (bfName f) y && (glB sc y && (notStar x && (mE g N cm a sc (.ex x) && bfOk cm f)))) = true from h)
        obtain ⟨h2, g3⟩ := bb h2
        obtain ⟨h3, g4⟩ := bb g3
        obtain ⟨h4, h5⟩ := bb g4
        have e1 := nmS h1
        clear h h1 g3 g4
        subst e1
        have ha := A.pe C x h4
        cases f with
        | len => exact ⟨t_len C h2 h3 ha, rfl⟩
        | int => exact ⟨t_toint C h2 h3 ha, rfl⟩
        | str => exact ⟨t_tostr C h2 h3 ha, rfl⟩
        | tuple => exact ⟨t_totup C h2 h3 ha, rfl⟩
        | list => exact ⟨t_tolst C h2 h3 ha, rfl⟩
        | sum => exact ⟨t_sum C h5 h2 h3 ha, rfl⟩
        | sorted => exact no h5
      | [], _, h => exact no h
      | [_], _ :: _, h => exact no h
      | _ :: _ :: _, _, h => exact no h
    | _ => exact no h
  | _ => exact no h) (fun _ => rfl) (fun _ _ => rfl)
theorem snd_max2 {a b : E} (A : Snd g N a) (B : Snd g N b) : Snd g N (.max2 a b) := .of (fun {cm X sc cur W} C x h => by
  cases x with
  | Call z xs kw pos =>
    cases z with
    | Name z p =>
      match xs, kw, h with
      | [x, y], [], h =>
        obtain ⟨h0, h1⟩ := bb (show (cm && (isNm "max" z && (glB sc z && (notStar x && (notStar y && (mE g N cm a sc (.ex x) && mE g N cm b sc (.ex y))))))) = true from h)
        obtain ⟨h1, h2⟩ := bb h1
        obtain ⟨h2, h3⟩ := bb h2
        obtain ⟨h3, h4⟩ := bb h3
        obtain ⟨h4, h5⟩ := bb h4
        obtain ⟨h5, h6⟩ := bb h5
        have e1 := nmS h1
        clear h h1
        subst e1
        exact ⟨t_max2 C h0 h2 h3 h4 (A.pe C x h5) (B.pe C y h6), rfl⟩
      | [], _, h => exact no h
      | [_], _, h => exact no h
      | [_, _], _ :: _, h => exact no h
      | _ :: _ :: _ :: _, _, h => exact no h
    | _ => exact no h
  | _ => exact no h) (fun _ => rfl) (fun _ _ => rfl)
theorem snd_min2 {a b : E} (A : Snd g N a) (B : Snd g N b) : Snd g N (.min2 a b) := .of (fun {cm X sc cur W} C x h => by
  cases x with
  | Call z xs kw pos =>
    cases z with
    | Name z p =>
      match xs, kw, h with
      | [x, y], [], h =>
        obtain ⟨h0, h1⟩ := bb (show (cm && (isNm "min" z && (glB sc z && (notStar x && (notStar y && (mE g N cm a sc (.ex x) && mE g N cm b sc (.ex y))))))) = true from h)
        obtain ⟨h1, h2⟩ := bb h1
        obtain ⟨h2, h3⟩ := bb h2
        obtain ⟨h3, h4⟩ := bb h3
        obtain ⟨h4, h5⟩ := bb h4
        obtain ⟨h5, h6⟩ := bb h5
        have e1 := nmS h1
        clear h h1
        subst e1
        exact ⟨t_min2 C h0 h2 h3 h4 (A.pe C x h5) (B.pe C y h6), rfl⟩
      | [], _, h => exact no h
      | [_], _, h => exact no h
      | [_, _], _ :: _, h => exact no h
      | _ :: _ :: _ :: _, _, h => exact no h
    | _ => exact no h
  | _ => exact no h) (fun _ => rfl) (fun _ _ => rfl)
end Vi

set_option maxRecDepth 100000
set_option maxHeartbeats 4000000
namespace Vi
open PySem PySem.Spec PyProof.Rows L2
variable {g : G} {N : List Str}
theorem snd_isi {a : E} (t : Ty) (A : Snd g N a) : Snd g N (.isi t a) := .of (fun {cm X sc cur W} C x h => by
  cases x with
  | Call z xs kw pos =>
    cases z with
    | Name z p =>
      match xs, kw, h with
      | [x, y], [], h =>
        cases y with
        | Name y q =>
          obtain ⟨h0, h1⟩ := bb (show (isNm "isinstance" z && (isNm (Str.ofString (tyName t)) y && (glB sc z && (glB sc y && (notStar x && mE g N cm a sc (.ex x)))))) = true from h)
          obtain ⟨h1, g2⟩ := bb h1
          obtain ⟨h2, g3⟩ := bb g2
          obtain ⟨h3, g4⟩ := bb g3
          obtain ⟨h4, h5⟩ := bb g4
          have e0 := nmS h0
          have e1 := nmS h1
          clear h h0 h1 g2 g3 g4
          subst e0
          subst e1
          exact ⟨t_isi C t h2 h3 h4 (A.pe C x h5), rfl⟩
        | _ => exact no h
      | [], _, h => exact no h
      | [_], _, h => exact no h
      | [_, y], _ :: _, h => cases y <;> exact no h
      | [_, y, _], _, h => cases y <;> exact no h
      | _ :: y :: _ :: _ :: _, _, h => cases y <;> exact no h
    | _ => exact no h
  | _ => exact no h) (fun _ => rfl) (fun _ _ => rfl)
theorem snd_isx (hN : okN N = true) (i : Nat) (c : Str) : Snd g N (.isx i c) := .of (fun {cm X sc cur W} C x h => by
  cases x with
  | Call z xs kw pos =>
    cases z with
    | Name z p =>
      match xs, kw, h with
      | [x, y], [], h =>
        cases x with
        | Name x q =>
          cases y with
          | Name y q2 =>
            obtain ⟨h0, h1⟩ := bb (show (isNm "isinstance" z && (isNm c y && (glB sc z && (glB sc y && (at_ N i x && (visB sc x && !(y == dbgs))))))) = true from h)
            obtain ⟨h1, h2⟩ := bb h1
            obtain ⟨h2, h3⟩ := bb h2
            obtain ⟨h3, h4⟩ := bb h3
            obtain ⟨h4, h5⟩ := bb h4
            obtain ⟨h5, h6⟩ := bb h5
            have h4 := at_ok h4
            have e0 := nmS h0
            have e1 := nmS h1
            clear h h0 h1
            subst e0
            subst e1
            exact ⟨t_isx C h4 (visB_ok h5) ((okN_of hN).2 i x h4).1 ((okN_of hN).2 i x h4).2 h2 h3 (dbg_ok h6), rfl⟩
          | _ => exact no h
        | _ => exact no h
      | [], _, h => exact no h
      | [x], _, h => cases x <;> exact no h
      | [x, y], _ :: _, h => cases x <;> cases y <;> exact no h
      | x :: y :: _ :: _, _, h => cases x <;> cases y <;> exact no h
    | _ => exact no h
  | _ => exact no h) (fun _ => rfl) (fun _ _ => rfl)
theorem snd_idx {a b : E} (A : Snd g N a) (B : Snd g N b) : Snd g N (.idx a b) := .of (fun {cm X sc cur W} C x h => by
  cases x with
  | Subscript x y pos =>
    obtain ⟨h1, h2⟩ := bb (show (plainIx y && (mE g N cm a sc (.ex x) && mE g N cm b sc (.ex y))) = true from h)
    obtain ⟨h2, h3⟩ := bb h2
    exact ⟨t_idx h1 (A.pe C x h2) (B.pe C y h3), rfl⟩
  | _ => exact no h) (fun _ => rfl) (fun _ _ => rfl)
def slM (g : G) (N : List Str) (cm : Bool) (sc : Scope) (lo : E) : Option Expr → Bool
  | none => match lo with | .miss => true | _ => false
  | some y => !isMiss lo && mE g N cm lo sc (.ex y)
theorem to_of {cm : Bool} {X : Cx} {sc : Scope} {cur : Cur} {W : WX} {lo : E} (A : Snd g N lo) (C : Cxt X N sc cm cur g W) {x : Option Expr} (h : slM g N cm sc lo x = true) : PO X x (To X.K cur g W lo) := by
  cases x with
  | none =>
    cases lo with
    | miss => exact to_miss
    | _ => exact no h
  | some y =>
    obtain ⟨h1, h2⟩ := bb (show (!isMiss lo && mE g N cm lo sc (.ex y)) = true from h)
    exact to_some (nb h1) (A.pe C y h2)
theorem snd_slc {a lo hi : E} (A : Snd g N a) (L : Snd g N lo) (H : Snd g N hi) : Snd g N (.slc a lo hi) := .of (fun {cm X sc cur W} C x h => by
  cases x with
  | Subscript x y pos =>
    cases y with
    | Slice xlo xhi st p =>
      cases st with
      | none =>
        obtain ⟨h1, h2⟩ := bb (show (mE g N cm a sc (.ex x) && ((match (generalizing := false) xlo with | none => (match (generalizing := false) lo with | .miss => true | _ => false) | some y => !isMiss lo && mE g N cm lo sc (.ex y)) && (match (generalizing := false) xhi with | none => (match (generalizing := false) hi with | .miss => true | _ => false) | some y => !isMiss hi && mE g N cm hi sc (.ex y)))) = true from h)
        obtain ⟨h3, h4⟩ := bb h2
        refine ⟨t_slc (A.pe C x h1) (to_of L C ?_) (to_of H C ?_), rfl⟩
        · cases xlo <;> exact h3
        · cases xhi <;> exact h4
      | some _ => exact no h
    | _ => exact no h
  | _ => exact no h) (fun _ => rfl) (fun _ _ => rfl)
theorem snd_rev {a : E} (A : Snd g N a) : Snd g N (.rev a) := .of (fun {cm X sc cur W} C x h => by
  cases x with
  | Subscript x y pos =>
    cases y with
    | Slice xlo xhi st p =>
      match xlo, xhi, st, h with
      | none, none, some z, h =>
        cases z with
        | UnaryOp op z p2 =>
          cases op with
          | USub =>
            cases z with
            | Constant v k p3 =>
              cases v with
              | int n =>
                obtain ⟨h1, h2⟩ := bb (show (n == 1 && mE g N cm a sc (.ex x)) = true from h)
                obtain rfl := beq_iff_eq.mp h1
                exact ⟨t_rev (A.pe C x h2), rfl⟩
              | _ => exact no h
            | _ => exact no h
          | _ => exact no h
        | _ => exact no h
      | none, none, none, h => exact no h
      | some _, _, _, h => exact no h
      | none, some _, _, h => exact no h
    | _ => exact no h
  | _ => exact no h) (fun _ => rfl) (fun _ _ => rfl)
theorem snd_range1 {a : E} (A : Snd g N a) : Snd g N (.range1 a) := .itr (fun {cm X sc cur W} C tg x h => by
  cases x with
  | Call z xs kw pos =>
    cases z with
    | Name z p =>
      match xs, kw, h with
      | [x], [], h =>
        obtain ⟨h1, h2⟩ := bb (show (isNm "range" z && (glB sc z && (notStar x && mE g N cm a sc (.ex x)))) = true from h)
        obtain ⟨h2, h3⟩ := bb h2
        obtain ⟨h3, h4⟩ := bb h3
        have e1 := nmS h1
        clear h h1
        subst e1
        exact ti_range1 C h2 h3 (A.pe C x h4)
      | [], _, h => exact no h
      | [_], _ :: _, h => exact no h
      | _ :: _ :: _, _, h => exact no h
    | _ => exact no h
  | _ => exact no h) (fun _ => rfl) (fun _ => rfl)
theorem snd_range2 {a b : E} (A : Snd g N a) (B : Snd g N b) : Snd g N (.range2 a b) := .itr (fun {cm X sc cur W} C tg x h => by
  cases x with
  | Call z xs kw pos =>
    cases z with
    | Name z p =>
      match xs, kw, h with
      | [x, y], [], h =>
        obtain ⟨h1, h2⟩ := bb (show (isNm "range" z && (glB sc z && (notStar x && (notStar y && (mE g N cm a sc (.ex x) && mE g N cm b sc (.ex y)))))) = true from h)
        obtain ⟨h2, h3⟩ := bb h2
        obtain ⟨h3, h4⟩ := bb h3
        obtain ⟨h4, h5⟩ := bb h4
        obtain ⟨h5, h6⟩ := bb h5
        have e1 := nmS h1
        clear h h1
        subst e1
        exact ti_range2 C h2 h3 h4 (A.pe C x h5) (B.pe C y h6)
      | [], _, h => exact no h
      | [_], _, h => exact no h
      | [_, _], _ :: _, h => exact no h
      | _ :: _ :: _ :: _, _, h => exact no h
    | _ => exact no h
  | _ => exact no h) (fun _ => rfl) (fun _ => rfl)
theorem snd_range3 {a b c : E} (A : Snd g N a) (B : Snd g N b) (Cc : Snd g N c) : Snd g N (.range3 a b c) := .itr (fun {cm X sc cur W} C tg x h => by
  cases x with
  | Call z xs kw pos =>
    cases z with
    | Name z p =>
      match xs, kw, h with
      | [x, y, w], [], h =>
        obtain ⟨h1, h2⟩ := bb (show (isNm "range" z && (glB sc z && (notStar x && (notStar y && (notStar w && (mE g N cm a sc (.ex x) && (mE g N cm b sc (.ex y) && mE g N cm c sc (.ex w)))))))) = true from h)
        obtain ⟨h2, h3⟩ := bb h2
        obtain ⟨h3, h4⟩ := bb h3
        obtain ⟨h4, h5⟩ := bb h4
        obtain ⟨h5, h6⟩ := bb h5
        obtain ⟨h6, h7⟩ := bb h6
        obtain ⟨h7, h8⟩ := bb h7
        have e1 := nmS h1
        clear h h1
        subst e1
        exact ti_range3 C h2 h3 h4 h5 (A.pe C x h6) (B.pe C y h7) (Cc.pe C w h8)
      | [], _, h => exact no h
      | [_], _, h => exact no h
      | [_, _], _, h => exact no h
      | [_, _, _], _ :: _, h => exact no h
      | _ :: _ :: _ :: _ :: _, _, h => exact no h
    | _ => exact no h
  | _ => exact no h) (fun _ => rfl) (fun _ => rfl)
theorem snd_enum {a : E} (A : Snd g N a) : Snd g N (.enum a) := .itr (fun {cm X sc cur W} C tg x h => by
  cases x with
  | Call z xs kw pos =>
    cases z with
    | Name z p =>
      match xs, kw, h with
      | [x], [], h =>
        obtain ⟨h0, h1⟩ := bb (show (isTup tg && (isNm "enumerate" z && (glB sc z && (notStar x && mE g N cm a sc (.ex x))))) = true from h)
        obtain ⟨h1, h2⟩ := bb h1
        obtain ⟨h2, h3⟩ := bb h2
        obtain ⟨h3, h4⟩ := bb h3
        have e1 := nmS h1
        clear h h1
        subst e1
        cases tg with
        | Tuple es k p2 => exact ti_enum C h2 h3 (A.pe C x h4)
        | _ => exact no h0
      | [], _, h => exact no h
      | [_], _ :: _, h => exact no h
      | _ :: _ :: _, _, h => exact no h
    | _ => exact no h
  | _ => exact no h) (fun _ => rfl) (fun _ => rfl)
theorem snd_zip {a b : E} (A : Snd g N a) (B : Snd g N b) : Snd g N (.zip a b) := .itr (fun {cm X sc cur W} C tg x h => by
  cases x with
  | Call z xs kw pos =>
    cases z with
    | Name z p =>
      match xs, kw, h with
      | [x, y], [], h =>
        obtain ⟨h0, h1⟩ := bb (show (isTup tg && (isNm "zip" z && (glB sc z && (notStar x && (notStar y && (mE g N cm a sc (.ex x) && mE g N cm b sc (.ex y))))))) = true from h)
        obtain ⟨h1, h2⟩ := bb h1
        obtain ⟨h2, h3⟩ := bb h2
        obtain ⟨h3, h4⟩ := bb h3
        obtain ⟨h4, h5⟩ := bb h4
        obtain ⟨h5, h6⟩ := bb h5
        have e1 := nmS h1
        clear h h1
        subst e1
        cases tg with
        | Tuple es k p2 => exact ti_zip C h2 h3 h4 (A.pe C x h5) (B.pe C y h6)
        | _ => exact no h0
      | [], _, h => exact no h
      | [_], _, h => exact no h
      | [_, _], _ :: _, h => exact no h
      | _ :: _ :: _ :: _, _, h => exact no h
    | _ => exact no h
  | _ => exact no h) (fun _ => rfl) (fun _ => rfl)
/-- what is walked -/
theorem snd_iter {cm : Bool} {X : Cx} {sc : Scope} {cur : Cur} {W : WX} {e : E} (A : Snd g N e) (C : Cxt X N sc cm cur g W) {tg x : Expr} (h : (if isIt e then mE g N cm e sc (.it tg x) else mE g N cm e sc (.ex x)) = true) : PI X tg x (Ti X.K cur g W e) := by
  by_cases hi : isIt e = true
  · rw [if_pos hi] at h
    exact A.pi C tg x h
  · rw [if_neg hi] at h
    exact ti_val (A.pe C x h)
def ifM (g : G) (N : List Str) (cm : Bool) (sc : Scope) (c : E) : List Expr → Bool
  | [] => isMiss c
  | [x] => !isMiss c && (notIf x && mE g N cm c sc (.ex x))
  | _ => false
theorem snd_comp {it c el : E} (tg : Tg) (I : Snd g N it) (Cc : Snd g N c) (L : Snd g N el) : Snd g N (.comp tg it c el) := .of (fun {cm X sc cur W} C x h => by
  cases x with
  | ListComp elt gs scope pos =>
    match gs, h with
    | [⟨tgE, iter, ifs, k⟩], h =>
      obtain ⟨h0, h1⟩ := bb (show (cm && (decide (k = 0) && (tgM N scope tg tgE && (blkC N sc scope (ownOf tg tgE) && (notSet iter && ((if isIt it then mE g N cm it sc (.it tgE iter) else mE g N cm it sc (.ex iter)) &&
        ((match (generalizing := false) ifs with | [] => isMiss c | [x] => !isMiss c && (notIf x && mE g N cm c (relS scope sc) (.ex x)) | _ => false) && mE g N cm el (relS scope sc) (.ex elt)))))))) = true from h)
      obtain ⟨h1, h2⟩ := bb h1
      obtain ⟨h2, h3⟩ := bb h2
      obtain ⟨h3, h4⟩ := bb h3
      obtain ⟨h4, h5⟩ := bb h4
      obtain ⟨h5, h6⟩ := bb h5
      obtain ⟨h6, h7⟩ := bb h6
      have e1 := of_decide_eq_true h1
      clear h h1
      subst e1
      refine ⟨t_comp C h0 (own_slots h2) (snd_iter I C h5) (blkOk_by h3) (fun s H c cl fp => pg_blk C h0 h2 s H c cl fp) (fun s H c9 cl fp => ?_) (fun s H c9 cl fp => L.pe (C.blk s H scope c9 cl fp) elt h7) (notSet_ok h4 _), rfl⟩
      unfold tTs
      match ifs, h6 with
      | [], h6 =>
        rw [if_pos (show isMiss c = true from h6)]
        exact pts_nil
      | [x], h6 =>
        obtain ⟨h8, h9⟩ := bb (show (!isMiss c && (notIf x && mE g N cm c (relS scope sc) (.ex x))) = true from h6)
        obtain ⟨h9, h10⟩ := bb h9
        rw [if_neg (show ¬ isMiss c = true by rw [nb h8]; exact Bool.false_ne_true)]
        exact pts_one (Cc.pt (C.blk s H scope c9 cl fp) x h10 h9)
      | _ :: _ :: _, h6 => exact no h6
    | [], h => exact no h
    | ⟨_, _, _, _⟩ :: _ :: _, h => exact no h
  | _ => exact no h) (fun _ => rfl) (fun _ _ => rfl)
theorem snd_no {e : E} (h : ∀ cm sc n, mE g N cm e sc n = false) : Snd g N e where
  pe := fun C x h9 => no ((h _ _ _).symm.trans h9)
  pt := fun C x h9 _ => no ((h _ _ _).symm.trans h9)
  pa := fun C xs h9 => no ((h _ _ _).symm.trans h9)
  pi := fun C tg x h9 => no ((h _ _ _).symm.trans h9)
  pw := fun C op xs pos h9 => no ((h _ _ _).symm.trans h9)
section
variable {X : Cx} {sc : Scope} {cm : Bool} {cur : Cur} {W : WX} {a b : Expr} {ea eb : E} {ap cp : Pos}
theorem firstAt_ok {x : D} : ∀ {l : List D} {k j : Nat}, firstAt x l k = some j → ∃ i z, j = k + i ∧ l[i]? = some z ∧ PyData.eqv z x = true ∧ ∀ (m : Nat) (z' : D), m < i → l[m]? = some z' → PyData.eqv z' x = false
  | [], _, _, h => by cases h
  | y :: r, k, j, h => by
    have h : (if PyData.eqv y x then some k else firstAt x r (k + 1)) = some j := h
    by_cases e : PyData.eqv y x = true
    · rw [if_pos e] at h
      cases h
      exact ⟨0, y, rfl, rfl, e, fun m z' hm => by omega⟩
    · rw [if_neg e] at h
      obtain ⟨i, z, h1, h2, h3, h4⟩ := firstAt_ok h
      refine ⟨i + 1, z, by omega, h2, h3, fun m z' hm hz => ?_⟩
      cases m with
      | zero =>
        cases hz
        exact Bool.eq_false_iff.mpr e
      | succ m => exact h4 m z' (by omega) hz
theorem strsOf_eq : ∀ {l : List D} {ys : List Str}, strsOf l = some ys → l = ys.map .str
  | [], ys, h => by cases h; rfl
  | .str z :: r, ys, h => by
    have h : (strsOf r).map (z :: ·) = some ys := h
    cases e : strsOf r with
    | none => rw [e] at h; cases h
    | some ms =>
      rw [e] at h
      cases h
      rw [strsOf_eq e]
      rfl
  | .none :: _, _, h => by cases h
  | .bool _ :: _, _, h => by cases h
  | .int _ :: _, _, h => by cases h
  | .list _ :: _, _, h => by cases h
  | .tuple _ :: _, _, h => by cases h
  | .dict _ :: _, _, h => by cases h
theorem RepL.strs {K : PySem.W.Frag} {H : Hp} {P : Addr → Prop} : ∀ {ys : List Str} {xs : List V}, RepL K H P (ys.map .str) xs → xs = ys.map V.str
  | [], _, h => by cases h; rfl
  | y :: ys, _, h => by
    cases h with
    | cons a b =>
      cases a
      rw [RepL.strs b]
      rfl
theorem hb_of {x : Expr} {nm : Str} {env : PySem.Env} (h : notCall x = true) : attributeBase x nm env (eval x env) = eval x env := by
  cases x <;> first | rfl | exact no h
theorem t_met (C : Cxt X N sc cm cur g W) (m : Mth) (hl : (ap.endLine == cp.line) = true) (hx : notCall a = true) (hs : notStar b = true) (ha : PE X a (T X.K cur g W ea)) (hb : PE X b (T X.K cur g W eb)) :
    PE X (.Call (.Attribute a (mtName m) ap) [b] [] cp) (T X.K cur g W (.met m ea eb)) := by
  have hst := star1 (X := X) hs
  have two : ∀ {σ : L2.St} {H : Hp} {Q : VK} {TY : V → Hp → Prop} {Gl : V → V → Hp → Prop} {O : Addr → Prop} {ρ : REnv}, StRel X.K cur O ρ σ H → Fin X.K O ρ σ H W Q (ev g (.met m ea eb) ρ) →
      (∀ k dep x v H1, StRel X.K cur O ρ σ H1 → Same H H1 → Res X.K O ρ σ H H1 k dep x v → recv m x = true → TY v H1) →
      (∀ k dep x v kb db y u H0 H1 H2, StRel X.K cur O ρ σ H0 → StRel X.K cur O ρ σ H1 → StRel X.K cur O ρ σ H2 → Same H0 H1 → Same H1 H2 → Res X.K O ρ σ H0 H2 k dep x v → Res X.K O ρ σ H1 H2 kb db y u → ∀ d, meth m x y = some d → Fin X.K O ρ σ H2 W Q (some (.ok .plain [] d)) → Gl v u H2) →
      T X.K cur g W ea σ H fun v H1 => TY v H1 ∧ T X.K cur g W eb σ H1 fun u H2 => Gl v u H2 := fun {σ H Q TY Gl O ρ} R h hty hk => by
    refine T.bind (k := fun _ _ x => if recv m x then Rs.map2 (ev g eb ρ) fun _ _ y => (meth m x y).map fun d => .ok .plain [] d else none) R h fun k dep x v H1 R1 s1 r1 q => ?_
    by_cases hr : recv m x = true
    · rw [if_pos hr] at q
      refine ⟨hty k dep x v H1 R1 s1 r1 hr, T.bind R1 q fun kb db y u H2 R2 s2 r2 q => ?_⟩
      cases e : meth m x y with
      | none => rw [e] at q; exact q.elim
      | some d =>
        rw [e] at q
        exact hk k dep x v kb db y u H H1 H2 R R1 R2 s1 s2 (r1.stay s2) r2 d e q
    · rw [if_neg hr] at q; exact q.elim
  have tyS : ∀ {σ : L2.St} {O : Addr → Prop} {ρ : REnv} {H H1 : Hp} {k : Kd} {dep : List Nat} {x : D} {v : V}, Res X.K O ρ σ H H1 k dep x v → (∃ z, x = .str z) → tyV X.K "str" v H1 := fun r ⟨z, e⟩ => by
    subst e
    obtain rfl := r.str
    exact rfl
  have tyL : ∀ {σ : L2.St} {O : Addr → Prop} {ρ : REnv} {H H1 : Hp} {k : Kd} {dep : List Nat} {x : D} {v : V}, StRel X.K cur O ρ σ H → Same H H1 → Res X.K O ρ σ H H1 k dep x v → (∃ l, x = .list l) → tyV X.K "list" v H1 := fun R s r ⟨l, e⟩ => by
    subst e
    obtain ⟨p, xs, rfl, hq, _⟩ := r.list R s
    exact .inl ⟨rfl, xs, hq⟩
  cases m with
  | sindex =>
    refine T.imp (pe_bm PySem.F.plainAttrs_str PySem.F.slot_str_index PySem.F.type_str_index mt_sindex ha (pa_cons hb pa_nil hst) (hb_of hx) (by rw [hst]; rfl) hl hst rfl) ?_
    rintro σ H Q ⟨O, ρ, R, h⟩
    refine two R h (fun k dep x v H1 R1 s1 r1 hr => tyS r1 (by cases x <;> first | exact ⟨_, rfl⟩ | exact no hr)) fun k dep x v kb db y u H0 H1 H2 R0 R1 R2 s1 s2 r1 r2 d e q => ?_
    cases x with
    | str z =>
      cases y with
      | str w =>
        obtain rfl := r1.str
        obtain rfl := r2.str
        have e : (Builtin.Str.occurrences z w 0 z.length 1).head?.map (fun i => PyData.int (i : Nat)) = some d := e
        cases e2 : Builtin.Str.occurrences z w 0 z.length 1 with
        | nil => rw [e2] at e; cases e
        | cons i rest =>
          rw [e2] at e
          cases e
          exact ⟨z, w, i, rest, rfl, rfl, e2, Fin.val q (.int _)⟩
      | _ => cases e
    | _ => cases y <;> cases e
  | lindex =>
    refine T.imp (pe_bm PySem.F.plainAttrs_list PySem.F.slot_list_index PySem.F.type_list_index (mt_indexD C.hu) ha (pa_cons hb pa_nil hst) (hb_of hx) (by rw [hst]; rfl) hl hst rfl) ?_
    rintro σ H Q ⟨O, ρ, R, h⟩
    refine two R h (fun k dep x v H1 R1 s1 r1 hr => tyL R s1 r1 (by cases x <;> first | exact ⟨_, rfl⟩ | exact no hr)) fun k dep x v kb db y u H0 H1 H2 R0 R1 R2 s1 s2 r1 r2 d e q => ?_
    cases x with
    | list l =>
      have e : (if SeqAt.shaped y && SeqAt.shaped (.list l) then (firstAt y l 0).map fun k => PyData.int k else none) = some d := e
      by_cases hz : (SeqAt.shaped y && SeqAt.shaped (.list l)) = true
      · rw [if_pos hz] at e
        obtain ⟨z1, z2⟩ := bb hz
        cases e2 : firstAt y l 0 with
        | none => rw [e2] at e; cases e
        | some j =>
          rw [e2] at e
          cases e
          obtain ⟨i, z, h1, h2, h3, h4⟩ := firstAt_ok e2
          obtain rfl : j = i := by omega
          have p1 := (r1.rep R0 (same_trans s1 s2)).dp
          have p2 := (r2.rep R1 s2).dp
          obtain ⟨p, xs, rfl, hq, _⟩ := r1.list R0 (same_trans s1 s2)
          exact ⟨p, u, y, l, j, z, rfl, rfl, p1, p2, z2, z1, h2, h3, h4, Fin.val q (.int _)⟩
      · rw [if_neg hz] at e; cases e
    | _ => cases e
  | join =>
    refine T.imp (pe_bm PySem.F.plainAttrs_str PySem.F.slot_str_join PySem.F.type_str_join mt_join ha (pa_cons hb pa_nil hst) (hb_of hx) (by rw [hst]; rfl) hl hst rfl) ?_
    rintro σ H Q ⟨O, ρ, R, h⟩
    refine two R h (fun k dep x v H1 R1 s1 r1 hr => tyS r1 (by cases x <;> first | exact ⟨_, rfl⟩ | exact no hr)) fun k dep x v kb db y u H0 H1 H2 R0 R1 R2 s1 s2 r1 r2 d e q => ?_
    cases x with
    | str z =>
      cases y with
      | list l =>
        obtain rfl := r1.str
        have e : ((strsOf l).bind fun ys => if (ys.map (·.length)).sum + ys.length * z.length ≤ 16777216 then some (PyData.str (Txt.join z ys)) else none) = some d := e
        cases e2 : strsOf l with
        | none => rw [e2] at e; cases e
        | some ys =>
          rw [e2] at e
          have e : (if (ys.map (·.length)).sum + ys.length * z.length ≤ 16777216 then some (PyData.str (Txt.join z ys)) else none) = some d := e
          by_cases hz : (ys.map (·.length)).sum + ys.length * z.length ≤ 16777216
          · rw [if_pos hz] at e
            cases e
            obtain ⟨p, xs, rfl, hq, rl⟩ := r2.list R1 s2
            rw [strsOf_eq e2] at rl
            rw [rl.strs] at hq
            exact ⟨z, p, ys, rfl, rfl, .inl hq, hz, Fin.val q (.str _)⟩
          · rw [if_neg hz] at e; cases e
      | _ => cases e
    | _ => cases y <;> cases e
  | lcount =>
    refine T.imp (pe_bm PySem.F.plainAttrs_list PySem.F.slot_list_count PySem.F.type_list_count mt_lcount ha (pa_cons hb pa_nil hst) (hb_of hx) (by rw [hst]; rfl) hl hst rfl) ?_
    rintro σ H Q ⟨O, ρ, R, h⟩
    refine two R h (fun k dep x v H1 R1 s1 r1 hr => tyL R s1 r1 (by cases x <;> first | exact ⟨_, rfl⟩ | exact no hr)) fun k dep x v kb db y u H0 H1 H2 R0 R1 R2 s1 s2 r1 r2 d e q => ?_
    cases x with
    | list l =>
      cases y with
      | int i =>
        obtain rfl := r2.int
        have e : (intsOf l).map (fun ns => PyData.int (ns.count i : Nat)) = some d := e
        cases e2 : intsOf l with
        | none => rw [e2] at e; cases e
        | some ns =>
          rw [e2] at e
          cases e
          obtain ⟨p, xs, rfl, hq, rl⟩ := r1.list R0 (same_trans s1 s2)
          rw [RepL.ints_of rl e2] at hq
          exact ⟨p, ns, i, rfl, rfl, hq, Fin.val q (.int _)⟩
      | _ => cases e
    | _ => cases y <;> cases e
end
theorem snd_met {a b : E} (m : Mth) (A : Snd g N a) (B : Snd g N b) : Snd g N (.met m a b) := .of (fun {cm X sc cur W} C x h => by
  cases x with
  | Call z xs kw pos =>
    cases z with
    | Attribute x nm ap =>
      match xs, kw, h with
      | [y], [], h =>
        obtain ⟨h1, h2⟩ := bb (show (isNm (mtName m) nm && ((ap.endLine == pos.line) && (notCall x && (notStar y && (mE g N cm a sc (.ex x) && mE g N cm b sc (.ex y)))))) = true from h)
        obtain ⟨h2, h3⟩ := bb h2
        obtain ⟨h3, h4⟩ := bb h3
        obtain ⟨h4, h5⟩ := bb h4
        obtain ⟨h5, h6⟩ := bb h5
        have e1 := nmS h1
        clear h h1
        subst e1
        exact ⟨t_met C m h2 h3 h4 (A.pe C x h5) (B.pe C y h6), rfl⟩
      | [], _, h => exact no h
      | [_], _ :: _, h => exact no h
      | _ :: _ :: _, _, h => exact no h
    | _ => exact no h
  | _ => exact no h) (fun _ => rfl) (fun _ _ => rfl)
/-- THE LAW OF EXPRESSIONS -/
theorem snd (hN : okN N = true) : ∀ e : E, Snd g N e
  | .var i => snd_var hN i
  | .glob y => snd_glob y
  | .int n => snd_int n
  | .bl n => snd_bl n
  | .non => snd_non
  | .str n => snd_str n
  | .miss => snd_no fun _ _ _ => rfl
  | .bin o a b => snd_bin o (snd hN a) (snd hN b)
  | .neg a => snd_neg (snd hN a)
  | .cmp c a b => snd_cmp c (snd hN a) (snd hN b)
  | .cmp2 c c' a b d => snd_cmp2 c c' (snd hN a) (snd hN b) (snd hN d)
  | .land a r => snd_land (snd hN a) (snd hN r)
  | .lor a r => snd_lor (snd hN a) (snd hN r)
  | .one a => snd_one (snd hN a)
  | .not a => snd_not (snd hN a)
  | .ife c a b => snd_ife (snd hN c) (snd hN a) (snd hN b)
  | .nil => snd_nil
  | .cons a r => snd_cons (snd hN a) (snd hN r)
  | .tup a => snd_tup (snd hN a)
  | .lst a => snd_lst (snd hN a)
  | .call k a => snd_call k (snd hN a)
  | .bf f a => snd_bf f (snd hN a)
  | .max2 a b => snd_max2 (snd hN a) (snd hN b)
  | .min2 a b => snd_min2 (snd hN a) (snd hN b)
  | .isi t a => snd_isi t (snd hN a)
  | .isx i c => snd_isx hN i c
  | .idx a i => snd_idx (snd hN a) (snd hN i)
  | .slc a lo hi => snd_slc (snd hN a) (snd hN lo) (snd hN hi)
  | .rev a => snd_rev (snd hN a)
  | .met m a b => snd_met m (snd hN a) (snd hN b)
  | .comp tg it c el => snd_comp tg (snd hN it) (snd hN c) (snd hN el)
  | .range1 a => snd_range1 (snd hN a)
  | .range2 a b => snd_range2 (snd hN a) (snd hN b)
  | .range3 a b c => snd_range3 (snd hN a) (snd hN b) (snd hN c)
  | .zip a b => snd_zip (snd hN a) (snd hN b)
  | .enum a => snd_enum (snd hN a)
end Vi

set_option maxRecDepth 100000
set_option maxHeartbeats 4000000
namespace Vi
open PySem PySem.Spec PyProof.Rows L2
inductive Ns where
  | st (x : Stmt) | bl (xs : List Stmt)
def lcl (sc : Scope) (x : Str) : Bool := match sc.names.lookup x with
  | some .local => true
  | _ => false
theorem lcl_ok {sc : Scope} {x : Str} (h : lcl sc x = true) : sc.names.lookup x = some .local := by
  unfold lcl at h
  split at h
  · assumption
  · cases h
/-- a comprehension that stores its value itself -/
def swB (sc : Scope) (x : Str) (p : Pos) : Expr → Bool
  | .ListComp _ _ scope vp => lcl sc x && (p.line == vp.line && !(scope.names.any fun (n, k) => n == x && (k == .local || k == .cell)))
  | _ => false
def noSc : Expr → Bool
  | .SetComp _ _ _ _ => false
  | .DictComp _ _ _ _ _ => false
  | _ => true
def notTp : Expr → Bool
  | .Tuple _ _ _ => false
  | _ => true
def isCall : Expr → Bool
  | .Call _ _ _ _ => true
  | _ => false
def parB (sc : Scope) (x y : Str) (p1 p2 : Pos) (u v : Expr) : Bool := lcl sc x && (lcl sc y && (p2.line == p1.line && (!(x == y) && (notStar u && (notStar v && (!([u, v].all (foldedForSure 8)) && !([u, v].all (constantsAlone 8))))))))
section
variable (g : G) (N : List Str) (cm : Bool) (sc : Scope)
def mSet (i : Nat) (e : E) : Stmt → Bool
  | .Assign [.Name x p] v _ => at_ N i x && (locB sc x && (mE g N cm e sc (.ex v) && noSc v))
  | _ => false
def mSet2 (i j : Nat) (e : E) : Stmt → Bool
  | .Assign [.Tuple [.Name x _, .Name y _] _ _] v _ => cm && (at_ N i x && (at_ N j y && (locB sc x && (locB sc y && (mE g N cm e sc (.ex v) && notTp v)))))
  | _ => false
def mPar (i j : Nat) (a b : E) : Stmt → Bool
  | .Assign [.Tuple [.Name x p1, .Name y p2] _ _] (.Tuple [u, v] _ _) _ => cm && (at_ N i x && (at_ N j y && (parB sc x y p1 p2 u v && (mE g N cm a sc (.ex u) && mE g N cm b sc (.ex v)))))
  | _ => false
def mSeti (i : Nat) (k e : E) : Stmt → Bool
  | .Assign [.Subscript (.Name x _) z _] v _ => at_ N i x && (visB sc x && (plainIx z && (mE g N cm e sc (.ex v) && mE g N cm k sc (.ex z))))
  | _ => false
def mSwap (i : Nat) (a b c d : E) : Stmt → Bool
  | .Assign [.Tuple [.Subscript (.Name x _) k _, .Subscript (.Name y _) l _] _ _] (.Tuple [u, v] _ _) _ => cm && (at_ N i x && (y == x && (visB sc x && (plainIx k && (plainIx l && (notStar u && (notStar v && (mE g N cm a sc (.ex k) && (mE g N cm b sc (.ex l) && (mE g N cm (.idx (.var i) c) sc (.ex u) && mE g N cm (.idx (.var i) d) sc (.ex v)))))))))))
  | _ => false
def mAug (i : Nat) (o : Op) (e : E) : Stmt → Bool
  | .AugAssign (.Name x _) .Add v _ => decide (o = .add) && (at_ N i x && (locB sc x && mE g N cm e sc (.ex v)))
  | _ => false
def mApp (i : Nat) (e : E) : Stmt → Bool
  | .Expr (.Call (.Attribute (.Name x _) m ap) [v] [] cp) _ => isNm "append" m && (at_ N i x && (visB sc x && (notStar v && ((ap.endLine == cp.line) && mE g N cm e sc (.ex v)))))
  | _ => false
def mExt (i : Nat) (e : E) : Stmt → Bool
  | .Expr (.Call (.Attribute (.Name x _) m ap) [v] [] cp) _ => isNm "extend" m && (at_ N i x && (visB sc x && (notStar v && ((ap.endLine == cp.line) && mE g N cm e sc (.ex v)))))
  | _ => false
def mPop (i : Nat) : Stmt → Bool
  | .Expr (.Call (.Attribute (.Name x _) m ap) [] [] cp) _ => isNm "pop" m && (at_ N i x && (visB sc x && (ap.endLine == cp.line)))
  | _ => false
def mExpr (e : E) : Stmt → Bool
  | .Expr v _ => isCall v && mE g N cm e sc (.ex v)
  | _ => false
def mRet (e : E) : Stmt → Bool
  | .Return (some v) _ => mE g N cm e sc (.ex v)
  | _ => false
def mRetn : Stmt → Bool
  | .Return none _ => true
  | _ => false
def mRaise (c : Str) : Stmt → Bool
  | .Raise (some (.Call (.Name x _) [.Constant (.str _) _ _] [] _)) none _ => cm && (isNm c x && (g.rai.contains c && (glB sc x && !(x == dbgs))))
  | _ => false
def mDoc : Stmt → Bool
  | .Expr (.Constant (.str _) _ _) _ => true
  | _ => false
def ifP : Stmt → Option (Expr × List Stmt × List Stmt)
  | .If z xs ys _ => some (z, xs, ys)
  | _ => none
def whP : Stmt → Option (Expr × List Stmt)
  | .While z xs [] _ => some (z, xs)
  | _ => none
def forP : Stmt → Option (Expr × Expr × List Stmt)
  | .For t it xs [] _ => some (t, it, xs)
  | _ => none
def tryP : Stmt → Option (List Stmt × Str × Option Str × List Stmt)
  | .Try xs [.ExceptHandler (some (.Name y _)) nm (b0 :: ys) _] [] [] _ => some (xs, y, nm, b0 :: ys)
  | _ => none
def mNm : Option Nat → Option Str → Bool
  | some j, some n => at_ N j n && lcl sc n
  | none, none => true
  | _, _ => false
end
def mS (g : G) (N : List Str) (cm : Bool) : S → Scope → Ns → Bool
  | .nil, _, .bl xs => xs.isEmpty
  | .cons s r, sc, .bl xs => (match xs with
    | [] => false
    | x :: xs => mS g N cm s sc (.st x) && mS g N cm r sc (.bl xs))
  | .pass, _, .st x => mDoc x
  | .set i e, sc, .st x => mSet g N cm sc i e x
  | .set2 i j e, sc, .st x => mSet2 g N cm sc i j e x
  | .par i j a b, sc, .st x => mPar g N cm sc i j a b x
  | .seti i k e, sc, .st x => mSeti g N cm sc i k e x
  | .swap i a b c d, sc, .st x => mSwap g N cm sc i a b c d x
  | .aug i o e, sc, .st x => mAug g N cm sc i o e x
  | .app i e, sc, .st x => mApp g N cm sc i e x
  | .ext i e, sc, .st x => mExt g N cm sc i e x
  | .pop i, sc, .st x => mPop N sc i x
  | .expr e, sc, .st x => mExpr g N cm sc e x
  | .ret e, sc, .st x => mRet g N cm sc e x
  | .retn, _, .st x => mRetn x
  | .raise c, sc, .st x => mRaise g cm sc c x
  | .ite c a b, sc, .st x => (match ifP x with
    | some (z, xs, ys) => notIf z && (mE g N cm c sc (.ex z) && (mS g N cm a sc (.bl xs) && mS g N cm b sc (.bl ys)))
    | none => false)
  | .whl c b, sc, .st x => (match whP x with
    | some (z, xs) => notIf z && (mE g N cm c sc (.ex z) && mS g N cm b sc (.bl xs))
    | none => false)
  | .for_ tg e b, sc, .st x => (match forP x with
    | some (t, it, xs) => cm && (tgM N sc tg t && (notSet it && ((if isIt e then mE g N cm e sc (.it t it) else mE g N cm e sc (.ex it)) && mS g N cm b sc (.bl xs))))
    | none => false)
  | .tryx b x i su, sc, .st z => (match tryP z with
    | some (xs, y, nm, ys) => cm && (y == x && (glB sc y && (!(y == dbgs) && ((g.exm.any fun p => p.1.2 == y) && (mNm N sc i nm && (mS g N cm b sc (.bl xs) && mS g N false su sc (.bl ys)))))))
    | none => false)
  | _, _, _ => false
variable {g : G} {N : List Str}
structure SndS (g : G) (N : List Str) (s : S) : Prop where
  st : ∀ {cm : Bool} {X : Cx} {sc : Scope} {cur : Cur} {W : WX}, Cxs X N sc cm cur g W → (cm = true → cur = none) → ∀ x, mS g N cm s sc (.st x) = true → PS X x (Ts X.K cur g W s)
  bl : ∀ {cm : Bool} {X : Cx} {sc : Scope} {cur : Cur} {W : WX}, Cxs X N sc cm cur g W → (cm = true → cur = none) → ∀ xs, mS g N cm s sc (.bl xs) = true → PSs X xs (Ts X.K cur g W s)
theorem SndS.one {s : S} (st : ∀ {cm : Bool} {X : Cx} {sc : Scope} {cur : Cur} {W : WX}, Cxs X N sc cm cur g W → (cm = true → cur = none) → ∀ x, mS g N cm s sc (.st x) = true → PS X x (Ts X.K cur g W s))
    (bl : ∀ {cm : Bool} {sc : Scope} xs, mS g N cm s sc (.bl xs) = false) : SndS g N s := ⟨st, fun _ _ xs h => no ((bl xs).symm.trans h)⟩
theorem s_nil : SndS g N .nil := ⟨fun C hc x h => no h, fun C hc xs h => by
  cases xs with
  | nil => exact p_nil
  | cons x xs => exact no h⟩
theorem s_cons {s r : S} (A : SndS g N s) (B : SndS g N r) : SndS g N (.cons s r) := ⟨fun C hc x h => no h, fun {cm X sc cur W} C hc xs h => by
  cases xs with
  | nil => exact no h
  | cons x xs =>
    obtain ⟨h1, h2⟩ := bb (show (mS g N cm s sc (.st x) && mS g N cm r sc (.bl xs)) = true from h)
    exact p_cons (A.st C hc x h1) (B.bl C hc xs h2)⟩
theorem s_pass : SndS g N .pass := .one (fun {cm X sc cur W} C hc x h => by
  have h : mDoc x = true := h
  unfold mDoc at h
  split at h
  · exact p_pass
  · cases h) (fun _ => rfl)
theorem noSc_ok {v : Expr} {x : Str} {p : Pos} {l : Nat} {env : PySem.Env} {sc : Scope} (h : noSc v = true) (hs : env.scope = sc) (hk : sc.kind = .function) (hw : swB sc x p v = false) : swapsWith v (some (.Name x p)) l env = pure false := by
  cases v with
  | ListComp elt gs scope vp =>
    subst hs
    have hb : env.blockKind = .function := by unfold Env.blockKind; rw [hk]; rfl
    have hw : (lcl env.scope x && (p.line == vp.line && !(scope.names.any fun (n, k) => n == x && (k == .local || k == .cell)))) = false := hw
    have e : (env.kindOf x == some NameKind.local) = lcl env.scope x := by
      show (env.scope.names.lookup x == some NameKind.local) = _
      unfold lcl
      cases env.scope.names.lookup x with
      | none => rfl
      | some k => cases k <;> rfl
    show (pure (env.blockKind == .function && env.kindOf x == some .local && p.line == vp.line && !(scope.names.any fun (n, k) => n == x && (k == .local || k == .cell))) : Sem Bool) = pure false
    rw [e, hb, show ((ScopeKind.function == ScopeKind.function) && lcl env.scope x) = lcl env.scope x from rfl, Bool.and_assoc, hw]
  | SetComp _ _ _ _ => exact no h
  | DictComp _ _ _ _ _ => exact no h
  | _ => rfl
theorem swB_ok {elt : Expr} {gs : List Comprehension} {scope : Scope} {vp : Pos} {x : Str} {p : Pos} {l : Nat} {env : PySem.Env} {sc : Scope} (hs : env.scope = sc) (hk : sc.kind = .function) (hw : swB sc x p (.ListComp elt gs scope vp) = true) : swapsWith (.ListComp elt gs scope vp) (some (.Name x p)) l env = pure true := by
  subst hs
  obtain ⟨h1, h2⟩ := bb (show (lcl env.scope x && (p.line == vp.line && !(scope.names.any fun (n, k) => n == x && (k == .local || k == .cell)))) = true from hw)
  obtain ⟨h2, h3⟩ := bb h2
  exact sw_true hk (lcl_ok h1) h2 (nb h3)
/-- a comprehension's short form -/
theorem comp_of {e : E} {cm : Bool} {sc : Scope} {elt : Expr} {gs : List Comprehension} {scope : Scope} {vp : Pos} (h : mE g N cm e sc (.ex (.ListComp elt gs scope vp)) = true) : ∃ tg it c el, e = .comp tg it c el := by
  cases e with
  | comp tg it c el => exact ⟨tg, it, c, el, rfl⟩
  | _ => exact no h
theorem s_set (hN : okN N = true) (i : Nat) (e : E) : SndS g N (.set i e) := .one (fun {cm X sc cur W} C hc x h => by
  have h : mSet g N cm sc i e x = true := h
  unfold mSet at h
  split at h
  · rename_i x p v pos hq
    obtain ⟨h1, h2⟩ := bb h
    obtain ⟨h2, h3⟩ := bb h2
    obtain ⟨h3, h4⟩ := bb h3
    refine p_asg C (at_ok h1) ?_
    cases hw : swB sc x p v with
    | false => exact ps_set (by rw [C.hN]; exact C.nd) (by rw [C.hN]; exact at_ok h1) (by rw [C.hsc]; exact locB_ok h2) ((snd hN e).pe C.toCxt v h3) (noSc_ok h4 C.hsc C.knd hw) (.inl (C.fnT x))
    | true =>
      cases v with
      | ListComp elt gs scope vp =>
        obtain ⟨tg, it, c, el, rfl⟩ := comp_of h3
        match gs, h3, hw with
        | [⟨tgE, iter, ifs, k⟩], h3, hw =>
          obtain ⟨h0, k1⟩ := bb (show (cm && (decide (k = 0) && (tgM N scope tg tgE && (blkC N sc scope (ownOf tg tgE) && (notSet iter && ((if isIt it then mE g N cm it sc (.it tgE iter) else mE g N cm it sc (.ex iter)) &&
            ((match (generalizing := false) ifs with | [] => isMiss c | [x] => !isMiss c && (notIf x && mE g N cm c (relS scope sc) (.ex x)) | _ => false) && mE g N cm el (relS scope sc) (.ex elt)))))))) = true from h3)
          obtain ⟨k1, k2⟩ := bb k1
          obtain ⟨k2, k3⟩ := bb k2
          obtain ⟨k3, k4⟩ := bb k3
          obtain ⟨k4, k5⟩ := bb k4
          obtain ⟨k5, k6⟩ := bb k5
          obtain ⟨k6, k7⟩ := bb k6
          have e1 := of_decide_eq_true k1
          clear h3 k1 h
          subst e1
          refine p_setLc C.toCxt h0 (own_slots k2) (at_ok h1) (lcl_ok (bb (show (lcl sc x && (p.line == vp.line && !(scope.names.any fun (n, k) => n == x && (k == .local || k == .cell)))) = true from hw)).1) (swB_ok C.hsc C.knd hw) (snd_iter (snd hN it) C.toCxt k5) (blkOk_by k3) (fun s H c cl fp => pg_blk C.toCxt h0 k2 s H c cl fp) (fun s H c9 cl fp => ?_) (fun s H c9 cl fp => (snd hN el).pe (C.toCxt.blk s H scope c9 cl fp) elt k7) (notSet_ok k4 _)
          unfold tTs
          match ifs, k6 with
          | [], h6 =>
            rw [if_pos (show isMiss c = true from h6)]
            exact pts_nil
          | [x], h6 =>
            obtain ⟨h8, h9⟩ := bb (show (!isMiss c && (notIf x && mE g N cm c (relS scope sc) (.ex x))) = true from h6)
            obtain ⟨h9, h10⟩ := bb h9
            rw [if_neg (show ¬ isMiss c = true by rw [nb h8]; exact Bool.false_ne_true)]
            exact pts_one ((snd hN c).pt (C.toCxt.blk s H scope c9 cl fp) x h10 h9)
          | _ :: _ :: _, h6 => exact no h6
        | [], h3, hw => exact no h3
        | ⟨_, _, _, _⟩ :: _ :: _, h3, hw => exact no h3
      | _ => exact no hw
  · cases h) (fun _ => rfl)
theorem notTp_ok {t : Expr} {v : Expr} {env : PySem.Env} (h : notTp v = true) : swappedStores [t] v env = pure none := by
  cases v <;> first | exact no h | (cases t <;> rfl)
theorem tup_sw {es : List Expr} {k : Nat} {p : Pos} {v : Expr} {l : Nat} {env : PySem.Env} : swapsWithSole [.Tuple es k p] v l env = pure false := by
  cases v <;> rfl
theorem sub_sw {a b : Expr} {p : Pos} {v : Expr} {l : Nat} {env : PySem.Env} : swapsWithSole [.Subscript a b p] v l env = pure false := by
  cases v <;> rfl
theorem sub_sto {a b : Expr} {p : Pos} {v : Expr} {env : PySem.Env} : swappedStores [.Subscript a b p] v env = pure none := by
  cases v <;> rfl
theorem sub_as {a b : Expr} {p : Pos} {env : PySem.Env} (h : plainIx b = true) (v : Value) : assign (.Subscript a b p) env v = (do
      let ov ← holding [v] (eval a env)
      let iv ← holding [v, ov] (eval b env)
      standAt p
      holding [v, ov, iv] (setItem ov iv v)
      release [v, ov, iv] []) := by
  cases b <;> first | rfl | exact no h
theorem s_set2 (hN : okN N = true) (i j : Nat) (e : E) : SndS g N (.set2 i j e) := .one (fun {cm X sc cur W} C hc x h => by
  have h : mSet2 g N cm sc i j e x = true := h
  unfold mSet2 at h
  split at h
  · obtain ⟨h0, h1⟩ := bb h
    obtain ⟨h1, h2⟩ := bb h1
    obtain ⟨h2, h3⟩ := bb h2
    obtain ⟨h3, h4⟩ := bb h3
    obtain ⟨h4, h5⟩ := bb h4
    obtain ⟨h5, h6⟩ := bb h5
    exact p_set2 C h0 (at_ok h1) (at_ok h2) (locB_ok h3) (locB_ok h4) ((snd hN e).pe C.toCxt _ h5) tup_sw (notTp_ok h6)
  · cases h) (fun _ => rfl)
theorem par_ok {x y : Str} {p1 p2 p3 p4 : Pos} {k k2 : Nat} {u v : Expr} {env : PySem.Env} {sc : Scope} (hs : env.scope = sc) (hk : sc.kind = .function) (h : parB sc x y p1 p2 u v = true) :
    swappedStores [.Tuple [.Name x p1, .Name y p2] k p3] (.Tuple [u, v] k2 p4) env = pure (some [x, y]) := by
  subst hs
  have hb : env.blockKind = .function := by unfold Env.blockKind; rw [hk]; rfl
  obtain ⟨h1, h2⟩ := bb h
  obtain ⟨h2, h3⟩ := bb h2
  obtain ⟨h3, h4⟩ := bb h3
  obtain ⟨h4, h5⟩ := bb h4
  obtain ⟨h5, h6⟩ := bb h5
  obtain ⟨h6, h7⟩ := bb h6
  obtain ⟨h7, h8⟩ := bb h7
  have kx : env.kindOf x = some .local := lcl_ok h1
  have ky : env.kindOf y = some .local := lcl_ok h2
  have nxy : (x == y) = false := nb h4
  have nyx : (y == x) = false := by
    rw [beq_eq_false_iff_ne] at nxy ⊢
    exact fun e => nxy e.symm
  have e1 : (env.kindOf x == some NameKind.local && p1.line == p1.line) = true := by rw [kx]; simp
  have e2 : (env.kindOf y == some NameKind.local && p2.line == p1.line) = true := by rw [ky]; simpa using h3
  have n2 : [x, y].eraseDups = [x, y] := by
    simp [List.eraseDups_cons, nyx]
  unfold swappedStores
  simp only [List.filterMap_cons, List.filterMap_nil, List.head?_cons, Option.map_some, Option.getD_some, Expr.pos, e1, e2, if_true, n2, nb h7, nb h8, hb, List.length_cons, List.length_nil]
  rw [if_neg (by decide), if_neg (by cases u <;> first | exact no h5 | (cases v <;> first | exact no h6 | exact Bool.false_ne_true)), if_neg (by decide), if_neg Bool.false_ne_true, if_neg Bool.false_ne_true]
theorem s_par (hN : okN N = true) (i j : Nat) (a b : E) : SndS g N (.par i j a b) := .one (fun {cm X sc cur W} C hc x h => by
  have h : mPar g N cm sc i j a b x = true := h
  unfold mPar at h
  split at h
  · obtain ⟨h0, h1⟩ := bb h
    obtain ⟨h1, h2⟩ := bb h1
    obtain ⟨h2, h3⟩ := bb h2
    obtain ⟨h3, h4⟩ := bb h3
    obtain ⟨h4, h5⟩ := bb h4
    have hw := par_ok (p3 := by assumption) (p4 := by assumption) (k := by assumption) (k2 := by assumption) C.hsc C.knd h3
    obtain ⟨k1, k2⟩ := bb h3
    obtain ⟨k2, k3⟩ := bb k2
    obtain ⟨k3, k4⟩ := bb k3
    obtain ⟨k4, k5⟩ := bb k4
    obtain ⟨k5, k6⟩ := bb k5
    obtain ⟨k6, k7⟩ := bb k6
    have ei := at_ok h1
    have ej := at_ok h2
    have hij : i ≠ j := fun e => by
      subst e
      rw [ei] at ej
      cases ej
      exact absurd (nb k4) (by simp)
    exact p_par C h0 hij ei ej (lcl_ok k1) (lcl_ok k2) k5 k6 ((snd hN a).pe C.toCxt _ h4) ((snd hN b).pe C.toCxt _ h5) (par_ok C.hsc C.knd h3)
  · cases h) (fun _ => rfl)
end Vi

set_option maxRecDepth 100000
set_option maxHeartbeats 4000000
namespace Vi
open PySem PySem.Spec PyProof.Rows L2
variable {g : G} {N : List Str}
theorem at_dbg (hN : okN N = true) {i : Nat} {x : Str} (h : at_ N i x = true) : (x == ("__debug__" : Str)) = false ∧ (x == ("__classdict__" : Str)) = false := (okN_of hN).2 i x (at_ok h)
theorem s_seti (hN : okN N = true) (i : Nat) (k e : E) : SndS g N (.seti i k e) := .one (fun {cm X sc cur W} C hc x h => by
  have h : mSeti g N cm sc i k e x = true := h
  unfold mSeti at h
  split at h
  · obtain ⟨h0, h1⟩ := bb h
    obtain ⟨h1, h2⟩ := bb h1
    obtain ⟨h2, h3⟩ := bb h2
    obtain ⟨h3, h4⟩ := bb h3
    exact p_seti C (at_ok h0) (visB_ok h1) (at_dbg hN h0).1 (at_dbg hN h0).2 ((snd hN e).pe C.toCxt _ h3) ((snd hN k).pe C.toCxt _ h4) sub_sw sub_sto (sub_as h2)
  · cases h) (fun _ => rfl)
theorem sw_sto {x y : Str} {q1 q2 q3 q4 q5 q6 : Pos} {k l u v : Expr} {kt k2 : Nat} {env : PySem.Env} : swappedStores [.Tuple [.Subscript (.Name x q1) k q2, .Subscript (.Name y q3) l q4] kt q5] (.Tuple [u, v] k2 q6) env = pure none := by
  unfold swappedStores
  simp only [List.filterMap_cons, List.filterMap_nil, List.length_cons, List.length_nil]
  split
  · rfl
  · split
    · rfl
    · exact if_pos (by decide)
theorem s_swap (hN : okN N = true) (i : Nat) (a b c d : E) : SndS g N (.swap i a b c d) := .one (fun {cm X sc cur W} C hc x h => by
  have h : mSwap g N cm sc i a b c d x = true := h
  unfold mSwap at h
  split at h
  · obtain ⟨h0, h1⟩ := bb h
    obtain ⟨h1, h2⟩ := bb h1
    obtain ⟨h2, h3⟩ := bb h2
    obtain ⟨h3, h4⟩ := bb h3
    obtain ⟨h4, h5⟩ := bb h4
    obtain ⟨h5, h6⟩ := bb h5
    obtain ⟨h6, h7⟩ := bb h6
    obtain ⟨h7, h8⟩ := bb h7
    obtain ⟨h8, h9⟩ := bb h8
    obtain ⟨h9, h10⟩ := bb h9
    obtain ⟨h10, h11⟩ := bb h10
    have e := beq_iff_eq.mp h2
    subst e
    exact p_swap C h0 (at_ok h1) (visB_ok h3) (at_dbg hN h1).1 (at_dbg hN h1).2 ((snd hN (.idx (.var i) c)).pe C.toCxt _ h10) ((snd hN (.idx (.var i) d)).pe C.toCxt _ h11) ((snd hN a).pe C.toCxt _ h8) ((snd hN b).pe C.toCxt _ h9) h6 h7 tup_sw sw_sto
      (fun p p' z hz v => by
        rcases hz with rfl | rfl
        · exact sub_as h4 v
        · exact sub_as h5 v)
  · cases h) (fun _ => rfl)
theorem s_aug (hN : okN N = true) (i : Nat) (o : Op) (e : E) : SndS g N (.aug i o e) := .one (fun {cm X sc cur W} C hc x h => by
  have h : mAug g N cm sc i o e x = true := h
  unfold mAug at h
  split at h
  · obtain ⟨h0, h1⟩ := bb h
    obtain ⟨h1, h2⟩ := bb h1
    obtain ⟨h2, h3⟩ := bb h2
    have e0 := of_decide_eq_true h0
    subst e0
    exact p_aug C (at_ok h1) (locB_ok h2) ((snd hN e).pe C.toCxt _ h3)
  · cases h) (fun _ => rfl)
theorem s_app (hN : okN N = true) (i : Nat) (e : E) : SndS g N (.app i e) := .one (fun {cm X sc cur W} C hc x h => by
  have h : mApp g N cm sc i e x = true := h
  unfold mApp at h
  split at h
  · obtain ⟨h0, h1⟩ := bb h
    obtain ⟨h1, h2⟩ := bb h1
    obtain ⟨h2, h3⟩ := bb h2
    obtain ⟨h3, h4⟩ := bb h3
    obtain ⟨h4, h5⟩ := bb h4
    have e0 := nmS h0
    subst e0
    exact p_app C (at_ok h1) (visB_ok h2) (at_dbg hN h1).1 (at_dbg hN h1).2 h3 ((snd hN e).pe C.toCxt _ h5) h4 rfl
  · cases h) (fun _ => rfl)
theorem s_ext (hN : okN N = true) (i : Nat) (e : E) : SndS g N (.ext i e) := .one (fun {cm X sc cur W} C hc x h => by
  have h : mExt g N cm sc i e x = true := h
  unfold mExt at h
  split at h
  · obtain ⟨h0, h1⟩ := bb h
    obtain ⟨h1, h2⟩ := bb h1
    obtain ⟨h2, h3⟩ := bb h2
    obtain ⟨h3, h4⟩ := bb h3
    obtain ⟨h4, h5⟩ := bb h4
    have e0 := nmS h0
    subst e0
    exact p_ext C (at_ok h1) (visB_ok h2) (at_dbg hN h1).1 (at_dbg hN h1).2 h3 ((snd hN e).pe C.toCxt _ h5) h4 rfl
  · cases h) (fun _ => rfl)
theorem s_pop (hN : okN N = true) (i : Nat) : SndS g N (.pop i) := .one (fun {cm X sc cur W} C hc x h => by
  have h : mPop N sc i x = true := h
  unfold mPop at h
  split at h
  · obtain ⟨h0, h1⟩ := bb h
    obtain ⟨h1, h2⟩ := bb h1
    obtain ⟨h2, h3⟩ := bb h2
    have e0 := nmS h0
    subst e0
    exact p_pop C (at_ok h1) (visB_ok h2) (at_dbg hN h1).1 (at_dbg hN h1).2 h3 rfl
  · cases h) (fun _ => rfl)
theorem s_expr (hN : okN N = true) (e : E) : SndS g N (.expr e) := .one (fun {cm X sc cur W} C hc x h => by
  have h : mExpr g N cm sc e x = true := h
  unfold mExpr at h
  split at h
  · obtain ⟨h0, h1⟩ := bb h
    refine p_expr ((snd hN e).pe C.toCxt _ h1) ?_
    unfold isCall at h0
    split at h0
    · rfl
    · cases h0
  · cases h) (fun _ => rfl)
theorem s_ret (hN : okN N = true) (e : E) : SndS g N (.ret e) := .one (fun {cm X sc cur W} C hc x h => by
  have h : mRet g N cm sc e x = true := h
  unfold mRet at h
  split at h
  · exact p_ret ((snd hN e).pe C.toCxt _ h)
  · cases h) (fun _ => rfl)
theorem s_retn : SndS g N .retn := .one (fun {cm X sc cur W} C hc x h => by
  have h : mRetn x = true := h
  unfold mRetn at h
  split at h
  · exact p_retn
  · cases h) (fun _ => rfl)
theorem s_raise (c : Str) : SndS g N (.raise c) := .one (fun {cm X sc cur W} C hc x h => by
  have h : mRaise g cm sc c x = true := h
  unfold mRaise at h
  split at h
  · obtain ⟨h0, h1⟩ := bb h
    obtain ⟨h1, h2⟩ := bb h1
    obtain ⟨h2, h3⟩ := bb h2
    obtain ⟨h3, h4⟩ := bb h3
    have e0 := nmS h1
    subst e0
    exact p_raise C h0 h2 h3 (dbg_ok h4)
  · cases h) (fun _ => rfl)
theorem ifP_ok {x : Stmt} {z : Expr} {xs ys : List Stmt} (h : ifP x = some (z, xs, ys)) : ∃ p, x = .If z xs ys p := by
  unfold ifP at h
  split at h
  · cases h; exact ⟨_, rfl⟩
  · cases h
theorem whP_ok {x : Stmt} {z : Expr} {xs : List Stmt} (h : whP x = some (z, xs)) : ∃ p, x = .While z xs [] p := by
  unfold whP at h
  split at h
  · cases h; exact ⟨_, rfl⟩
  · cases h
theorem forP_ok {x : Stmt} {t it : Expr} {xs : List Stmt} (h : forP x = some (t, it, xs)) : ∃ p, x = .For t it xs [] p := by
  unfold forP at h
  split at h
  · cases h; exact ⟨_, rfl⟩
  · cases h
theorem tryP_ok {x : Stmt} {xs ys : List Stmt} {y : Str} {nm : Option Str} (h : tryP x = some (xs, y, nm, ys)) : ∃ np p1 pos b0 zs, ys = b0 :: zs ∧ x = .Try xs [.ExceptHandler (some (.Name y np)) nm (b0 :: zs) p1] [] [] pos := by
  unfold tryP at h
  split at h
  · cases h; exact ⟨_, _, _, _, _, rfl, rfl⟩
  · cases h
theorem s_ite (hN : okN N = true) (c : E) {a b : S} (A : SndS g N a) (B : SndS g N b) : SndS g N (.ite c a b) := .one (fun {cm X sc cur W} C hc x h => by
  have h : (match ifP x with
    | some (z, xs, ys) => notIf z && (mE g N cm c sc (.ex z) && (mS g N cm a sc (.bl xs) && mS g N cm b sc (.bl ys)))
    | none => false) = true := h
  cases e : ifP x with
  | none => rw [e] at h; cases h
  | some t =>
    rw [e] at h
    obtain ⟨z, xs, ys⟩ := t
    obtain ⟨p, rfl⟩ := ifP_ok e
    obtain ⟨h1, h2⟩ := bb h
    obtain ⟨h2, h3⟩ := bb h2
    obtain ⟨h3, h4⟩ := bb h3
    exact p_if ((snd hN c).pt C.toCxt z h2 h1) (A.bl C hc xs h3) (B.bl C hc ys h4)) (fun _ => rfl)
theorem s_whl (hN : okN N = true) (c : E) {b : S} (B : SndS g N b) : SndS g N (.whl c b) := .one (fun {cm X sc cur W} C hc x h => by
  have h : (match whP x with
    | some (z, xs) => notIf z && (mE g N cm c sc (.ex z) && mS g N cm b sc (.bl xs))
    | none => false) = true := h
  cases e : whP x with
  | none => rw [e] at h; cases h
  | some t =>
    rw [e] at h
    obtain ⟨z, xs⟩ := t
    obtain ⟨p, rfl⟩ := whP_ok e
    obtain ⟨h1, h2⟩ := bb h
    obtain ⟨h2, h3⟩ := bb h2
    exact p_while C ((snd hN c).pt C.toCxt z h2 h1) (B.bl C hc xs h3)) (fun _ => rfl)
theorem s_for (hN : okN N = true) (tg : Tg) (it : E) {b : S} (B : SndS g N b) : SndS g N (.for_ tg it b) := .one (fun {cm X sc cur W} C hc x h => by
  have h : (match forP x with
    | some (t, z, xs) => cm && (tgM N sc tg t && (notSet z && ((if isIt it then mE g N cm it sc (.it t z) else mE g N cm it sc (.ex z)) && mS g N cm b sc (.bl xs))))
    | none => false) = true := h
  cases e : forP x with
  | none => rw [e] at h; cases h
  | some t =>
    rw [e] at h
    obtain ⟨t, z, xs⟩ := t
    obtain ⟨p, rfl⟩ := forP_ok e
    obtain ⟨h1, h2⟩ := bb h
    obtain ⟨h2, h3⟩ := bb h2
    obtain ⟨h3, h4⟩ := bb h3
    obtain ⟨h4, h5⟩ := bb h4
    exact p_for C h1 (snd_iter (snd hN it) C.toCxt h4) (pg_st C h1 h2) (B.bl C hc xs h5) (notSet_ok h3 _)) (fun _ => rfl)
theorem s_try (x : Str) (i : Option Nat) {b su : S} (B : SndS g N b) (U : SndS g N su) : SndS g N (.tryx b x i su) := .one (fun {cm X sc cur W} C hc z h => by
  have h : (match tryP z with
    | some (xs, y, nm, ys) => cm && (y == x && (glB sc y && (!(y == dbgs) && ((g.exm.any fun p => p.1.2 == y) && (mNm N sc i nm && (mS g N cm b sc (.bl xs) && mS g N false su sc (.bl ys)))))))
    | none => false) = true := h
  cases e : tryP z with
  | none => rw [e] at h; cases h
  | some t =>
    rw [e] at h
    obtain ⟨xs, y, nm, ys⟩ := t
    obtain ⟨np, p1, pos, b0, zs, rfl, rfl⟩ := tryP_ok e
    obtain ⟨h1, g2⟩ := bb h
    obtain ⟨h2, g3⟩ := bb g2
    obtain ⟨h3, g4⟩ := bb g3
    obtain ⟨h4, g5⟩ := bb g4
    obtain ⟨h5, g6⟩ := bb g5
    obtain ⟨h6, g7⟩ := bb g6
    obtain ⟨h7, h8⟩ := bb g7
    have e0 := beq_iff_eq.mp h2
    clear h e h2 g2 g3 g4 g5 g6 g7
    subst e0
    have hcur := hc h1
    have hb : ∀ X' W', Cxs X' N sc cm cur g W' → X'.K = X.K → X'.env = X.env → PSs X' xs (Ts X'.K cur g W' b) := fun X' W' C' _ _ => B.bl C' hc xs h7
    have hs : ∀ X' a c, Cxs X' N sc false (some (a, c)) g (fun _ _ _ _ => False) → X'.env = X.env → PSs X' (b0 :: zs) (Ts X'.K (some (a, c)) g (fun _ _ _ _ => False) su) := fun X' a c C' _ => U.bl C' (fun z => nomatch z) _ h8
    match i, nm, h6 with
    | some j, some n, h6 =>
      obtain ⟨k1, k2⟩ := bb (show (at_ N j n && lcl sc n) = true from h6)
      exact p_try C hcur (at_ok k1) (lcl_ok k2) h3 (dbg_ok h4) h5 hb hs
    | none, none, h6 => exact p_tryo C hcur h3 (dbg_ok h4) h5 hb hs
    | some _, none, h6 => exact no h6
    | none, some _, h6 => exact no h6) (fun _ => rfl)
/-- THE LAW OF STATEMENTS -/
theorem sndS (hN : okN N = true) : ∀ s : S, SndS g N s
  | .nil => s_nil
  | .cons s r => s_cons (sndS hN s) (sndS hN r)
  | .set i e => s_set hN i e
  | .set2 i j e => s_set2 hN i j e
  | .par i j a b => s_par hN i j a b
  | .seti i k e => s_seti hN i k e
  | .swap i a b c d => s_swap hN i a b c d
  | .aug i o e => s_aug hN i o e
  | .app i e => s_app hN i e
  | .ext i e => s_ext hN i e
  | .pop i => s_pop hN i
  | .expr e => s_expr hN e
  | .ret e => s_ret hN e
  | .retn => s_retn
  | .ite c a b => s_ite hN c (sndS hN a) (sndS hN b)
  | .whl c b => s_whl hN c (sndS hN b)
  | .for_ tg it b => s_for hN tg it (sndS hN b)
  | .raise c => s_raise c
  | .tryx b x i su => s_try x i (sndS hN b) (sndS hN su)
  | .pass => s_pass
end Vi

set_option maxRecDepth 100000
set_option maxHeartbeats 4000000
namespace Vi
open PySem PySem.Spec PyProof.Rows L2
/-- what a def does: n parameters, m names in all -/
noncomputable def runF (g : G) (n m : Nat) (b : S) : Fn := fun ds => if ds.length = n then (match ex g b (ds.map .val ++ List.replicate (m - n) .un) with
  | some (.rt d) => some (.ret d)
  | some (.rl l) => some (.lst l)
  | some (.nx _) => some (.ret .none)
  | some (.ex c _) => some (.ex c)
  | none => none) else none
/-- what a law's defs have in common -/
structure Wd (K : PySem.W.Frag) (mg : Str → Option Value) (g : G) : Prop where
  blt : ∀ x ∈ bltNames, mg x = none
  consts : ∀ (x : Str) (d : D), g.consts.lookup x = some d → ∃ v u, mg x = some u ∧ RelV v u ∧ ∀ H P, Rep K H P d v
  isk : ∀ (x c : Str) (b : Bool), g.isx.lookup (x, c) = some b → ∃ (v : V) (u : Value), ((mg c = some u) ∨ (mg c = none ∧ bootBuiltins c = some u ∧ c ≠ "__name__")) ∧ RelV v u ∧ (∀ z, RelV v z → z = u) ∧ PySem.W.kitOne K (.ref (He.ga K x)) u = some b
  rai : ∀ c ∈ g.rai, ∃ (B newId initId : String) (bmB : List Value), ExcBaseFacts B newId initId bmB ∧ PySem.W.excIn K (He.ga K c) bmB newId = true ∧ mg c = some (.ref (He.ga K c)) ∧ PySem.W.keepIn K (.ref (He.ga K c)) = true ∧
    PySem.W.subIn K (.ref (He.ga K c)) (.type "BaseException") = some true ∧ PySem.W.typeIn K (.ref (He.ga K c)) = some (.type "type")
  exk : ∀ x, (g.exm.any fun p => p.1.2 == x) = true → ∃ cv, (mg x = some cv ∨ (mg x = none ∧ bootBuiltins x = some cv ∧ x ≠ "__name__")) ∧ ∀ c b, g.exm.lookup (c, x) = some b → PySem.W.exmOne K (.ref (He.ga K c)) cv = some b
  exc : ∀ c x b, g.isx.lookup (c, x) = some b → ExcC K (He.ga K c)
/-- tables alike but for the defs that are called -/
def G.with (g : G) (fns : List (Str × Fn)) : G := { g with fns := fns }
/-- a def as it is known -/
structure Kn (P : Program) (w : World) (K : PySem.W.Frag) (mg : Str → Option Value) (base : Heap) (k : Nat) (nm : Str) (F : Fn) : Prop where
  ex : ∃ (a : Addr) (fd : FuncData) (ps : List Str), FnOk P w K mg base (L2.CX P w) k a fd ps (spF K F) ∧ mg nm = some (.ref a) ∧ PySem.W.keepIn K (.ref a) = true ∧ Binds K fd ps []
theorem Kn.mono {P : Program} {w : World} {K : PySem.W.Frag} {mg : Str → Option Value} {base : Heap} {j k : Nat} {nm : Str} {F : Fn} (h : Kn P w K mg base j nm F) (l : j ≤ k) : Kn P w K mg base k nm F := by
  obtain ⟨a, fd, ps, h1, h2⟩ := h.ex
  exact ⟨a, fd, ps, h1.mono l, h2⟩
theorem start_rel {K : PySem.W.Frag} {O : Addr → Prop} {H : Hp} {N : List Str} {n : Nat} {ds : List D} {vs : List V} (od : ∀ a, O a → H a ≠ none) (r : RepL K H (fun a => ¬ O a) ds vs) (hn : ds.length = n) :
    StRel K none O (ds.map .val ++ List.replicate (N.length - n) .un) (L2.start N vs) H := by
  have hl := r.length
  have no : ∀ (i : Nat) (s : Slot), (ds.map Slot.val ++ List.replicate (N.length - n) .un)[i]? = some s → s = .un ∨ ∃ d, s = .val d ∧ ds[i]? = some d := fun i s e => by
    by_cases hi : i < ds.length
    · rw [List.getElem?_append_left (by simpa using hi), List.getElem?_map] at e
      cases q : ds[i]? with
      | none => rw [q] at e; cases e
      | some d =>
        rw [q] at e
        exact .inr ⟨d, (Option.some.inj e).symm, rfl⟩
    · rw [List.getElem?_append_right (by simpa using hi), List.getElem?_replicate] at e
      split at e
      · exact .inl (Option.some.inj e).symm
      · cases e
  have nown : ∀ (i : Nat) (es : List D), (ds.map Slot.val ++ List.replicate (N.length - n) .un)[i]? ≠ some (.own es) := fun i es e => by
    rcases no i _ e with z | ⟨d, z, _⟩ <;> cases z
  refine ⟨by simp [L2.start, hl, ← hn], od, fun i d e => ?_, fun i es e => absurd e (nown i es), fun i j es fs a e => absurd e (nown i es), fun i c e => ?_⟩
  · rcases no i _ e with z | ⟨d', z, q⟩
    · cases z
    · cases z
      obtain ⟨v, e1, rv⟩ := r.get q
      have hi : i < vs.length := (List.getElem?_eq_some_iff.mp e1).1
      refine ⟨v, ?_, Rep.stay (.same same_refl fun a p => ⟨p, fun j es e5 => absurd e5 (nown j es)⟩) _ rv⟩
      unfold L2.start
      rw [List.getElem?_append_left (by simpa using hi), List.getElem?_map, e1]
      rfl
  · rcases no i _ e with z | ⟨d, z, _⟩ <;> cases z
section
variable {P : Program} {w : World} {K : PySem.W.Frag} {mg : Str → Option Value} {base : Heap}
/-- a def's body, by its short form -/
theorem fn_of1 {g : G} {nm : Str} {params : Arguments} {body : List Stmt} {scope : Scope} {f : Addr} {fd : FuncData} {ps N : List Str} {k n : Nat} {b : S} (F : FunD K nm nm params body scope [] [] f fd) (S : FnScope N ps scope) (hps : ps.length = n) (hN : okN N = true)
    (hm : mS g N true b scope (.bl body) = true) (Wk : Wd K mg g) (hf : ∀ (i : Nat) (x : Str) (F : Fn), g.fns[i]? = some (x, F) → Kn P w K mg base k x F) :
    FnOk P w K mg base (L2.CX P w) (k + 1) f fd ps (spF K (runF g n N.length b)) := by
  have len : ∀ vs H Q E, spF K (runF g n N.length b) vs H Q E → vs.length = ps.length := fun vs H Q E ⟨O, ds, r, od, rl, e, _⟩ => by
    by_cases h : ds.length = n
    · rw [hps, ← h, rl.length]
    · have e : (if ds.length = n then _ else none) = some r := e
      rw [if_neg h] at e
      cases e
  refine F.ok S len fun cdv A outer s H vs Q E hr hsp => ⟨Ts K none g (fun cls d _ H => E cls d H) b, ?_, ?_⟩
  · refine (sndS hN b).bl (cm := true) (sc := scope) (cur := none) ⟨⟨rfl, S.nd, rfl, fun _ => rfl, takes_of rfl rfl rfl rfl, ?_, fun _ i x F e => ?_, Wk.blt, Wk.consts, fun a x c b e => (nomatch e), Wk.isk⟩, S.kind, fun _ => rfl, passes_of rfl, rfl, rfl, fun c hc => ?_, Wk.exk, Wk.exc⟩ (fun _ => rfl) body hm
    · have := hr.un
      show (A.deeper _).units + 65 < cLine
      omega
    · obtain ⟨a, fd, ps, h1, h2, h3, h4⟩ := (hf i x F e).ex
      exact ⟨a, fd, ps, k, h1, hr, h2, h3, h4⟩
    · obtain ⟨B, n1, n2, bm, h1, h2, h3, h4, h5, h6⟩ := Wk.rai c hc
      exact ⟨B, n1, n2, bm, h1, h2, h3, h4, raises_own h5 h6⟩
  · obtain ⟨O, ds, r, od, rl, e, hq⟩ := hsp
    have e : (if ds.length = n then (match ex g b (ds.map .val ++ List.replicate (N.length - n) .un) with
      | some (.rt d) => some (.ret d)
      | some (.rl l) => some (.lst l)
      | some (.nx _) => some (.ret .none)
      | some (.ex c _) => some (.ex c)
      | none => none) else none) = some r := e
    by_cases hl : ds.length = n
    · rw [if_pos hl] at e
      have R := start_rel (N := N) od rl hl
      have nowO : ∀ p, ¬ Ow (ds.map .val ++ List.replicate (N.length - n) .un) (L2.start N vs) p := fun p ⟨i, es, e1, _⟩ => by
        by_cases hi : i < ds.length
        · rw [List.getElem?_append_left (by simpa using hi), List.getElem?_map] at e1
          cases q : ds[i]? with
          | none => rw [q] at e1; cases e1
          | some d => rw [q] at e1; cases e1
        · rw [List.getElem?_append_right (by simpa using hi), List.getElem?_replicate] at e1
          split at e1 <;> cases e1
      have sm : ∀ {H' : Hp}, Kp (ds.map .val ++ List.replicate (N.length - n) .un) (L2.start N vs) H H' → Same H H' := fun k a u ea => k a u ea fun ⟨i, es, e1, _⟩ => by
        by_cases hi : i < ds.length
        · rw [List.getElem?_append_left (by simpa using hi), List.getElem?_map] at e1
          cases q : ds[i]? with
          | none => rw [q] at e1; cases e1
          | some d => rw [q] at e1; cases e1
        · rw [List.getElem?_append_right (by simpa using hi), List.getElem?_replicate] at e1
          split at e1 <;> cases e1
      refine ⟨O, _, R, ?_⟩
      cases e2 : ex g b (ds.map .val ++ List.replicate (N.length - n) .un) with
      | none => rw [e2] at e; cases e
      | some z =>
        rw [e2] at e
        cases z with
        | rt d =>
          cases e
          exact fun v H' k rv => hq v H' (sm k) rv
        | rl l =>
          cases e
          exact fun v H' k ⟨p, xs, e1, e2, e3⟩ => hq v H' (sm k) ⟨p, xs, e1, e2.elim id fun o => (nowO p o).elim, e3⟩
        | nx ρ' =>
          cases e
          exact fun σ' H' R' s' => hq .non H' (sm s'.keep) .non
        | ex c ρ' =>
          cases e
          exact fun σ' H' R' s' => hq H' (sm s'.keep)
    · rw [if_neg hl] at e; cases e
theorem kn_of {g : G} {nm : Str} {params : Arguments} {body : List Stmt} {scope : Scope} {f : Addr} {fd : FuncData} {ps N : List Str} {k n : Nat} {b : S} (F : FunD K nm nm params body scope [] [] f fd) (S : FnScope N ps scope) (hps : ps.length = n) (hN : okN N = true)
    (hm : mS g N true b scope (.bl body) = true) (hg : mg nm = some (.ref f)) (hb : Binds K fd ps []) (Wk : Wd K mg g) (hf : ∀ (i : Nat) (x : Str) (F : Fn), g.fns[i]? = some (x, F) → Kn P w K mg base k x F) :
    Kn P w K mg base (k + 1) nm (runF g n N.length b) := ⟨f, fd, ps, fn_of1 F S hps hN hm Wk hf, hg, F.kp, hb⟩
end
end Vi

set_option maxRecDepth 100000
set_option maxHeartbeats 4000000
namespace Vi
open PySem PySem.Spec PyProof.Rows L2
def cstB (K : PySem.W.Frag) (x : Str) : D → Bool
  | .int i => (He.Fa.int x i).ok K
  | .str z => (He.Fa.str x z).ok K
  | .tuple l => (match intsOf l with
    | some ns => (He.Fa.glo x).ok K && He.tupB K x (ns.map He.Dv.int)
    | none => false)
  | _ => false
def excB (K : PySem.W.Frag) (c : Str) : Bool :=
  decide (PySem.W.findIn K (.ref (He.ga K c)) "__getattribute__" = some (some (.builtin "BaseException.__getattribute__"))) && (decide (PySem.W.findIn K (.ref (He.ga K c)) "__getattr__" = some none) && (decide (PySem.W.subIn K (.ref (He.ga K c)) (.type "BaseException") = some true) &&
  (PySem.W.hasDictIn K (He.ga K c) && (decide (PySem.W.findIn K (.ref (He.ga K c)) "__class__" = some (some (.builtin "object.__class__"))) && (decide (PySem.W.specialIn K (.builtin "object.__class__") "__get__" = some (some (.builtin "getset_descriptor.__get__"))) &&
  (decide (PySem.W.takesIn K (.builtin "object.__class__") = some true) && decide (PySem.W.mroIn K (He.ga K c) (.type "object") = some true)))))))
def iskB (K : PySem.W.Frag) (x c : Str) (b : Bool) : Bool :=
  if c == ("ValueError" : Str) then (He.Fa.free c).ok K && decide (PySem.W.kitOne K (.ref (He.ga K x)) (.type "ValueError") = some b)
  else (He.Fa.glo c).ok K && decide (PySem.W.kitOne K (.ref (He.ga K x)) (.ref (He.ga K c)) = some b)
def wdB (g : G) (K : PySem.W.Frag) : Bool :=
  (bltNames.all fun x => (He.Fa.free x).ok K) && ((g.consts.all fun p => cstB K p.1 p.2) && ((g.isx.all fun p => iskB K p.1.1 p.1.2 p.2 && excB K p.1.1) && ((g.rai.all fun c => (He.Fa.glo c).ok K && (He.Fa.exc c).ok K) &&
  (g.exm.all fun p => (He.Fa.glo p.1.2).ok K && (He.Fa.exm p.1.1 p.1.2 p.2).ok K))))
theorem look_mem {α β : Type} [BEq α] [LawfulBEq α] : ∀ {l : List (α × β)} {x : α} {y : β}, l.lookup x = some y → (x, y) ∈ l
  | (a, b) :: r, x, y, h => by
    rw [List.lookup_cons] at h
    cases q : (x == a) with
    | true =>
      rw [q] at h
      have h : some b = some y := h
      cases h
      rw [beq_iff_eq.mp q]
      exact List.mem_cons_self
    | false =>
      rw [q] at h
      exact List.mem_cons_of_mem _ (look_mem h)
theorem excB_ok {K : PySem.W.Frag} {c : Str} (h : excB K c = true) : ExcC K (He.ga K c) := by
  obtain ⟨h1, h⟩ := bb h
  obtain ⟨h2, h⟩ := bb h
  obtain ⟨h3, h⟩ := bb h
  obtain ⟨h4, h⟩ := bb h
  obtain ⟨h5, h⟩ := bb h
  obtain ⟨h6, h⟩ := bb h
  obtain ⟨h7, h8⟩ := bb h
  exact ⟨of_decide_eq_true h1, of_decide_eq_true h2, of_decide_eq_true h3, h4, of_decide_eq_true h5, of_decide_eq_true h6, of_decide_eq_true h7, of_decide_eq_true h8⟩
theorem intsOf_eq : ∀ {l : List D} {ns : List Int}, intsOf l = some ns → l = ns.map .int
  | [], ns, h => by
    cases h
    rfl
  | .int i :: r, ns, h => by
    have h : (intsOf r).map (i :: ·) = some ns := h
    cases e : intsOf r with
    | none => rw [e] at h; cases h
    | some ms =>
      rw [e] at h
      cases h
      rw [intsOf_eq e]
      rfl
  | .none :: _, _, h => by cases h
  | .bool _ :: _, _, h => by cases h
  | .str _ :: _, _, h => by cases h
  | .list _ :: _, _, h => by cases h
  | .tuple _ :: _, _, h => by cases h
  | .dict _ :: _, _, h => by cases h
section
variable {K : PySem.W.Frag} {h : Heap} {mg : Str → Option Value} {g : G}
theorem cstB_ok (X : K.In h) (Gs : h.Ns mainGlobals mg) {x : Str} {d : D} (c : cstB K x d = true) : ∃ v u, mg x = some u ∧ RelV v u ∧ ∀ H P, Rep K H P d v := by
  cases d with
  | int i =>
    obtain ⟨t, e⟩ := He.int_ok X Gs c
    exact ⟨.int i, _, e, ⟨t, rfl⟩, fun H P => .int i⟩
  | str z =>
    obtain ⟨t, e⟩ := He.str_ok X Gs c
    exact ⟨.str z, _, e, ⟨t, rfl⟩, fun H P => .str z⟩
  | tuple l =>
    have c : (match intsOf l with
      | some ns => (He.Fa.glo x).ok K && He.tupB K x (ns.map He.Dv.int)
      | none => false) = true := c
    cases e : intsOf l with
    | none => rw [e] at c; cases c
    | some ns =>
      rw [e] at c
      obtain ⟨c1, c2⟩ := bb c
      refine ⟨.ref (He.ga K x), _, He.glo_ok X Gs c1, rfl, fun H P => ?_⟩
      have z := He.tupB_ok c2 (fun _ => none)
      rcases z with z | z
      · rcases z with z | ⟨o, z⟩ <;> cases z
      · rw [intsOf_eq e]
        refine .tup (.inr z) ?_
        rw [List.map_map]
        exact RepL.ints ns
  | _ => exact no c
theorem wd_of (X : K.In h) (Gs : h.Ns mainGlobals mg) (c : wdB g K = true) : Wd K mg g := by
  obtain ⟨c1, c⟩ := bb c
  obtain ⟨c2, c⟩ := bb c
  obtain ⟨c3, c⟩ := bb c
  obtain ⟨c4, c5⟩ := bb c
  rw [List.all_eq_true] at c1 c2 c3 c4 c5
  refine ⟨fun x hx => He.free_ok X Gs (c1 x hx), fun x d e => cstB_ok X Gs (c2 _ (look_mem e)), fun x c b e => ?_, fun c hc => ?_, fun x hx => ?_, fun c x b e => excB_ok (bb (c3 _ (look_mem e))).2⟩
  · have z := (bb (c3 _ (look_mem e))).1
    have z : (if c == ("ValueError" : Str) then (He.Fa.free c).ok K && decide (PySem.W.kitOne K (.ref (He.ga K x)) (.type "ValueError") = some b)
      else (He.Fa.glo c).ok K && decide (PySem.W.kitOne K (.ref (He.ga K x)) (.ref (He.ga K c)) = some b)) = true := z
    by_cases hc : (c == ("ValueError" : Str)) = true
    · rw [if_pos hc] at z
      obtain ⟨z1, z2⟩ := bb z
      have ec := beq_iff_eq.mp hc
      subst ec
      exact ⟨.ty "ValueError", .type "ValueError", .inr ⟨He.free_ok X Gs z1, by decide +kernel, by decide +kernel⟩, rfl, fun z hz => hz, of_decide_eq_true z2⟩
    · rw [if_neg hc] at z
      obtain ⟨z1, z2⟩ := bb z
      exact ⟨.ref (He.ga K c), _, .inl (He.glo_ok X Gs z1), rfl, fun z hz => hz, of_decide_eq_true z2⟩
  · obtain ⟨z1, z2⟩ := bb (c4 c hc)
    obtain ⟨k1, k2, k3, k4⟩ := He.exc_ok z2
    exact ⟨_, _, _, _, PySem.F.excBase_ValueError, k1, He.glo_ok X Gs z1, k2, k3, k4⟩
  · obtain ⟨p, hp, e⟩ := List.any_eq_true.mp hx
    have e := beq_iff_eq.mp e
    subst e
    refine ⟨_, .inl (He.glo_ok X Gs (bb (c5 p hp)).1), fun c b e => He.exm_ok (bb (c5 _ (look_mem e))).2⟩
end
/-! ### the Hook of facts -/
abbrev AlV : Type := He.AlD × Bool
def obsV (n : Nat) (fn : List He.DefD) (ex : PySem.W.Frag → Bool) (g : Addr → Option Obj) : AlV := (He.obsD [] fn (He.frG g (He.asD g n)), ex (He.frG g (He.asD g n)))
def valV (fn : List He.DefD) : AlV := (He.valD fn, true)
def hookV (n : Nat) (fn : List He.DefD) (ex : PySem.W.Frag → Bool) : PySem.W.Hook where
  α := AlV
  obs := fun s => obsV n fn ex s.heap.get?
  val := fun _ => valV fn
  says := fun _ h => ∃ K : PySem.W.Frag, K.In h ∧ He.SaysD [] fn K ∧ ex K = true
  of := fun _ _ e => ⟨_, He.frG_in, congrArg (fun z : AlV => z.1) e, congrArg (fun z : AlV => z.2) e⟩
  keeps := fun _ _ _ ⟨K, hK, c⟩ k => ⟨K, PySem.W.Frag.In.keeps hK k, c⟩
theorem obsV_eq {n : Nat} {fn : List He.DefD} {ex : PySem.W.Frag → Bool} {g : Addr → Option Obj} {s : Shared} (h : ∀ a, g a = s.heap.get? a) : obsV n fn ex g = (hookV n fn ex).obs s := by
  have e : g = s.heap.get? := funext h
  rw [e] <;> rfl
/-- a law's end -/
theorem walk_V {l : PySem.W.OpenLaw} {n k : Nat} {q : Program} {loose : List Str} {XP : (Str → Option Value) → Heap → Prop} {YP : World → Heap → Prop} {d : DefRec} {x : Str} {F : Fn}
    (hn : l.most = some n) (hn2 : n ≤ sizeLine) (hdf : d.params.defaults = []) (hr : Room k callerA)
    (FF : ∀ (w : World) (mg : Str → Option Value) (fa : Addr) (h : Heap), YP w h → h.Ns mainGlobals mg → mg d.name = some (.ref fa) →
      ∃ (K : PySem.W.Frag) (fd : FuncData), K.In h ∧ (∀ (s : Shared) (u : Value), BindsTo s fd ⟨[u], []⟩ [(x, u)]) ∧
        ∀ base : Heap, K.In base → base.Ns mainGlobals mg → FnOk l.prog w K mg base (L2.CX l.prog w) k fa fd [x] (spF K F))
    (plain : ∀ ns : List Int, ns.length ≤ n → (∀ z ∈ ns, Builtin.Int.intBits z ≤ 1048576) → F [.list (ns.map .int)] = some (.ret (.bool true))) :
    PySem.W.WalkO q loose XP YP l.row.toRowW d [] (fun f vs => PySem.call f vs) := by
  refine Att.attach_callB hn hdf fun w s₀ s₁ mg mb fa o pm cd doc a vs ns G Y ho hd hcd hmg hobj hints hlen hbits hg => ?_
  obtain ⟨K, fd, KX, hb, hF⟩ := FF w mg fa _ Y G.T.g hmg
  refine law_call KX G.T.g G.T.b G.T.builtins G.T.nolimit hg hobj hints (Nat.le_trans hlen hn2) hr hF hb (fun H hO hS => ?_) fun H e s' hx => ?_
  · refine ⟨fun _ => False, [.list (ns.map .int)], .ret (.bool true), fun a z => z.elim, .cons (.lst ?_ (RepL.ints ns)) .nil, plain ns hlen hbits, fun v H' _ rv => ?_⟩
    · exact hS.elim (fun z => .inl ⟨fun f => f, z⟩) .inr
    · cases rv
      rfl
  · obtain ⟨a, B, H', cls, d, _, _, _, _, _, _, _, e⟩ := hx
    exact e
end Vi

set_option maxRecDepth 100000
set_option maxHeartbeats 4000000
namespace Vi
open PySem PySem.Spec PyProof.Rows L2
section
variable {P : Program} {w : World} {K : PySem.W.Frag} {mg : Str → Option Value} {base : Heap}
theorem Wd.with {g : G} (W : Wd K mg g) (fns : List (Str × Fn)) : Wd K mg (g.with fns) := ⟨W.blt, W.consts, W.isk, W.rai, W.exk, W.exc⟩
theorem all_nil {k : Nat} : ∀ p ∈ ([] : List (Str × Fn)), Kn P w K mg base k p.1 p.2 := fun p h => by cases h
theorem all_cons {k : Nat} {p : Str × Fn} {l : List (Str × Fn)} (h : Kn P w K mg base k p.1 p.2) (t : ∀ p ∈ l, Kn P w K mg base k p.1 p.2) : ∀ q ∈ p :: l, Kn P w K mg base k q.1 q.2 := fun q hq => by
  rcases List.mem_cons.mp hq with rfl | hq
  · exact h
  · exact t q hq
theorem kn_ofL {g : G} {fns : List (Str × Fn)} {nm : Str} {params : Arguments} {body : List Stmt} {scope : Scope} {f : Addr} {fd : FuncData} {ps N : List Str} {k n : Nat} {b : S} (F : FunD K nm nm params body scope [] [] f fd) (S : FnScope N ps scope) (hps : ps.length = n) (hN : okN N = true)
    (hm : mS (g.with fns) N true b scope (.bl body) = true) (hg : mg nm = some (.ref f)) (hb : Binds K fd ps []) (Wk : Wd K mg g) (hf : ∀ p ∈ fns, Kn P w K mg base k p.1 p.2) :
    Kn P w K mg base (k + 1) nm (runF (g.with fns) n N.length b) :=
  kn_of F S hps hN hm hg hb (Wk.with fns) fun i x F e => hf (x, F) (List.mem_of_getElem? e)
theorem fn_ofL {g : G} {fns : List (Str × Fn)} {nm : Str} {params : Arguments} {body : List Stmt} {scope : Scope} {f : Addr} {fd : FuncData} {p : Str} {N : List Str} {k n : Nat} {b : S} (F : FunD K nm nm params body scope [] [] f fd) (S : FnScope N [p] scope) (hps : [p].length = n) (hN : okN N = true)
    (hm : mS (g.with fns) N true b scope (.bl body) = true) (Wk : Wd K mg g) (hf : ∀ p ∈ fns, Kn P w K mg base k p.1 p.2) :
    FnOk P w K mg base (L2.CX P w) (k + 1) f fd [p] (spF K (runF (g.with fns) n N.length b)) :=
  fn_of1 F S hps hN hm (Wk.with fns) fun i x F e => hf (x, F) (List.mem_of_getElem? e)
end
end Vi

set_option maxRecDepth 100000
set_option maxHeartbeats 4000000
namespace Vi
open PySem PySem.Spec PyProof.Rows L2
/-! ### reckoning with short forms -/
@[simp] theorem map2_ok {k : Kd} {p : List Nat} {d : D} {f : Kd → List Nat → D → Option Rs} : Rs.map2 (some (.ok k p d)) f = f k p d := rfl
@[simp] theorem map2_ex {c : Str} {f : Kd → List Nat → D → Option Rs} : Rs.map2 (some (.ex c)) f = some (.ex c) := rfl
@[simp] theorem toS_ok {ρ : REnv} {k : Kd} {p : List Nat} {d : D} {f : Kd → List Nat → D → Option SR} : toS ρ (some (.ok k p d)) f = f k p d := rfl
@[simp] theorem toS_ex {ρ : REnv} {c : Str} {f : Kd → List Nat → D → Option SR} : toS ρ (some (.ex c)) f = some (.ex c ρ) := rfl
@[simp] theorem disown_nil {ρ : REnv} : disown [] ρ = ρ := rfl
@[simp] theorem tot_plain {p : List Nat} : Kd.tot .plain p = p := rfl
@[simp] theorem tot_fresh {p : List Nat} : Kd.tot .fresh p = p := rfl
@[simp] theorem put_int {ρ : REnv} {i : Nat} {n : Int} : put ρ i .plain [] (.int n) = ρ.set i (.val (.int n)) := by
  show (disown [] ρ).set i (.val (.int n)) = _
  rw [disown_nil]
theorem put_plain {ρ : REnv} {i : Nat} {d : D} : put ρ i .plain [] d = ρ.set i (.val d) := by
  show (disown [] ρ).set i (.val d) = _
  rw [disown_nil]
@[simp] theorem put_fresh {ρ : REnv} {i : Nat} {l : List D} : put ρ i .fresh [] (.list l) = ρ.set i (.own l) := rfl
/-- a def's end -/
def fin : Option SR → Option Rf
  | some (.rt d) => some (.ret d)
  | some (.rl l) => some (.lst l)
  | some (.nx _) => some (.ret .none)
  | some (.ex c _) => some (.ex c)
  | none => none
theorem runF_eq (g : G) (n m : Nat) (b : S) (ds : List D) (h : ds.length = n) : runF g n m b ds = fin (ex g b (ds.map .val ++ List.replicate (m - n) .un)) := by
  unfold runF
  rw [if_pos h]
  cases ex g b (ds.map .val ++ List.replicate (m - n) .un) with
  | none => rfl
  | some z => cases z <;> rfl
theorem runF1 (g : G) (m : Nat) (b : S) (a0 : D) : runF g 1 m b [a0] = fin (ex g b ([.val a0] ++ List.replicate (m - 1) .un)) := runF_eq _ _ _ _ _ rfl
theorem runF2 (g : G) (m : Nat) (b : S) (a0 a1 : D) : runF g 2 m b [a0, a1] = fin (ex g b ([.val a0, .val a1] ++ List.replicate (m - 2) .un)) := runF_eq _ _ _ _ _ rfl
theorem runF3 (g : G) (m : Nat) (b : S) (a0 a1 a2 : D) : runF g 3 m b [a0, a1, a2] = fin (ex g b ([.val a0, .val a1, .val a2] ++ List.replicate (m - 3) .un)) := runF_eq _ _ _ _ _ rfl
theorem runF4 (g : G) (m : Nat) (b : S) (a0 a1 a2 a3 : D) : runF g 4 m b [a0, a1, a2, a3] = fin (ex g b ([.val a0, .val a1, .val a2, .val a3] ++ List.replicate (m - 4) .un)) := runF_eq _ _ _ _ _ rfl
theorem runF5 (g : G) (m : Nat) (b : S) (a0 a1 a2 a3 a4 : D) : runF g 5 m b [a0, a1, a2, a3, a4] = fin (ex g b ([.val a0, .val a1, .val a2, .val a3, .val a4] ++ List.replicate (m - 5) .un)) := runF_eq _ _ _ _ _ rfl
theorem runF6 (g : G) (m : Nat) (b : S) (a0 a1 a2 a3 a4 a5 : D) : runF g 6 m b [a0, a1, a2, a3, a4, a5] = fin (ex g b ([.val a0, .val a1, .val a2, .val a3, .val a4, .val a5] ++ List.replicate (m - 6) .un)) := runF_eq _ _ _ _ _ rfl
@[simp] theorem fin_rt {d : D} : fin (some (.rt d)) = some (.ret d) := rfl
@[simp] theorem fin_rl {d : List D} : fin (some (.rl d)) = some (.lst d) := rfl
@[simp] theorem fin_nx {ρ : REnv} : fin (some (.nx ρ)) = some (.ret .none) := rfl
@[simp] theorem fin_ex {c : Str} {ρ : REnv} : fin (some (.ex c ρ)) = some (.ex c) := rfl
section
variable (ka : Kd) (i j : Int) (l m : List D)
@[simp] theorem b_add : binop ka .add (.int i) (.int j) = some (.plain, .int (i + j)) := rfl
@[simp] theorem b_sub : binop ka .sub (.int i) (.int j) = some (.plain, .int (i - j)) := rfl
theorem b_mul (h : mulOk i j = true) : binop ka .mul (.int i) (.int j) = some (.plain, .int (i * j)) := if_pos h
theorem b_mod (h : 0 < j) : binop ka .mod (.int i) (.int j) = some (.plain, .int (i % j)) := if_pos h
theorem b_fdiv (h : 0 < j ∧ j < 1073741824) : binop ka .fdiv (.int i) (.int j) = some (.plain, .int (i / j)) := if_pos h
theorem b_pow (h : 0 ≤ j ∧ (Builtin.Int.intBits i : Int) * j ≤ 134217728) : binop ka .pow (.int i) (.int j) = some (.plain, .int (i ^ j.toNat)) := if_pos h
theorem b_addT (h : l.length + m.length ≤ sizeLine) : binop ka .add (.tuple l) (.tuple m) = some (.plain, .tuple (l ++ m)) := if_pos h
theorem b_addL (h : l.length + m.length ≤ sizeLine) : binop ka .add (.list l) (.list m) = some (.fresh, .list (l ++ m)) := if_pos h
@[simp] theorem c_lt : cmpop .lt (.int i) (.int j) = some (decide (i < j)) := rfl
@[simp] theorem c_le : cmpop .le (.int i) (.int j) = some (decide (i ≤ j)) := rfl
@[simp] theorem c_gt : cmpop .gt (.int i) (.int j) = some (decide (j < i)) := rfl
@[simp] theorem c_ge : cmpop .ge (.int i) (.int j) = some (decide (j ≤ i)) := rfl
@[simp] theorem tr_bool {b : Bool} : truth (.bool b) = some b := rfl
@[simp] theorem tr_int : truth (.int i) = some (i != 0) := rfl
@[simp] theorem tr_list : truth (.list l) = some (!l.isEmpty) := rfl
@[simp] theorem tr_tuple : truth (.tuple l) = some (!l.isEmpty) := rfl
@[simp] theorem f_lenL : bfun .len (.list l) = some (.plain, .int l.length) := rfl
@[simp] theorem f_lenT : bfun .len (.tuple l) = some (.plain, .int l.length) := rfl
@[simp] theorem f_tupL : bfun .tuple (.list l) = some (.plain, .tuple l) := rfl
@[simp] theorem f_tupT : bfun .tuple (.tuple l) = some (.plain, .tuple l) := rfl
@[simp] theorem f_lstL : bfun .list (.list l) = some (.fresh, .list l) := rfl
@[simp] theorem f_lstT : bfun .list (.tuple l) = some (.fresh, .list l) := rfl
@[simp] theorem d_int {p : List Nat} : depOf (.int i) p = [] := rfl
@[simp] theorem d_intF {p : List Nat} : depF (.int i) p = [] := rfl
@[simp] theorem d_nil {d : D} : depOf d [] = [] := by unfold depOf; split <;> rfl
@[simp] theorem d_nilF {d : D} : depF d [] = [] := by unfold depF; split <;> rfl
@[simp] theorem d_nilL {d : List D} : depL d [] = [] := by unfold depL; split <;> rfl
theorem mulOk_r {i j : Int} (h : -(18446744073709551616 : Int) < j) (h2 : j < 18446744073709551616) : mulOk i j = true := by
  unfold mulOk
  have : Nat.blt j.natAbs 18446744073709551616 = true := Nat.ble_eq_true_of_le (by omega)
  rw [this, Bool.or_true]
theorem mulOk_l {i j : Int} (h : -(18446744073709551616 : Int) < i) (h2 : i < 18446744073709551616) : mulOk i j = true := by
  unfold mulOk
  have : Nat.blt i.natAbs 18446744073709551616 = true := Nat.ble_eq_true_of_le (by omega)
  rw [this, Bool.true_or]
theorem place_nat (n k : Nat) : place n (k : Int) = if k < n then some k else none := by
  unfold place
  rw [if_pos (Int.natCast_nonneg k)]
  by_cases h : k < n
  · rw [if_pos (by omega), if_pos h, Int.toNat_natCast]
  · rw [if_neg (by omega), if_neg h]
theorem getL_nat (k : Nat) : getAt (.list l) (k : Int) = l[k]? := by
  show (place l.length (k : Int)).bind (l[·]?) = _
  rw [place_nat]
  by_cases h : k < l.length
  · rw [if_pos h]; rfl
  · rw [if_neg h, List.getElem?_eq_none (by omega)]; rfl
theorem getT_nat (k : Nat) : getAt (.tuple l) (k : Int) = l[k]? := getL_nat l k
end
end Vi

set_option maxHeartbeats 0
namespace Vi
open PySem PySem.Spec PyProof.Rows L2
def b_is_within : S := (.cons (.ret (.land (.isi .int (.var 0)) (.land (.not (.isi .bool (.var 0))) (.one (.cmp2 .le .le (.var 1) (.var 0) (.var 2)))))) .nil)
noncomputable def c_is_within (g : G) : List (Str × Fn) := []
noncomputable def F_is_within (g : G) : Fn := runF (g.with (c_is_within g)) 3 3 b_is_within
def b_is_prime : S := (.cons (.ret (.land (.call 0 (.cons (.var 0) (.cons (.int 2) (.cons (.int 7) .nil)))) (.one (.cmp .inn (.var 0) (.glob "PRIMES"))))) .nil)
noncomputable def c_is_prime (g : G) : List (Str × Fn) := [("is_within", F_is_within g)]
noncomputable def F_is_prime (g : G) : Fn := runF (g.with (c_is_prime g)) 1 1 b_is_prime
def b_are_figures : S := (.cons (.ite (.lor (.not (.isi .tuple (.var 1))) (.one (.not (.cmp2 .le .le (.var 2) (.bf .len (.var 1)) (.var 3))))) (.cons (.ret (.bl false)) .nil) .nil) (.cons (.ret (.not (.comp (.one 4) (.var 1) (.not (.call 0 (.cons (.var 4) (.cons (.int 0) (.cons (.bin .sub (.var 0) (.int 1)) .nil))))) (.var 4)))) .nil))
noncomputable def c_are_figures (g : G) : List (Str × Fn) := [("is_within", F_is_within g)]
noncomputable def F_are_figures (g : G) : Fn := runF (g.with (c_are_figures g)) 4 5 b_are_figures
def b_times_as_0 : S := (.cons (.set 2 (.bin .mul (.var 2) (.var 0))) .nil)
def b_times_as : S := (.cons (.set 2 (.int 1)) (.cons (.for_ (.one 3) (.range1 (.var 1)) b_times_as_0) (.cons (.ret (.var 2)) .nil)))
noncomputable def c_times_as (g : G) : List (Str × Fn) := []
noncomputable def F_times_as (g : G) : Fn := runF (g.with (c_times_as g)) 2 4 b_times_as
def b_full : S := (.cons (.ret (.bin .add (.bf .list (.var 0)) (.lst (.cons (.int 1) .nil)))) .nil)
noncomputable def c_full (g : G) : List (Str × Fn) := []
noncomputable def F_full (g : G) : Fn := runF (g.with (c_full g)) 1 1 b_full
def b_divided_0 : S := (.cons (.seti 3 (.bin .add (.var 6) (.var 8)) (.bin .mod (.bin .sub (.idx (.var 3) (.bin .add (.var 6) (.var 8))) (.bin .mul (.var 7) (.var 9))) (.var 0))) .nil)
def b_divided_1 : S := (.cons (.set 7 (.idx (.var 3) (.bin .add (.var 6) (.bf .len (.var 2))))) (.cons (.app 5 (.var 7)) (.cons (.for_ (.two 8 9) (.enum (.var 4)) b_divided_0) .nil)))
def b_divided : S := (.cons (.set 3 (.call 0 (.cons (.var 1) .nil))) (.cons (.set 4 (.call 0 (.cons (.var 2) .nil))) (.cons (.set 5 (.lst .nil)) (.cons (.for_ (.one 6) (.range3 (.bin .sub (.bf .len (.var 3)) (.bf .len (.var 4))) (.neg (.int 1)) (.neg (.int 1))) b_divided_1) (.cons (.ret (.tup (.cons (.bf .tuple (.slc (.rev (.var 5)) .miss (.neg (.int 1)))) (.cons (.slc (.var 3) .miss (.bf .len (.var 2))) .nil)))) .nil)))))
noncomputable def c_divided (g : G) : List (Str × Fn) := [("full", F_full g)]
noncomputable def F_divided (g : G) : Fn := runF (g.with (c_divided g)) 3 10 b_divided
def b_rows_of_0 : S := (.cons (.ext 4 (.comp (.one 6) (.range1 (.var 0)) .miss (.bin .add (.var 5) (.tup (.cons (.var 6) .nil))))) .nil)
def b_rows_of_1 : S := (.cons (.set 4 (.lst .nil)) (.cons (.for_ (.one 5) (.var 2) b_rows_of_0) (.cons (.set 2 (.var 4)) .nil)))
def b_rows_of : S := (.cons (.set 2 (.lst (.cons (.tup .nil) .nil))) (.cons (.for_ (.one 3) (.range1 (.var 1)) b_rows_of_1) (.cons (.ret (.var 2)) .nil)))
noncomputable def c_rows_of (g : G) : List (Str × Fn) := []
noncomputable def F_rows_of (g : G) : Fn := runF (g.with (c_rows_of g)) 2 7 b_rows_of
def b_any_left : S := (.cons (.ret (.cmp .ne (.comp (.one 1) (.var 0) (.cmp .ne (.var 1) (.int 0)) (.var 1)) (.lst .nil))) .nil)
noncomputable def c_any_left (g : G) : List (Str × Fn) := []
noncomputable def F_any_left (g : G) : Fn := runF (g.with (c_any_left g)) 1 2 b_any_left
def b_first_part_0 : S := (.cons (.ite (.not (.call 2 (.cons (.idx (.call 1 (.cons (.var 0) (.cons (.var 1) (.cons (.var 3) .nil)))) (.int 1)) .nil))) (.cons (.ret (.var 3)) .nil) .nil) .nil)
def b_first_part_1 : S := (.cons (.for_ (.one 3) (.call 0 (.cons (.var 0) (.cons (.var 2) .nil))) b_first_part_0) .nil)
def b_first_part : S := (.cons (.for_ (.one 2) (.range2 (.int 1) (.bin .add (.bin .fdiv (.bf .len (.var 1)) (.int 2)) (.int 1))) b_first_part_1) (.cons (.ret (.var 1)) .nil))
noncomputable def c_first_part (g : G) : List (Str × Fn) := [("rows_of", F_rows_of g), ("divided", F_divided g), ("any_left", F_any_left g)]
noncomputable def F_first_part (g : G) : Fn := runF (g.with (c_first_part g)) 2 4 b_first_part
def b_is_whole : S := (.cons (.ret (.cmp .eq (.call 0 (.cons (.var 0) (.cons (.var 1) .nil))) (.var 1))) .nil)
noncomputable def c_is_whole (g : G) : List (Str × Fn) := [("first_part", F_first_part g)]
noncomputable def F_is_whole (g : G) : Fn := runF (g.with (c_is_whole g)) 2 2 b_is_whole
def b_is_field : S := (.cons (.ite (.lor (.not (.isi .tuple (.var 0))) (.lor (.cmp .ne (.bf .len (.var 0)) (.int 2)) (.one (.not (.call 0 (.cons (.idx (.var 0) (.int 0)) .nil)))))) (.cons (.ret (.bl false)) .nil) .nil) (.cons (.ite (.lor (.not (.call 1 (.cons (.idx (.var 0) (.int 0)) (.cons (.idx (.var 0) (.int 1)) (.cons (.int 1) (.cons (.glob "MOST_FIGURES") .nil)))))) (.one (.cmp .gt (.call 2 (.cons (.idx (.var 0) (.int 0)) (.cons (.bf .len (.idx (.var 0) (.int 1))) .nil))) (.glob "MOST_NUMBERS")))) (.cons (.ret (.bl false)) .nil) .nil) (.cons (.ret (.call 3 (.cons (.idx (.var 0) (.int 0)) (.cons (.idx (.var 0) (.int 1)) .nil)))) .nil)))
noncomputable def c_is_field (g : G) : List (Str × Fn) := [("is_prime", F_is_prime g), ("are_figures", F_are_figures g), ("times_as", F_times_as g), ("is_whole", F_is_whole g)]
noncomputable def F_is_field (g : G) : Fn := runF (g.with (c_is_field g)) 1 1 b_is_field
def b_checked : S := (.cons (.ite (.not (.call 0 (.cons (.var 0) .nil))) (.cons (.raise "BadField") .nil) .nil) (.cons (.ret (.var 0)) .nil))
noncomputable def c_checked (g : G) : List (Str × Fn) := [("is_field", F_is_field g)]
noncomputable def F_checked (g : G) : Fn := runF (g.with (c_checked g)) 1 1 b_checked
def b_size_of : S := (.cons (.ret (.call 0 (.cons (.idx (.var 0) (.int 0)) (.cons (.bf .len (.idx (.var 0) (.int 1))) .nil)))) .nil)
noncomputable def c_size_of (g : G) : List (Str × Fn) := [("times_as", F_times_as g)]
noncomputable def F_size_of (g : G) : Fn := runF (g.with (c_size_of g)) 1 1 b_size_of
def b_size : S := (.cons (.ret (.call 1 (.cons (.call 0 (.cons (.var 0) .nil)) .nil))) .nil)
noncomputable def c_size (g : G) : List (Str × Fn) := [("checked", F_checked g), ("size_of", F_size_of g)]
noncomputable def F_size (g : G) : Fn := runF (g.with (c_size g)) 1 1 b_size
def b_is_number : S := (.cons (.ret (.call 0 (.cons (.idx (.var 0) (.int 0)) (.cons (.var 1) (.cons (.bf .len (.idx (.var 0) (.int 1))) (.cons (.bf .len (.idx (.var 0) (.int 1))) .nil)))))) .nil)
noncomputable def c_is_number (g : G) : List (Str × Fn) := [("are_figures", F_are_figures g)]
noncomputable def F_is_number (g : G) : Fn := runF (g.with (c_is_number g)) 2 2 b_is_number
def b_look_numbers_0 : S := (.cons (.ite (.not (.call 1 (.cons (.var 0) (.cons (.var 2) .nil)))) (.cons (.raise "BadNumber") .nil) .nil) .nil)
def b_look_numbers : S := (.cons (.expr (.call 0 (.cons (.var 0) .nil))) (.cons (.for_ (.one 2) (.var 1) b_look_numbers_0) .nil))
noncomputable def c_look_numbers (g : G) : List (Str × Fn) := [("checked", F_checked g), ("is_number", F_is_number g)]
noncomputable def F_look_numbers (g : G) : Fn := runF (g.with (c_look_numbers g)) 2 3 b_look_numbers
def b_numbers_of : S := (.cons (.ret (.call 0 (.cons (.idx (.var 0) (.int 0)) (.cons (.bf .len (.idx (.var 0) (.int 1))) .nil)))) .nil)
noncomputable def c_numbers_of (g : G) : List (Str × Fn) := [("rows_of", F_rows_of g)]
noncomputable def F_numbers_of (g : G) : Fn := runF (g.with (c_numbers_of g)) 1 1 b_numbers_of
def b_all_numbers : S := (.cons (.ret (.call 1 (.cons (.call 0 (.cons (.var 0) .nil)) .nil))) .nil)
noncomputable def c_all_numbers (g : G) : List (Str × Fn) := [("checked", F_checked g), ("numbers_of", F_numbers_of g)]
noncomputable def F_all_numbers (g : G) : Fn := runF (g.with (c_all_numbers g)) 1 1 b_all_numbers
def b_nought : S := (.cons (.ret (.bin .mul (.tup (.cons (.int 0) .nil)) (.bf .len (.idx (.var 0) (.int 1))))) .nil)
noncomputable def c_nought (g : G) : List (Str × Fn) := []
noncomputable def F_nought (g : G) : Fn := runF (g.with (c_nought g)) 1 1 b_nought
def b_whole : S := (.cons (.ret (.bin .add (.tup (.cons (.bin .mod (.var 1) (.idx (.var 0) (.int 0))) .nil)) (.bin .mul (.tup (.cons (.int 0) .nil)) (.bin .sub (.bf .len (.idx (.var 0) (.int 1))) (.int 1))))) .nil)
noncomputable def c_whole (g : G) : List (Str × Fn) := []
noncomputable def F_whole (g : G) : Fn := runF (g.with (c_whole g)) 2 2 b_whole
def b_sum_of : S := (.cons (.ret (.bf .tuple (.comp (.two 3 4) (.zip (.var 1) (.var 2)) .miss (.bin .mod (.bin .add (.var 3) (.var 4)) (.idx (.var 0) (.int 0)))))) .nil)
noncomputable def c_sum_of (g : G) : List (Str × Fn) := []
noncomputable def F_sum_of (g : G) : Fn := runF (g.with (c_sum_of g)) 3 5 b_sum_of
def b_less : S := (.cons (.ret (.bf .tuple (.comp (.two 3 4) (.zip (.var 1) (.var 2)) .miss (.bin .mod (.bin .sub (.var 3) (.var 4)) (.idx (.var 0) (.int 0)))))) .nil)
noncomputable def c_less (g : G) : List (Str × Fn) := []
noncomputable def F_less (g : G) : Fn := runF (g.with (c_less g)) 3 5 b_less
def b_product_of_0 : S := (.cons (.seti 6 (.bin .add (.var 8) (.var 10)) (.bin .mod (.bin .add (.idx (.var 6) (.bin .add (.var 8) (.var 10))) (.bin .mul (.var 9) (.var 11))) (.var 3))) .nil)
def b_product_of_1 : S := (.cons (.for_ (.two 10 11) (.enum (.var 2)) b_product_of_0) .nil)
def b_product_of_2 : S := (.cons (.seti 6 (.bin .add (.bin .sub (.var 8) (.var 5)) (.var 7)) (.bin .mod (.bin .sub (.idx (.var 6) (.bin .add (.bin .sub (.var 8) (.var 5)) (.var 7))) (.bin .mul (.var 12) (.var 13))) (.var 3))) .nil)
def b_product_of_3 : S := (.cons (.set 12 (.idx (.var 6) (.var 8))) (.cons (.for_ (.two 7 13) (.enum (.var 4)) b_product_of_2) .nil))
def b_product_of : S := (.cons (.set2 3 4 (.var 0)) (.cons (.set 5 (.bf .len (.var 4))) (.cons (.set 6 (.comp (.one 7) (.range1 (.bin .sub (.bin .mul (.int 2) (.var 5)) (.int 1))) .miss (.int 0))) (.cons (.for_ (.two 8 9) (.enum (.var 1)) b_product_of_1) (.cons (.for_ (.one 8) (.range3 (.bin .sub (.bin .mul (.int 2) (.var 5)) (.int 2)) (.bin .sub (.var 5) (.int 1)) (.neg (.int 1))) b_product_of_3) (.cons (.ret (.bf .tuple (.slc (.var 6) .miss (.var 5)))) .nil))))))
noncomputable def c_product_of (g : G) : List (Str × Fn) := []
noncomputable def F_product_of (g : G) : Fn := runF (g.with (c_product_of g)) 3 14 b_product_of
def b_power_of_0 : S := (.cons (.ite (.cmp .eq (.bin .mod (.var 2) (.int 2)) (.int 1)) (.cons (.set 3 (.call 1 (.cons (.var 0) (.cons (.var 3) (.cons (.var 1) .nil))))) .nil) .nil) (.cons (.set 1 (.call 1 (.cons (.var 0) (.cons (.var 1) (.cons (.var 1) .nil))))) (.cons (.set 2 (.bin .fdiv (.var 2) (.int 2))) .nil)))
def b_power_of : S := (.cons (.set 3 (.call 0 (.cons (.var 0) (.cons (.int 1) .nil)))) (.cons (.whl (.cmp .gt (.var 2) (.int 0)) b_power_of_0) (.cons (.ret (.var 3)) .nil)))
noncomputable def c_power_of (g : G) : List (Str × Fn) := [("whole", F_whole g), ("product_of", F_product_of g)]
noncomputable def F_power_of (g : G) : Fn := runF (g.with (c_power_of g)) 3 4 b_power_of
def b_inverse_of : S := (.cons (.ret (.call 1 (.cons (.var 0) (.cons (.var 1) (.cons (.bin .sub (.call 0 (.cons (.var 0) .nil)) (.int 2)) .nil))))) .nil)
noncomputable def c_inverse_of (g : G) : List (Str × Fn) := [("size_of", F_size_of g), ("power_of", F_power_of g)]
noncomputable def F_inverse_of (g : G) : Fn := runF (g.with (c_inverse_of g)) 2 2 b_inverse_of
def b_plus : S := (.cons (.expr (.call 0 (.cons (.var 0) (.cons (.lst (.cons (.var 1) (.cons (.var 2) .nil))) .nil)))) (.cons (.ret (.call 1 (.cons (.var 0) (.cons (.var 1) (.cons (.var 2) .nil))))) .nil))
noncomputable def c_plus (g : G) : List (Str × Fn) := [("look_numbers", F_look_numbers g), ("sum_of", F_sum_of g)]
noncomputable def F_plus (g : G) : Fn := runF (g.with (c_plus g)) 3 3 b_plus
def b_minus : S := (.cons (.expr (.call 0 (.cons (.var 0) (.cons (.lst (.cons (.var 1) (.cons (.var 2) .nil))) .nil)))) (.cons (.ret (.call 1 (.cons (.var 0) (.cons (.var 1) (.cons (.var 2) .nil))))) .nil))
noncomputable def c_minus (g : G) : List (Str × Fn) := [("look_numbers", F_look_numbers g), ("less", F_less g)]
noncomputable def F_minus (g : G) : Fn := runF (g.with (c_minus g)) 3 3 b_minus
def b_times : S := (.cons (.expr (.call 0 (.cons (.var 0) (.cons (.lst (.cons (.var 1) (.cons (.var 2) .nil))) .nil)))) (.cons (.ret (.call 1 (.cons (.var 0) (.cons (.var 1) (.cons (.var 2) .nil))))) .nil))
noncomputable def c_times (g : G) : List (Str × Fn) := [("look_numbers", F_look_numbers g), ("product_of", F_product_of g)]
noncomputable def F_times (g : G) : Fn := runF (g.with (c_times g)) 3 3 b_times
def b_over : S := (.cons (.expr (.call 0 (.cons (.var 0) (.cons (.lst (.cons (.var 1) (.cons (.var 2) .nil))) .nil)))) (.cons (.ite (.cmp .eq (.var 2) (.call 1 (.cons (.var 0) .nil))) (.cons (.raise "Zero") .nil) .nil) (.cons (.ret (.call 3 (.cons (.var 0) (.cons (.var 1) (.cons (.call 2 (.cons (.var 0) (.cons (.var 2) .nil))) .nil))))) .nil)))
noncomputable def c_over (g : G) : List (Str × Fn) := [("look_numbers", F_look_numbers g), ("nought", F_nought g), ("inverse_of", F_inverse_of g), ("product_of", F_product_of g)]
noncomputable def F_over (g : G) : Fn := runF (g.with (c_over g)) 3 3 b_over
def b_is_row : S := (.cons (.ite (.lor (.not (.isi .tuple (.var 1))) (.lor (.cmp .gt (.bf .len (.var 1)) (.glob "MOST_ROW")) (.one (.comp (.one 2) (.var 1) (.not (.call 0 (.cons (.var 0) (.cons (.var 2) .nil)))) (.var 2))))) (.cons (.ret (.bl false)) .nil) .nil) (.cons (.ret (.lor (.not (.var 1)) (.one (.cmp .ne (.idx (.var 1) (.neg (.int 1))) (.call 1 (.cons (.var 0) .nil)))))) .nil))
noncomputable def c_is_row (g : G) : List (Str × Fn) := [("is_number", F_is_number g), ("nought", F_nought g)]
noncomputable def F_is_row (g : G) : Fn := runF (g.with (c_is_row g)) 2 3 b_is_row
def b_look_rows_0 : S := (.cons (.ite (.not (.call 1 (.cons (.var 0) (.cons (.var 2) .nil)))) (.cons (.raise "BadRow") .nil) .nil) .nil)
def b_look_rows : S := (.cons (.expr (.call 0 (.cons (.var 0) .nil))) (.cons (.for_ (.one 2) (.var 1) b_look_rows_0) .nil))
noncomputable def c_look_rows (g : G) : List (Str × Fn) := [("checked", F_checked g), ("is_row", F_is_row g)]
noncomputable def F_look_rows (g : G) : Fn := runF (g.with (c_look_rows g)) 2 3 b_look_rows
def b_cut_0 : S := (.cons (.pop 1) .nil)
def b_cut : S := (.cons (.set 1 (.bf .list (.var 1))) (.cons (.whl (.land (.var 1) (.one (.cmp .eq (.idx (.var 1) (.neg (.int 1))) (.call 0 (.cons (.var 0) .nil))))) b_cut_0) (.cons (.ret (.bf .tuple (.var 1))) .nil)))
noncomputable def c_cut (g : G) : List (Str × Fn) := [("nought", F_nought g)]
noncomputable def F_cut (g : G) : Fn := runF (g.with (c_cut g)) 2 2 b_cut
def b_value_of_0 : S := (.cons (.set 3 (.call 2 (.cons (.var 0) (.cons (.call 1 (.cons (.var 0) (.cons (.var 3) (.cons (.var 2) .nil)))) (.cons (.var 4) .nil))))) .nil)
def b_value_of : S := (.cons (.set 3 (.call 0 (.cons (.var 0) .nil))) (.cons (.for_ (.one 4) (.rev (.var 1)) b_value_of_0) (.cons (.ret (.var 3)) .nil)))
noncomputable def c_value_of (g : G) : List (Str × Fn) := [("nought", F_nought g), ("product_of", F_product_of g), ("sum_of", F_sum_of g)]
noncomputable def F_value_of (g : G) : Fn := runF (g.with (c_value_of g)) 3 5 b_value_of
def b_row_times_0 : S := (.cons (.seti 3 (.bin .add (.var 5) (.var 7)) (.call 2 (.cons (.var 0) (.cons (.idx (.var 3) (.bin .add (.var 5) (.var 7))) (.cons (.call 1 (.cons (.var 0) (.cons (.var 6) (.cons (.var 8) .nil)))) .nil))))) .nil)
def b_row_times_1 : S := (.cons (.for_ (.two 7 8) (.enum (.var 2)) b_row_times_0) .nil)
def b_row_times : S := (.cons (.ite (.lor (.not (.var 1)) (.one (.not (.var 2)))) (.cons (.ret (.tup .nil)) .nil) .nil) (.cons (.set 3 (.comp (.one 4) (.range1 (.bin .sub (.bin .add (.bf .len (.var 1)) (.bf .len (.var 2))) (.int 1))) .miss (.call 0 (.cons (.var 0) .nil)))) (.cons (.for_ (.two 5 6) (.enum (.var 1)) b_row_times_1) (.cons (.ret (.bf .tuple (.var 3))) .nil))))
noncomputable def c_row_times (g : G) : List (Str × Fn) := [("nought", F_nought g), ("product_of", F_product_of g), ("sum_of", F_sum_of g)]
noncomputable def F_row_times (g : G) : Fn := runF (g.with (c_row_times g)) 3 9 b_row_times
def b_row_less : S := (.cons (.set 3 (.max2 (.bf .len (.var 1)) (.bf .len (.var 2)))) (.cons (.set 4 (.bin .add (.var 1) (.bin .mul (.tup (.cons (.call 0 (.cons (.var 0) .nil)) .nil)) (.bin .sub (.var 3) (.bf .len (.var 1)))))) (.cons (.set 5 (.bin .add (.var 2) (.bin .mul (.tup (.cons (.call 0 (.cons (.var 0) .nil)) .nil)) (.bin .sub (.var 3) (.bf .len (.var 2)))))) (.cons (.ret (.call 2 (.cons (.var 0) (.cons (.comp (.two 6 7) (.zip (.var 4) (.var 5)) .miss (.call 1 (.cons (.var 0) (.cons (.var 6) (.cons (.var 7) .nil))))) .nil)))) .nil))))
noncomputable def c_row_less (g : G) : List (Str × Fn) := [("nought", F_nought g), ("less", F_less g), ("cut", F_cut g)]
noncomputable def F_row_less (g : G) : Fn := runF (g.with (c_row_less g)) 3 8 b_row_less
def b_row_divided_0 : S := (.cons (.set 6 (.bin .sub (.bf .len (.var 1)) (.bf .len (.var 2)))) (.cons (.seti 4 (.var 6) (.call 2 (.cons (.var 0) (.cons (.idx (.var 1) (.neg (.int 1))) (.cons (.var 3) .nil))))) (.cons (.set 1 (.call 4 (.cons (.var 0) (.cons (.var 1) (.cons (.call 3 (.cons (.var 0) (.cons (.bin .add (.bin .mul (.tup (.cons (.call 1 (.cons (.var 0) .nil)) .nil)) (.var 6)) (.tup (.cons (.idx (.var 4) (.var 6)) .nil))) (.cons (.var 2) .nil)))) .nil))))) .nil)))
def b_row_divided : S := (.cons (.set 3 (.call 0 (.cons (.var 0) (.cons (.idx (.var 2) (.neg (.int 1))) .nil)))) (.cons (.set 4 (.comp (.one 5) (.range1 (.max2 (.bin .add (.bin .sub (.bf .len (.var 1)) (.bf .len (.var 2))) (.int 1)) (.int 0))) .miss (.call 1 (.cons (.var 0) .nil)))) (.cons (.whl (.cmp .ge (.bf .len (.var 1)) (.bf .len (.var 2))) b_row_divided_0) (.cons (.ret (.tup (.cons (.call 5 (.cons (.var 0) (.cons (.var 4) .nil))) (.cons (.var 1) .nil)))) .nil))))
noncomputable def c_row_divided (g : G) : List (Str × Fn) := [("inverse_of", F_inverse_of g), ("nought", F_nought g), ("product_of", F_product_of g), ("row_times", F_row_times g), ("row_less", F_row_less g), ("cut", F_cut g)]
noncomputable def F_row_divided (g : G) : Fn := runF (g.with (c_row_divided g)) 3 7 b_row_divided
def b_value : S := (.cons (.expr (.call 0 (.cons (.var 0) (.cons (.lst (.cons (.var 1) .nil)) .nil)))) (.cons (.expr (.call 1 (.cons (.var 0) (.cons (.lst (.cons (.var 2) .nil)) .nil)))) (.cons (.ret (.call 2 (.cons (.var 0) (.cons (.var 1) (.cons (.var 2) .nil))))) .nil)))
noncomputable def c_value (g : G) : List (Str × Fn) := [("look_rows", F_look_rows g), ("look_numbers", F_look_numbers g), ("value_of", F_value_of g)]
noncomputable def F_value (g : G) : Fn := runF (g.with (c_value g)) 3 3 b_value
def b_multiplied : S := (.cons (.expr (.call 0 (.cons (.var 0) (.cons (.lst (.cons (.var 1) (.cons (.var 2) .nil))) .nil)))) (.cons (.ret (.call 1 (.cons (.var 0) (.cons (.var 1) (.cons (.var 2) .nil))))) .nil))
noncomputable def c_multiplied (g : G) : List (Str × Fn) := [("look_rows", F_look_rows g), ("row_times", F_row_times g)]
noncomputable def F_multiplied (g : G) : Fn := runF (g.with (c_multiplied g)) 3 3 b_multiplied
def b_divided_by : S := (.cons (.expr (.call 0 (.cons (.var 0) (.cons (.lst (.cons (.var 1) (.cons (.var 2) .nil))) .nil)))) (.cons (.ite (.not (.var 2)) (.cons (.raise "Zero") .nil) .nil) (.cons (.ret (.call 1 (.cons (.var 0) (.cons (.var 1) (.cons (.var 2) .nil))))) .nil)))
noncomputable def c_divided_by (g : G) : List (Str × Fn) := [("look_rows", F_look_rows g), ("row_divided", F_row_divided g)]
noncomputable def F_divided_by (g : G) : Fn := runF (g.with (c_divided_by g)) 3 3 b_divided_by
def b_row_of : S := (.cons (.ret (.bin .add (.bf .tuple (.comp (.one 2) (.var 1) .miss (.call 0 (.cons (.var 0) (.cons (.var 2) .nil))))) (.tup (.cons (.call 0 (.cons (.var 0) (.cons (.int 1) .nil))) .nil)))) .nil)
noncomputable def c_row_of (g : G) : List (Str × Fn) := [("whole", F_whole g)]
noncomputable def F_row_of (g : G) : Fn := runF (g.with (c_row_of g)) 2 3 b_row_of
def b_roots_of : S := (.cons (.ret (.comp (.one 2) (.call 0 (.cons (.var 0) .nil)) (.cmp .eq (.call 1 (.cons (.var 0) (.cons (.var 1) (.cons (.var 2) .nil)))) (.call 2 (.cons (.var 0) .nil))) (.var 2))) .nil)
noncomputable def c_roots_of (g : G) : List (Str × Fn) := [("numbers_of", F_numbers_of g), ("value_of", F_value_of g), ("nought", F_nought g)]
noncomputable def F_roots_of (g : G) : Fn := runF (g.with (c_roots_of g)) 2 3 b_roots_of
def b_root_row : S := (.cons (.ret (.tup (.cons (.call 1 (.cons (.var 0) (.cons (.call 0 (.cons (.var 0) .nil)) (.cons (.var 1) .nil)))) (.cons (.call 2 (.cons (.var 0) (.cons (.int 1) .nil))) .nil)))) .nil)
noncomputable def c_root_row (g : G) : List (Str × Fn) := [("nought", F_nought g), ("less", F_less g), ("whole", F_whole g)]
noncomputable def F_root_row (g : G) : Fn := runF (g.with (c_root_row g)) 2 2 b_root_row
def b_split_0 : S := (.cons (.set 1 (.idx (.call 5 (.cons (.var 0) (.cons (.var 1) (.cons (.call 4 (.cons (.var 0) (.cons (.var 3) .nil))) .nil)))) (.int 0))) (.cons (.aug 4 .add (.int 1)) .nil))
def b_split_1 : S := (.cons (.set 4 (.int 0)) (.cons (.whl (.cmp .eq (.call 2 (.cons (.var 0) (.cons (.var 1) (.cons (.var 3) .nil)))) (.call 3 (.cons (.var 0) .nil))) b_split_0) (.cons (.app 2 (.tup (.cons (.var 3) (.cons (.var 4) .nil)))) .nil)))
def b_split : S := (.cons (.expr (.call 0 (.cons (.var 0) (.cons (.lst (.cons (.var 1) .nil)) .nil)))) (.cons (.ite (.not (.var 1)) (.cons (.raise "Zero") .nil) .nil) (.cons (.set 2 (.lst .nil)) (.cons (.for_ (.one 3) (.call 1 (.cons (.var 0) (.cons (.var 1) .nil))) b_split_1) (.cons (.ret (.tup (.cons (.var 2) (.cons (.var 1) .nil)))) .nil)))))
noncomputable def c_split (g : G) : List (Str × Fn) := [("look_rows", F_look_rows g), ("roots_of", F_roots_of g), ("value_of", F_value_of g), ("nought", F_nought g), ("root_row", F_root_row g), ("row_divided", F_row_divided g)]
noncomputable def F_split (g : G) : Fn := runF (g.with (c_split g)) 2 5 b_split
def b_roots : S := (.cons (.ret (.idx (.call 0 (.cons (.var 0) (.cons (.var 1) .nil))) (.int 0))) .nil)
noncomputable def c_roots (g : G) : List (Str × Fn) := [("split", F_split g)]
noncomputable def F_roots (g : G) : Fn := runF (g.with (c_roots g)) 2 2 b_roots
def b_with_roots_0 : S := (.cons (.set 2 (.call 4 (.cons (.var 0) (.cons (.var 2) (.cons (.call 3 (.cons (.var 0) (.cons (.var 3) .nil))) .nil))))) .nil)
def b_with_roots : S := (.cons (.expr (.call 0 (.cons (.var 0) .nil))) (.cons (.ite (.lor (.not (.isi .list (.var 1))) (.one (.cmp .ge (.bf .len (.var 1)) (.glob "MOST_ROW")))) (.cons (.raise "BadRow") .nil) .nil) (.cons (.expr (.call 1 (.cons (.var 0) (.cons (.var 1) .nil)))) (.cons (.set 2 (.tup (.cons (.call 2 (.cons (.var 0) (.cons (.int 1) .nil))) .nil))) (.cons (.for_ (.one 3) (.var 1) b_with_roots_0) (.cons (.ret (.var 2)) .nil))))))
noncomputable def c_with_roots (g : G) : List (Str × Fn) := [("checked", F_checked g), ("look_numbers", F_look_numbers g), ("whole", F_whole g), ("root_row", F_root_row g), ("row_times", F_row_times g)]
noncomputable def F_with_roots (g : G) : Fn := runF (g.with (c_with_roots g)) 2 4 b_with_roots
def b_raised_to : S := (.cons (.ret (.call 1 (.cons (.var 0) (.cons (.var 1) (.cons (.call 0 (.cons (.idx (.var 0) (.int 0)) (.cons (.bin .mod (.var 2) (.bf .len (.idx (.var 0) (.int 1)))) .nil))) .nil))))) .nil)
noncomputable def c_raised_to (g : G) : List (Str × Fn) := [("times_as", F_times_as g), ("power_of", F_power_of g)]
noncomputable def F_raised_to (g : G) : Fn := runF (g.with (c_raised_to g)) 3 3 b_raised_to
def b_raised : S := (.cons (.expr (.call 0 (.cons (.var 0) (.cons (.lst (.cons (.var 1) .nil)) .nil)))) (.cons (.ite (.not (.call 1 (.cons (.var 2) (.cons (.int 0) (.cons (.int 99) .nil))))) (.cons (.raise "BadWhole") .nil) .nil) (.cons (.ret (.call 2 (.cons (.var 0) (.cons (.var 1) (.cons (.var 2) .nil))))) .nil)))
noncomputable def c_raised (g : G) : List (Str × Fn) := [("look_numbers", F_look_numbers g), ("is_within", F_is_within g), ("raised_to", F_raised_to g)]
noncomputable def F_raised (g : G) : Fn := runF (g.with (c_raised g)) 3 3 b_raised
def b_alike_of_0 : S := (.cons (.app 2 (.call 0 (.cons (.var 0) (.cons (.idx (.var 2) (.neg (.int 1))) (.cons (.int 1) .nil))))) .nil)
def b_alike_of : S := (.cons (.set 2 (.lst (.cons (.var 1) .nil))) (.cons (.whl (.cmp .ne (.call 0 (.cons (.var 0) (.cons (.idx (.var 2) (.neg (.int 1))) (.cons (.int 1) .nil)))) (.var 1)) b_alike_of_0) (.cons (.ret (.var 2)) .nil)))
noncomputable def c_alike_of (g : G) : List (Str × Fn) := [("raised_to", F_raised_to g)]
noncomputable def F_alike_of (g : G) : Fn := runF (g.with (c_alike_of g)) 2 3 b_alike_of
def b_least_row_0 : S := (.cons (.set 2 (.call 4 (.cons (.var 0) (.cons (.var 2) (.cons (.call 3 (.cons (.var 0) (.cons (.var 3) .nil))) .nil))))) .nil)
def b_least_row : S := (.cons (.expr (.call 0 (.cons (.var 0) (.cons (.lst (.cons (.var 1) .nil)) .nil)))) (.cons (.set 2 (.tup (.cons (.call 1 (.cons (.var 0) (.cons (.int 1) .nil))) .nil))) (.cons (.for_ (.one 3) (.call 2 (.cons (.var 0) (.cons (.var 1) .nil))) b_least_row_0) (.cons (.ret (.bf .tuple (.comp (.one 3) (.slc (.var 2) .miss (.neg (.int 1))) .miss (.idx (.var 3) (.int 0))))) .nil))))
noncomputable def c_least_row (g : G) : List (Str × Fn) := [("look_numbers", F_look_numbers g), ("whole", F_whole g), ("alike_of", F_alike_of g), ("root_row", F_root_row g), ("row_times", F_row_times g)]
noncomputable def F_least_row (g : G) : Fn := runF (g.with (c_least_row g)) 2 4 b_least_row
def b_look_part : S := (.cons (.ite (.lor (.not (.call 0 (.cons (.var 1) (.cons (.int 1) (.cons (.bf .len (.idx (.var 0) (.int 1))) .nil))))) (.one (.cmp .ne (.bin .mod (.bf .len (.idx (.var 0) (.int 1))) (.var 1)) (.int 0)))) (.cons (.raise "BadWhole") .nil) .nil) .nil)
noncomputable def c_look_part (g : G) : List (Str × Fn) := [("is_within", F_is_within g)]
noncomputable def F_look_part (g : G) : Fn := runF (g.with (c_look_part g)) 2 2 b_look_part
def b_steps_of : S := (.cons (.ret (.comp (.one 3) (.range1 (.bin .fdiv (.bf .len (.idx (.var 0) (.int 1))) (.var 2))) .miss (.call 0 (.cons (.var 0) (.cons (.var 1) (.cons (.bin .mul (.var 2) (.var 3)) .nil)))))) .nil)
noncomputable def c_steps_of (g : G) : List (Str × Fn) := [("raised_to", F_raised_to g)]
noncomputable def F_steps_of (g : G) : Fn := runF (g.with (c_steps_of g)) 3 4 b_steps_of
def b_lesser : S := (.cons (.expr (.call 0 (.cons (.var 0) .nil))) (.cons (.expr (.call 1 (.cons (.var 0) (.cons (.var 1) .nil)))) (.cons (.ret (.comp (.one 2) (.call 2 (.cons (.var 0) .nil)) (.cmp .eq (.call 3 (.cons (.var 0) (.cons (.var 2) (.cons (.var 1) .nil)))) (.var 2)) (.var 2))) .nil)))
noncomputable def c_lesser (g : G) : List (Str × Fn) := [("checked", F_checked g), ("look_part", F_look_part g), ("numbers_of", F_numbers_of g), ("raised_to", F_raised_to g)]
noncomputable def F_lesser (g : G) : Fn := runF (g.with (c_lesser g)) 2 3 b_lesser
def b_power : S := (.cons (.expr (.call 0 (.cons (.var 0) (.cons (.lst (.cons (.var 1) .nil)) .nil)))) (.cons (.ite (.not (.call 1 (.cons (.var 2) (.cons (.bin .sub (.int 0) (.glob "MOST_OFTEN")) (.cons (.glob "MOST_OFTEN") .nil))))) (.cons (.raise "BadWhole") .nil) .nil) (.cons (.ite (.cmp .eq (.var 1) (.call 2 (.cons (.var 0) .nil))) (.cons (.ite (.cmp .lt (.var 2) (.int 0)) (.cons (.raise "Zero") .nil) .nil) (.cons (.ret (.call 3 (.cons (.var 0) (.cons (.bf .int (.cmp .eq (.var 2) (.int 0))) .nil)))) .nil)) .nil) (.cons (.ret (.call 5 (.cons (.var 0) (.cons (.var 1) (.cons (.bin .mod (.var 2) (.bin .sub (.call 4 (.cons (.var 0) .nil)) (.int 1))) .nil))))) .nil))))
noncomputable def c_power (g : G) : List (Str × Fn) := [("look_numbers", F_look_numbers g), ("is_within", F_is_within g), ("nought", F_nought g), ("whole", F_whole g), ("size_of", F_size_of g), ("power_of", F_power_of g)]
noncomputable def F_power (g : G) : Fn := runF (g.with (c_power g)) 3 3 b_power
def b_primes_in_0 : S := (.cons (.set 0 (.bin .fdiv (.var 0) (.var 2))) .nil)
def b_primes_in_1 : S := (.cons (.ite (.cmp .eq (.bin .mod (.var 0) (.var 2)) (.int 0)) (.cons (.app 1 (.var 2)) (.cons (.whl (.cmp .eq (.bin .mod (.var 0) (.var 2)) (.int 0)) b_primes_in_0) .nil)) .nil) (.cons (.aug 2 .add (.int 1)) .nil))
def b_primes_in : S := (.cons (.set 1 (.lst .nil)) (.cons (.set 2 (.int 2)) (.cons (.whl (.cmp .gt (.var 0) (.int 1)) b_primes_in_1) (.cons (.ret (.var 1)) .nil))))
noncomputable def c_primes_in (g : G) : List (Str × Fn) := []
noncomputable def F_primes_in (g : G) : Fn := runF (g.with (c_primes_in g)) 1 3 b_primes_in
def b_turns_of_0 : S := (.cons (.set 2 (.bin .fdiv (.var 2) (.var 3))) .nil)
def b_turns_of_1 : S := (.cons (.whl (.land (.cmp .eq (.bin .mod (.var 2) (.var 3)) (.int 0)) (.one (.cmp .eq (.call 2 (.cons (.var 0) (.cons (.var 1) (.cons (.bin .fdiv (.var 2) (.var 3)) .nil)))) (.call 3 (.cons (.var 0) (.cons (.int 1) .nil)))))) b_turns_of_0) .nil)
def b_turns_of : S := (.cons (.set 2 (.bin .sub (.call 0 (.cons (.var 0) .nil)) (.int 1))) (.cons (.for_ (.one 3) (.call 1 (.cons (.var 2) .nil)) b_turns_of_1) (.cons (.ret (.var 2)) .nil)))
noncomputable def c_turns_of (g : G) : List (Str × Fn) := [("size_of", F_size_of g), ("primes_in", F_primes_in g), ("power_of", F_power_of g), ("whole", F_whole g)]
noncomputable def F_turns_of (g : G) : Fn := runF (g.with (c_turns_of g)) 2 4 b_turns_of
def b_look_number : S := (.cons (.expr (.call 0 (.cons (.var 0) (.cons (.lst (.cons (.var 1) .nil)) .nil)))) (.cons (.ite (.cmp .eq (.var 1) (.call 1 (.cons (.var 0) .nil))) (.cons (.raise "Zero") .nil) .nil) .nil))
noncomputable def c_look_number (g : G) : List (Str × Fn) := [("look_numbers", F_look_numbers g), ("nought", F_nought g)]
noncomputable def F_look_number (g : G) : Fn := runF (g.with (c_look_number g)) 2 2 b_look_number
def b_turns : S := (.cons (.expr (.call 0 (.cons (.var 0) (.cons (.var 1) .nil)))) (.cons (.ret (.call 1 (.cons (.var 0) (.cons (.var 1) .nil)))) .nil))
noncomputable def c_turns (g : G) : List (Str × Fn) := [("look_number", F_look_number g), ("turns_of", F_turns_of g)]
noncomputable def F_turns (g : G) : Fn := runF (g.with (c_turns g)) 2 2 b_turns
def b_makers : S := (.cons (.expr (.call 0 (.cons (.var 0) .nil))) (.cons (.set 1 (.comp (.one 2) (.call 1 (.cons (.var 0) .nil)) (.cmp .ne (.var 2) (.call 2 (.cons (.var 0) .nil))) (.var 2))) (.cons (.ret (.comp (.one 2) (.var 1) (.cmp .eq (.call 3 (.cons (.var 0) (.cons (.var 2) .nil))) (.bin .sub (.call 4 (.cons (.var 0) .nil)) (.int 1))) (.var 2))) .nil)))
noncomputable def c_makers (g : G) : List (Str × Fn) := [("checked", F_checked g), ("numbers_of", F_numbers_of g), ("nought", F_nought g), ("turns_of", F_turns_of g), ("size_of", F_size_of g)]
noncomputable def F_makers (g : G) : Fn := runF (g.with (c_makers g)) 1 3 b_makers
def b_log_0 : S := (.cons (.set 4 (.call 4 (.cons (.var 0) (.cons (.var 4) (.cons (.var 1) .nil))))) (.cons (.aug 3 .add (.int 1)) .nil))
def b_log : S := (.cons (.expr (.call 0 (.cons (.var 0) (.cons (.var 1) .nil)))) (.cons (.ite (.cmp .ne (.call 1 (.cons (.var 0) (.cons (.var 1) .nil))) (.bin .sub (.call 2 (.cons (.var 0) .nil)) (.int 1))) (.cons (.raise "NoMaker") .nil) .nil) (.cons (.expr (.call 0 (.cons (.var 0) (.cons (.var 2) .nil)))) (.cons (.set 3 (.int 0)) (.cons (.set 4 (.call 3 (.cons (.var 0) (.cons (.int 1) .nil)))) (.cons (.whl (.cmp .ne (.var 4) (.var 2)) b_log_0) (.cons (.ret (.var 3)) .nil)))))))
noncomputable def c_log (g : G) : List (Str × Fn) := [("look_number", F_look_number g), ("turns_of", F_turns_of g), ("size_of", F_size_of g), ("whole", F_whole g), ("product_of", F_product_of g)]
noncomputable def F_log (g : G) : Fn := runF (g.with (c_log g)) 3 5 b_log
def b_paper : S := (.cons (.expr (.call 0 (.cons (.var 0) (.cons (.var 1) .nil)))) (.cons (.set 2 (.bin .sub (.call 1 (.cons (.var 0) .nil)) (.int 1))) (.cons (.ite (.cmp .ne (.call 2 (.cons (.var 0) (.cons (.var 1) .nil))) (.var 2)) (.cons (.ret .non) .nil) .nil) (.cons (.ret (.comp (.one 3) (.call 3 (.cons (.var 2) .nil)) .miss (.tup (.cons (.var 3) (.cons (.call 4 (.cons (.var 0) (.cons (.var 1) (.cons (.bin .fdiv (.var 2) (.var 3)) .nil)))) .nil))))) .nil))))
noncomputable def c_paper (g : G) : List (Str × Fn) := [("look_number", F_look_number g), ("size_of", F_size_of g), ("turns_of", F_turns_of g), ("primes_in", F_primes_in g), ("power_of", F_power_of g)]
noncomputable def F_paper (g : G) : Fn := runF (g.with (c_paper g)) 2 4 b_paper
def b_solved_0 : S := (.cons (.ite (.cmp .ne (.var 6) (.var 4)) (.cons (.set 9 (.idx (.idx (.var 1) (.var 6)) (.var 4))) (.cons (.seti 1 (.var 6) (.comp (.two 10 11) (.zip (.idx (.var 1) (.var 6)) (.idx (.var 1) (.var 4))) .miss (.bin .mod (.bin .sub (.var 10) (.bin .mul (.var 9) (.var 11))) (.var 0)))) .nil)) .nil) .nil)
def b_solved_1 : S := (.cons (.set 5 (.comp (.one 6) (.range2 (.var 4) (.var 2)) (.cmp .ne (.idx (.idx (.var 1) (.var 6)) (.var 4)) (.int 0)) (.var 6))) (.cons (.ite (.not (.var 5)) (.cons (.ret .non) .nil) .nil) (.cons (.swap 1 (.var 4) (.idx (.var 5) (.int 0)) (.idx (.var 5) (.int 0)) (.var 4)) (.cons (.set 7 (.idx (.comp (.one 8) (.range2 (.int 1) (.var 0)) (.cmp .eq (.bin .mod (.bin .mul (.var 8) (.idx (.idx (.var 1) (.var 4)) (.var 4))) (.var 0)) (.int 1)) (.var 8)) (.int 0))) (.cons (.seti 1 (.var 4) (.comp (.one 8) (.idx (.var 1) (.var 4)) .miss (.bin .mod (.bin .mul (.var 8) (.var 7)) (.var 0)))) (.cons (.for_ (.one 6) (.range1 (.var 2)) b_solved_0) .nil))))))
def b_solved : S := (.cons (.set 2 (.bf .len (.var 1))) (.cons (.set 1 (.comp (.one 3) (.var 1) .miss (.bf .list (.var 3)))) (.cons (.for_ (.one 4) (.range1 (.var 2)) b_solved_1) (.cons (.ret (.bf .tuple (.comp (.one 3) (.var 1) .miss (.idx (.var 3) (.neg (.int 1)))))) .nil))))
noncomputable def c_solved (g : G) : List (Str × Fn) := []
noncomputable def F_solved (g : G) : Fn := runF (g.with (c_solved g)) 2 12 b_solved
def b_figures_of_0 : S := (.cons (.app 3 (.bin .add (.comp (.one 5) (.var 1) .miss (.idx (.var 5) (.var 4))) (.lst (.cons (.idx (.var 2) (.var 4)) .nil)))) .nil)
def b_figures_of : S := (.cons (.set 3 (.lst .nil)) (.cons (.for_ (.one 4) (.range1 (.bf .len (.idx (.var 0) (.int 1)))) b_figures_of_0) (.cons (.ret (.call 0 (.cons (.idx (.var 0) (.int 0)) (.cons (.var 3) .nil)))) .nil)))
noncomputable def c_figures_of (g : G) : List (Str × Fn) := [("solved", F_solved g)]
noncomputable def F_figures_of (g : G) : Fn := runF (g.with (c_figures_of g)) 3 6 b_figures_of
def b_is_base : S := (.cons (.ite (.lor (.not (.isi .tuple (.var 1))) (.one (.cmp .ne (.bf .len (.var 1)) (.bf .len (.idx (.var 0) (.int 1)))))) (.cons (.ret (.bl false)) .nil) .nil) (.cons (.ite (.comp (.one 2) (.var 1) (.not (.call 0 (.cons (.var 0) (.cons (.var 2) .nil)))) (.var 2)) (.cons (.ret (.bl false)) .nil) .nil) (.cons (.ret (.cmp .notn (.call 2 (.cons (.var 0) (.cons (.var 1) (.cons (.call 1 (.cons (.var 0) .nil)) .nil)))) .non)) .nil)))
noncomputable def c_is_base (g : G) : List (Str × Fn) := [("is_number", F_is_number g), ("nought", F_nought g), ("figures_of", F_figures_of g)]
noncomputable def F_is_base (g : G) : Fn := runF (g.with (c_is_base g)) 2 3 b_is_base
def b_checked_base : S := (.cons (.expr (.call 0 (.cons (.var 0) .nil))) (.cons (.ite (.not (.call 1 (.cons (.var 0) (.cons (.var 1) .nil)))) (.cons (.raise "BadBase") .nil) .nil) (.cons (.ret (.var 1)) .nil)))
noncomputable def c_checked_base (g : G) : List (Str × Fn) := [("checked", F_checked g), ("is_base", F_is_base g)]
noncomputable def F_checked_base (g : G) : Fn := runF (g.with (c_checked_base g)) 2 2 b_checked_base
def b_trace_figure_0 : S := (.cons (.set 2 (.call 2 (.cons (.var 0) (.cons (.var 2) (.cons (.var 3) .nil))))) .nil)
def b_trace_figure : S := (.cons (.set 2 (.call 0 (.cons (.var 0) .nil))) (.cons (.for_ (.one 3) (.call 1 (.cons (.var 0) (.cons (.var 1) (.cons (.int 1) .nil)))) b_trace_figure_0) (.cons (.ret (.idx (.var 2) (.int 0))) .nil)))
noncomputable def c_trace_figure (g : G) : List (Str × Fn) := [("nought", F_nought g), ("steps_of", F_steps_of g), ("sum_of", F_sum_of g)]
noncomputable def F_trace_figure (g : G) : Fn := runF (g.with (c_trace_figure g)) 2 4 b_trace_figure
def b_dual_0 : S := (.cons (.set 8 (.comp (.one 9) (.var 2) .miss (.call 3 (.cons (.var 0) (.cons (.call 2 (.cons (.var 0) (.cons (.var 7) (.cons (.var 9) .nil)))) .nil))))) (.cons (.app 5 (.bin .add (.var 8) (.lst (.cons (.bf .int (.cmp .eq (.var 3) (.var 6))) .nil)))) .nil))
def b_dual_1 : S := (.cons (.set 5 (.lst .nil)) (.cons (.for_ (.two 6 7) (.enum (.var 1)) b_dual_0) (.cons (.app 4 (.call 4 (.cons (.idx (.var 0) (.int 0)) (.cons (.var 5) .nil)))) .nil)))
def b_dual : S := (.cons (.expr (.call 0 (.cons (.var 0) (.cons (.var 1) .nil)))) (.cons (.set 2 (.comp (.one 3) (.range1 (.bf .len (.var 1))) .miss (.bin .add (.bin .add (.slc (.call 1 (.cons (.var 0) (.cons (.int 0) .nil))) .miss (.var 3)) (.tup (.cons (.int 1) .nil))) (.slc (.call 1 (.cons (.var 0) (.cons (.int 0) .nil))) (.bin .add (.var 3) (.int 1)) .miss)))) (.cons (.set 4 (.lst .nil)) (.cons (.for_ (.one 3) (.range1 (.bf .len (.var 1))) b_dual_1) (.cons (.ret (.bf .tuple (.var 4))) .nil)))))
noncomputable def c_dual (g : G) : List (Str × Fn) := [("checked_base", F_checked_base g), ("whole", F_whole g), ("product_of", F_product_of g), ("trace_figure", F_trace_figure g), ("solved", F_solved g)]
noncomputable def F_dual (g : G) : Fn := runF (g.with (c_dual g)) 2 10 b_dual
def b_shown : S := (.cons (.expr (.call 0 (.cons (.var 0) .nil))) (.cons (.ret (.bin .add (.bin .add (.bf .str (.idx (.var 0) (.int 0))) (.str ":")) (.met .join (.str "") (.comp (.one 1) (.idx (.var 0) (.int 1)) .miss (.bf .str (.var 1)))))) .nil))
noncomputable def c_shown (g : G) : List (Str × Fn) := [("checked", F_checked g)]
noncomputable def F_shown (g : G) : Fn := runF (g.with (c_shown g)) 1 2 b_shown
def b_images_of : S := (.cons (.ite (.cmp .ne (.idx (.var 0) (.int 0)) (.idx (.var 1) (.int 0))) (.cons (.ret (.lst .nil)) .nil) .nil) (.cons (.ret (.call 1 (.cons (.var 1) (.cons (.call 0 (.cons (.var 1) (.cons (.idx (.var 0) (.int 1)) .nil))) .nil)))) .nil))
noncomputable def c_images_of (g : G) : List (Str × Fn) := [("row_of", F_row_of g), ("roots_of", F_roots_of g)]
noncomputable def F_images_of (g : G) : Fn := runF (g.with (c_images_of g)) 2 2 b_images_of
def b_ways : S := (.cons (.expr (.call 0 (.cons (.var 0) .nil))) (.cons (.expr (.call 0 (.cons (.var 1) .nil))) (.cons (.ret (.call 1 (.cons (.var 0) (.cons (.var 1) .nil)))) .nil)))
noncomputable def c_ways (g : G) : List (Str × Fn) := [("checked", F_checked g), ("images_of", F_images_of g)]
noncomputable def F_ways (g : G) : Fn := runF (g.with (c_ways g)) 2 2 b_ways
def b_L_cell : S := (.cons (.ite (.cmp .lt (.var 1) (.bf .len (.var 0))) (.cons (.ret (.idx (.var 0) (.var 1))) .nil) .nil) (.cons (.ret (.int 0)) .nil))
noncomputable def c_L_cell (g : G) : List (Str × Fn) := []
noncomputable def F_L_cell (g : G) : Fn := runF (g.with (c_L_cell g)) 2 2 b_L_cell
def b_L_mix : S := (.cons (.ret (.bin .mod (.bin .mod (.bin .pow (.bin .mod (.bin .mul (.var 0) (.int 48271)) (.var 1)) (.int 3)) (.var 1)) (.var 2))) .nil)
noncomputable def c_L_mix (g : G) : List (Str × Fn) := []
noncomputable def F_L_mix (g : G) : Fn := runF (g.with (c_L_mix g)) 3 3 b_L_mix
def b_L_rows_0 : S := (.cons (.set 4 (.bin .add (.var 4) (.comp (.one 6) (.range1 (.var 0)) .miss (.bin .add (.var 5) (.tup (.cons (.var 6) .nil)))))) .nil)
def b_L_rows_1 : S := (.cons (.set 4 (.lst .nil)) (.cons (.for_ (.one 5) (.var 2) b_L_rows_0) (.cons (.set 2 (.var 4)) .nil)))
def b_L_rows : S := (.cons (.set 2 (.lst (.cons (.tup .nil) .nil))) (.cons (.for_ (.one 3) (.range1 (.var 1)) b_L_rows_1) (.cons (.ret (.var 2)) .nil)))
noncomputable def c_L_rows (g : G) : List (Str × Fn) := []
noncomputable def F_L_rows (g : G) : Fn := runF (g.with (c_L_rows g)) 2 7 b_L_rows
def b_L_product_0 : S := (.cons (.app 5 (.bin .mod (.bf .sum (.comp (.one 7) (.range1 (.bf .len (.var 3))) (.cmp2 .le .lt (.int 0) (.bin .sub (.var 6) (.var 7)) (.bf .len (.var 4))) (.bin .mul (.idx (.var 3) (.var 7)) (.idx (.var 4) (.bin .sub (.var 6) (.var 7)))))) (.var 0))) .nil)
def b_L_product : S := (.cons (.set 3 (.bin .add (.bf .list (.var 1)) (.lst (.cons (.int 1) .nil)))) (.cons (.set 4 (.bin .add (.bf .list (.var 2)) (.lst (.cons (.int 1) .nil)))) (.cons (.set 5 (.lst .nil)) (.cons (.for_ (.one 6) (.range1 (.bin .add (.bf .len (.var 1)) (.bf .len (.var 2)))) b_L_product_0) (.cons (.ret (.bf .tuple (.var 5))) .nil)))))
noncomputable def c_L_product (g : G) : List (Str × Fn) := []
noncomputable def F_L_product (g : G) : Fn := runF (g.with (c_L_product g)) 3 8 b_L_product
def b_L_is_rule_0 : S := (.cons (.ite (.cmp .eq (.call 1 (.cons (.var 0) (.cons (.var 3) (.cons (.var 4) .nil)))) (.var 1)) (.cons (.ret (.bl false)) .nil) .nil) .nil)
def b_L_is_rule_1 : S := (.cons (.for_ (.one 4) (.call 0 (.cons (.var 0) (.cons (.bin .sub (.bf .len (.var 1)) (.var 2)) .nil))) b_L_is_rule_0) .nil)
def b_L_is_rule_2 : S := (.cons (.for_ (.one 3) (.call 0 (.cons (.var 0) (.cons (.var 2) .nil))) b_L_is_rule_1) .nil)
def b_L_is_rule : S := (.cons (.for_ (.one 2) (.range2 (.int 1) (.bin .add (.bin .fdiv (.bf .len (.var 1)) (.int 2)) (.int 1))) b_L_is_rule_2) (.cons (.ret (.bl true)) .nil))
noncomputable def c_L_is_rule (g : G) : List (Str × Fn) := [("_law_rows", F_L_rows g), ("_law_product", F_L_product g)]
noncomputable def F_L_is_rule (g : G) : Fn := runF (g.with (c_L_is_rule g)) 2 5 b_L_is_rule
def b_L_field_0 : S := (.cons (.ite (.call 3 (.cons (.var 5) (.cons (.var 9) .nil))) (.cons (.ret (.tup (.cons (.var 5) (.cons (.var 9) .nil)))) .nil) .nil) .nil)
def b_L_field : S := (.cons (.set 2 (.call 0 (.cons (.var 0) (.cons (.var 1) .nil)))) (.cons (.set 3 (.lst (.cons (.tup (.cons (.int 2) (.cons (.int 2) .nil))) (.cons (.tup (.cons (.int 2) (.cons (.int 3) .nil))) (.cons (.tup (.cons (.int 3) (.cons (.int 2) .nil))) (.cons (.tup (.cons (.int 2) (.cons (.int 4) .nil))) (.cons (.tup (.cons (.int 5) (.cons (.int 1) .nil))) (.cons (.tup (.cons (.int 3) (.cons (.int 1) .nil))) (.cons (.tup (.cons (.int 5) (.cons (.int 2) .nil))) (.cons (.tup (.cons (.int 3) (.cons (.int 3) .nil))) (.cons (.tup (.cons (.int 2) (.cons (.int 1) .nil))) (.cons (.tup (.cons (.int 7) (.cons (.int 1) .nil))) (.cons (.tup (.cons (.int 7) (.cons (.int 2) .nil))) (.cons (.tup (.cons (.int 2) (.cons (.int 5) .nil))) .nil)))))))))))))) (.cons (.set 4 (.int 9)) (.cons (.ite (.cmp .eq (.call 1 (.cons (.bin .add (.call 0 (.cons (.var 0) (.cons (.int 0) .nil))) (.bin .mul (.int 7) (.bf .len (.var 0)))) (.cons (.int 9871) (.cons (.int 8) .nil)))) (.int 3)) (.cons (.set 4 (.int 12)) .nil) .nil) (.cons (.set2 5 6 (.idx (.var 3) (.call 1 (.cons (.var 2) (.cons (.int 9973) (.cons (.var 4) .nil)))))) (.cons (.set 7 (.call 2 (.cons (.var 5) (.cons (.var 6) .nil)))) (.cons (.set 8 (.call 1 (.cons (.var 2) (.cons (.int 9967) (.cons (.bf .len (.var 7)) .nil))))) (.cons (.for_ (.one 9) (.bin .add (.slc (.var 7) (.var 8) .miss) (.slc (.var 7) .miss (.var 8))) b_L_field_0) (.cons (.ret (.tup (.cons (.var 5) (.cons (.idx (.var 7) (.int 0)) .nil)))) .nil)))))))))
noncomputable def c_L_field (g : G) : List (Str × Fn) := [("_law_cell", F_L_cell g), ("_law_mix", F_L_mix g), ("_law_rows", F_L_rows g), ("_law_is_rule", F_L_is_rule g)]
noncomputable def F_L_field (g : G) : Fn := runF (g.with (c_L_field g)) 2 10 b_L_field
def b_L_spoilt : S := (.cons (.set2 2 3 (.var 0)) (.cons (.set 4 (.idx (.call 0 (.cons (.var 2) (.cons (.bin .add (.int 1) (.bin .mod (.var 1) (.int 2))) .nil))) (.bin .mod (.bin .fdiv (.var 1) (.int 12)) (.var 2)))) (.cons (.set 5 (.lst (.cons (.bf .list (.var 0)) (.cons .non (.cons (.slc (.var 0) .miss (.int 1)) (.cons (.bin .add (.var 0) (.tup (.cons (.int 0) .nil))) (.cons (.tup (.cons (.int 4) (.cons (.var 3) .nil))) (.cons (.tup (.cons (.bl true) (.cons (.var 3) .nil))) (.cons (.tup (.cons (.var 2) (.cons (.bf .list (.var 3)) .nil))) (.cons (.tup (.cons (.var 2) (.cons (.tup .nil) .nil))) .nil)))))))))) (.cons (.set 5 (.bin .add (.var 5) (.lst (.cons (.tup (.cons (.var 2) (.cons (.bin .add (.slc (.var 3) .miss (.neg (.int 1))) (.tup (.cons (.var 2) .nil))) .nil))) (.cons (.tup (.cons (.var 2) (.cons (.bin .add (.slc (.var 3) .miss (.neg (.int 1))) (.tup (.cons (.bl true) .nil))) .nil))) .nil))))) (.cons (.set 5 (.bin .add (.var 5) (.lst (.cons (.tup (.cons (.var 2) (.cons (.call 1 (.cons (.var 2) (.cons (.var 3) (.cons (.var 4) .nil)))) .nil))) .nil)))) (.cons (.ret (.idx (.bin .add (.var 5) (.lst (.cons (.tup (.cons (.int 7) (.cons (.tup (.cons (.int 2) (.cons (.int 0) (.cons (.int 0) .nil)))) .nil))) .nil))) (.bin .mod (.var 1) (.int 12)))) .nil))))))
noncomputable def c_L_spoilt (g : G) : List (Str × Fn) := [("_law_rows", F_L_rows g), ("_law_product", F_L_product g)]
noncomputable def F_L_spoilt (g : G) : Fn := runF (g.with (c_L_spoilt g)) 2 6 b_L_spoilt
def b_monic : S := (.cons (.ite (.not (.var 1)) (.cons (.ret (.var 1)) .nil) .nil) (.cons (.set 2 (.call 0 (.cons (.var 0) (.cons (.idx (.var 1) (.neg (.int 1))) .nil)))) (.cons (.ret (.bf .tuple (.comp (.one 3) (.var 1) .miss (.call 1 (.cons (.var 0) (.cons (.var 3) (.cons (.var 2) .nil))))))) .nil)))
noncomputable def c_monic (g : G) : List (Str × Fn) := [("inverse_of", F_inverse_of g), ("product_of", F_product_of g)]
noncomputable def F_monic (g : G) : Fn := runF (g.with (c_monic g)) 2 4 b_monic
def b_row_common_0 : S := (.cons (.par 1 2 (.var 2) (.idx (.call 0 (.cons (.var 0) (.cons (.var 1) (.cons (.var 2) .nil)))) (.int 1))) .nil)
def b_row_common : S := (.cons (.whl (.var 2) b_row_common_0) (.cons (.ret (.call 1 (.cons (.var 0) (.cons (.var 1) .nil)))) .nil))
noncomputable def c_row_common (g : G) : List (Str × Fn) := [("row_divided", F_row_divided g), ("monic", F_monic g)]
noncomputable def F_row_common (g : G) : Fn := runF (g.with (c_row_common g)) 3 3 b_row_common
def b_common_row : S := (.cons (.expr (.call 0 (.cons (.var 0) (.cons (.lst (.cons (.var 1) (.cons (.var 2) .nil))) .nil)))) (.cons (.ret (.call 1 (.cons (.var 0) (.cons (.var 1) (.cons (.var 2) .nil))))) .nil))
noncomputable def c_common_row (g : G) : List (Str × Fn) := [("look_rows", F_look_rows g), ("row_common", F_row_common g)]
noncomputable def F_common_row (g : G) : Fn := runF (g.with (c_common_row g)) 3 3 b_common_row
def b_alike : S := (.cons (.expr (.call 0 (.cons (.var 0) (.cons (.lst (.cons (.var 1) .nil)) .nil)))) (.cons (.ret (.call 1 (.cons (.var 0) (.cons (.var 1) .nil)))) .nil))
noncomputable def c_alike (g : G) : List (Str × Fn) := [("look_numbers", F_look_numbers g), ("alike_of", F_alike_of g)]
noncomputable def F_alike (g : G) : Fn := runF (g.with (c_alike g)) 2 2 b_alike
def b_trace_0 : S := (.cons (.set 3 (.call 4 (.cons (.var 0) (.cons (.var 3) (.cons (.var 4) .nil))))) .nil)
def b_trace : S := (.cons (.expr (.call 0 (.cons (.var 0) (.cons (.lst (.cons (.var 1) .nil)) .nil)))) (.cons (.expr (.call 1 (.cons (.var 0) (.cons (.var 2) .nil)))) (.cons (.set 3 (.call 2 (.cons (.var 0) .nil))) (.cons (.for_ (.one 4) (.call 3 (.cons (.var 0) (.cons (.var 1) (.cons (.var 2) .nil)))) b_trace_0) (.cons (.ret (.var 3)) .nil)))))
noncomputable def c_trace (g : G) : List (Str × Fn) := [("look_numbers", F_look_numbers g), ("look_part", F_look_part g), ("nought", F_nought g), ("steps_of", F_steps_of g), ("sum_of", F_sum_of g)]
noncomputable def F_trace (g : G) : Fn := runF (g.with (c_trace g)) 3 5 b_trace
def b_norm_0 : S := (.cons (.set 3 (.call 4 (.cons (.var 0) (.cons (.var 3) (.cons (.var 4) .nil))))) .nil)
def b_norm : S := (.cons (.expr (.call 0 (.cons (.var 0) (.cons (.lst (.cons (.var 1) .nil)) .nil)))) (.cons (.expr (.call 1 (.cons (.var 0) (.cons (.var 2) .nil)))) (.cons (.set 3 (.call 2 (.cons (.var 0) (.cons (.int 1) .nil)))) (.cons (.for_ (.one 4) (.call 3 (.cons (.var 0) (.cons (.var 1) (.cons (.var 2) .nil)))) b_norm_0) (.cons (.ret (.var 3)) .nil)))))
noncomputable def c_norm (g : G) : List (Str × Fn) := [("look_numbers", F_look_numbers g), ("look_part", F_look_part g), ("whole", F_whole g), ("steps_of", F_steps_of g), ("product_of", F_product_of g)]
noncomputable def F_norm (g : G) : Fn := runF (g.with (c_norm g)) 3 5 b_norm
def b_home : S := (.cons (.expr (.call 0 (.cons (.var 0) (.cons (.lst (.cons (.var 1) .nil)) .nil)))) (.cons (.ret (.bf .len (.call 1 (.cons (.var 0) (.cons (.var 1) .nil))))) .nil))
noncomputable def c_home (g : G) : List (Str × Fn) := [("look_numbers", F_look_numbers g), ("alike_of", F_alike_of g)]
noncomputable def F_home (g : G) : Fn := runF (g.with (c_home g)) 2 2 b_home
def b_is_paper_0 : S := (.cons (.ite (.lor (.not (.isi .tuple (.var 4))) (.lor (.cmp .ne (.bf .len (.var 4)) (.int 2)) (.one (.not (.call 3 (.cons (.idx (.var 4) (.int 0)) (.cons (.var 5) (.cons (.var 5) .nil)))))))) (.cons (.ret (.bl false)) .nil) .nil) (.cons (.ite (.lor (.cmp .ne (.idx (.var 4) (.int 1)) (.call 4 (.cons (.var 0) (.cons (.var 1) (.cons (.bin .fdiv (.var 3) (.var 5)) .nil))))) (.one (.cmp .eq (.idx (.var 4) (.int 1)) (.call 5 (.cons (.var 0) (.cons (.int 1) .nil)))))) (.cons (.ret (.bl false)) .nil) .nil) .nil))
def b_is_paper : S := (.cons (.expr (.call 0 (.cons (.var 0) (.cons (.var 1) .nil)))) (.cons (.set 3 (.bin .sub (.call 1 (.cons (.var 0) .nil)) (.int 1))) (.cons (.ite (.lor (.not (.isi .list (.var 2))) (.one (.cmp .ne (.bf .len (.var 2)) (.bf .len (.call 2 (.cons (.var 3) .nil)))))) (.cons (.ret (.bl false)) .nil) .nil) (.cons (.for_ (.two 4 5) (.zip (.var 2) (.call 2 (.cons (.var 3) .nil))) b_is_paper_0) (.cons (.ret (.bl true)) .nil)))))
noncomputable def c_is_paper (g : G) : List (Str × Fn) := [("look_number", F_look_number g), ("size_of", F_size_of g), ("primes_in", F_primes_in g), ("is_within", F_is_within g), ("power_of", F_power_of g), ("whole", F_whole g)]
noncomputable def F_is_paper (g : G) : Fn := runF (g.with (c_is_paper g)) 3 6 b_is_paper
def b_told_by : S := (.cons (.expr (.call 0 (.cons (.var 0) (.cons (.var 1) .nil)))) (.cons (.expr (.call 1 (.cons (.var 0) (.cons (.lst (.cons (.var 2) .nil)) .nil)))) (.cons (.ret (.call 2 (.cons (.var 0) (.cons (.var 1) (.cons (.var 2) .nil))))) .nil)))
noncomputable def c_told_by (g : G) : List (Str × Fn) := [("checked_base", F_checked_base g), ("look_numbers", F_look_numbers g), ("figures_of", F_figures_of g)]
noncomputable def F_told_by (g : G) : Fn := runF (g.with (c_told_by g)) 3 3 b_told_by
def b_L_one : S := (.cons (.ret (.bin .add (.tup (.cons (.int 1) .nil)) (.bin .mul (.tup (.cons (.int 0) .nil)) (.bin .sub (.bf .len (.idx (.var 0) (.int 1))) (.int 1))))) .nil)
noncomputable def c_L_one (g : G) : List (Str × Fn) := []
noncomputable def F_L_one (g : G) : Fn := runF (g.with (c_L_one g)) 1 1 b_L_one
def b_L_nought : S := (.cons (.ret (.bin .mul (.tup (.cons (.int 0) .nil)) (.bf .len (.idx (.var 0) (.int 1))))) .nil)
noncomputable def c_L_nought (g : G) : List (Str × Fn) := []
noncomputable def F_L_nought (g : G) : Fn := runF (g.with (c_L_nought g)) 1 1 b_L_nought
def b_L_by_number : S := (.cons (.ite (.cmp .eq (.var 0) (.int 0)) (.cons (.ret (.call 0 (.cons (.var 1) (.cons (.var 3) (.cons (.var 2) .nil))))) .nil) .nil) (.cons (.ite (.cmp .eq (.var 0) (.int 1)) (.cons (.ret (.call 1 (.cons (.var 1) (.cons (.var 2) (.cons (.var 3) .nil))))) .nil) .nil) (.cons (.ite (.cmp .eq (.var 0) (.int 2)) (.cons (.ret (.call 2 (.cons (.var 1) (.cons (.var 2) (.cons .non .nil))))) .nil) .nil) (.cons (.ite (.cmp .eq (.var 0) (.int 3)) (.cons (.ret (.call 3 (.cons (.var 1) (.cons (.var 2) (.cons .non .nil))))) .nil) .nil) (.cons (.ite (.cmp .eq (.var 0) (.int 4)) (.cons (.ret (.call 4 (.cons (.var 1) (.cons (.var 2) (.cons .non .nil))))) .nil) .nil) (.cons (.ite (.cmp .eq (.var 0) (.int 5)) (.cons (.ret (.call 5 (.cons (.var 1) (.cons (.var 2) .nil)))) .nil) .nil) (.cons (.ite (.cmp .eq (.var 0) (.int 6)) (.cons (.ret (.call 6 (.cons (.var 1) (.cons (.var 2) (.cons .non .nil))))) .nil) .nil) (.cons (.ite (.cmp .eq (.var 0) (.int 7)) (.cons (.ret (.call 7 (.cons (.var 1) (.cons (.var 2) .nil)))) .nil) .nil) (.cons (.ite (.cmp .eq (.var 0) (.int 8)) (.cons (.ret (.call 8 (.cons (.var 1) (.cons (.var 2) (.cons .non .nil))))) .nil) .nil) (.cons (.ite (.cmp .eq (.var 0) (.int 9)) (.cons (.ret (.call 9 (.cons (.var 1) (.cons (.tup .nil) (.cons (.var 2) .nil))))) .nil) .nil) (.cons (.ite (.cmp .eq (.var 0) (.int 10)) (.cons (.ret (.call 10 (.cons (.var 1) (.cons (.lst (.cons (.var 3) (.cons (.var 2) .nil))) .nil)))) .nil) .nil) (.cons (.ite (.cmp .eq (.var 0) (.int 11)) (.cons (.ret (.call 11 (.cons (.var 1) (.cons (.var 2) (.cons .non .nil))))) .nil) .nil) (.cons (.ite (.cmp .eq (.var 0) (.int 12)) (.cons (.ret (.call 12 (.cons (.var 1) (.cons (.var 2) .nil)))) .nil) .nil) (.cons (.ite (.cmp .eq (.var 0) (.int 13)) (.cons (.ret (.call 13 (.cons (.var 1) (.cons (.var 2) (.cons .non .nil))))) .nil) .nil) (.cons (.ret (.call 14 (.cons (.var 1) (.cons (.var 2) .nil)))) .nil)))))))))))))))
noncomputable def c_L_by_number (g : G) : List (Str × Fn) := [("plus", F_plus g), ("minus", F_minus g), ("times", F_times g), ("over", F_over g), ("power", F_power g), ("turns", F_turns g), ("log", F_log g), ("paper", F_paper g), ("is_paper", F_is_paper g), ("value", F_value g), ("with_roots", F_with_roots g), ("raised", F_raised g), ("alike", F_alike g), ("trace", F_trace g), ("home", F_home g)]
noncomputable def F_L_by_number (g : G) : Fn := runF (g.with (c_L_by_number g)) 4 4 b_L_by_number
def b_L_by_row : S := (.cons (.ite (.cmp .eq (.var 0) (.int 0)) (.cons (.ret (.call 0 (.cons (.var 1) (.cons (.var 2) (.cons .non .nil))))) .nil) .nil) (.cons (.ite (.cmp .eq (.var 0) (.int 1)) (.cons (.ret (.call 1 (.cons (.var 1) (.cons (.tup .nil) (.cons (.var 2) .nil))))) .nil) .nil) (.cons (.ite (.cmp .eq (.var 0) (.int 2)) (.cons (.ret (.call 2 (.cons (.var 1) (.cons (.var 2) (.cons (.tup .nil) .nil))))) .nil) .nil) (.cons (.ite (.cmp .eq (.var 0) (.int 3)) (.cons (.ret (.call 3 (.cons (.var 1) (.cons (.var 2) (.cons (.tup .nil) .nil))))) .nil) .nil) (.cons (.ite (.cmp .eq (.var 0) (.int 4)) (.cons (.ret (.call 4 (.cons (.var 1) (.cons (.var 2) .nil)))) .nil) .nil) (.cons (.ret (.call 5 (.cons (.var 1) (.cons (.var 2) .nil)))) .nil))))))
noncomputable def c_L_by_row (g : G) : List (Str × Fn) := [("value", F_value g), ("multiplied", F_multiplied g), ("divided_by", F_divided_by g), ("common_row", F_common_row g), ("split", F_split g), ("roots", F_roots g)]
noncomputable def F_L_by_row (g : G) : Fn := runF (g.with (c_L_by_row g)) 3 3 b_L_by_row
def b_L_by_nought : S := (.cons (.ite (.cmp .eq (.var 0) (.int 0)) (.cons (.ret (.call 0 (.cons (.var 1) (.cons (.var 3) (.cons (.var 2) .nil))))) .nil) .nil) (.cons (.ite (.cmp .eq (.var 0) (.int 1)) (.cons (.ret (.call 1 (.cons (.var 1) (.cons (.var 2) (.cons (.neg (.int 1)) .nil))))) .nil) .nil) (.cons (.ite (.cmp .eq (.var 0) (.int 2)) (.cons (.ret (.call 2 (.cons (.var 1) (.cons (.var 2) .nil)))) .nil) .nil) (.cons (.ite (.cmp .eq (.var 0) (.int 3)) (.cons (.ret (.call 3 (.cons (.var 1) (.cons (.var 2) (.cons .non .nil))))) .nil) .nil) (.cons (.ite (.cmp .eq (.var 0) (.int 4)) (.cons (.ret (.call 4 (.cons (.var 1) (.cons (.var 2) .nil)))) .nil) .nil) (.cons (.ite (.cmp .eq (.var 0) (.int 5)) (.cons (.ret (.call 5 (.cons (.var 1) (.cons (.tup (.cons (.var 3) .nil)) (.cons (.tup .nil) .nil))))) .nil) .nil) (.cons (.ite (.cmp .eq (.var 0) (.int 6)) (.cons (.ret (.call 6 (.cons (.var 1) (.cons (.tup .nil) .nil)))) .nil) .nil) (.cons (.ret (.call 7 (.cons (.var 1) (.cons (.var 2) (.cons .non .nil))))) .nil))))))))
noncomputable def c_L_by_nought (g : G) : List (Str × Fn) := [("over", F_over g), ("power", F_power g), ("turns", F_turns g), ("log", F_log g), ("paper", F_paper g), ("divided_by", F_divided_by g), ("split", F_split g), ("is_paper", F_is_paper g)]
noncomputable def F_L_by_nought (g : G) : Fn := runF (g.with (c_L_by_nought g)) 4 4 b_L_by_nought
def b_L_others : S := (.cons (.ite (.cmp .eq (.var 0) (.int 0)) (.cons (.ret (.call 0 (.cons (.var 1) (.cons (.var 3) (.cons (.var 2) .nil))))) .nil) .nil) (.cons (.ite (.cmp .eq (.var 0) (.int 1)) (.cons (.ret (.call 1 (.cons (.var 1) (.cons (.var 3) (.cons (.var 2) .nil))))) .nil) .nil) (.cons (.ite (.cmp .eq (.var 0) (.int 2)) (.cons (.ret (.call 2 (.cons (.var 1) (.cons (.var 3) (.cons (.var 2) .nil))))) .nil) .nil) (.cons (.ite (.cmp .eq (.var 0) (.int 3)) (.cons (.ret (.call 3 (.cons (.var 1) (.cons (.var 3) (.cons (.var 2) .nil))))) .nil) .nil) (.cons (.ite (.cmp .eq (.var 0) (.int 4)) (.cons (.ret (.call 4 (.cons (.var 1) (.cons (.var 2) .nil)))) .nil) .nil) (.cons (.ite (.cmp .eq (.var 0) (.int 5)) (.cons (.ret (.call 5 (.cons (.var 1) (.cons (.var 2) .nil)))) .nil) .nil) (.cons (.ite (.cmp .eq (.var 0) (.int 6)) (.cons (.ret (.call 6 (.cons (.var 1) (.cons (.var 2) (.cons .non .nil))))) .nil) .nil) (.cons (.ret (.call 7 (.cons (.var 1) (.cons (.var 2) .nil)))) .nil))))))))
noncomputable def c_L_others (g : G) : List (Str × Fn) := [("power", F_power g), ("raised", F_raised g), ("trace", F_trace g), ("norm", F_norm g), ("lesser", F_lesser g), ("checked_base", F_checked_base g), ("told_by", F_told_by g), ("dual", F_dual g)]
noncomputable def F_L_others (g : G) : Fn := runF (g.with (c_L_others g)) 4 4 b_L_others
def b_look_prime : S := (.cons (.ite (.not (.call 0 (.cons (.var 0) .nil))) (.cons (.raise "BadWhole") .nil) .nil) .nil)
noncomputable def c_look_prime (g : G) : List (Str × Fn) := [("is_prime", F_is_prime g)]
noncomputable def F_look_prime (g : G) : Fn := runF (g.with (c_look_prime g)) 1 1 b_look_prime
def b_parts_0 : S := (.cons (.set 4 (.call 2 (.cons (.var 0) (.cons (.var 2) .nil)))) (.cons (.ite (.land (.var 3) (.one (.cmp .eq (.idx (.idx (.var 3) (.neg (.int 1))) (.int 0)) (.var 4)))) (.cons (.seti 3 (.neg (.int 1)) (.tup (.cons (.var 4) (.cons (.bin .add (.idx (.idx (.var 3) (.neg (.int 1))) (.int 1)) (.int 1)) .nil)))) .nil) (.cons (.app 3 (.tup (.cons (.var 4) (.cons (.int 1) .nil)))) .nil)) (.cons (.set 2 (.idx (.call 3 (.cons (.var 0) (.cons (.var 2) (.cons (.var 4) .nil)))) (.int 0))) .nil)))
def b_parts : S := (.cons (.expr (.call 0 (.cons (.var 0) .nil))) (.cons (.ite (.not (.call 1 (.cons (.var 0) (.cons (.var 1) (.cons (.int 1) (.cons (.glob "MOST_FIGURES") .nil)))))) (.cons (.raise "BadRow") .nil) .nil) (.cons (.set 2 (.var 1)) (.cons (.set 3 (.lst .nil)) (.cons (.whl (.var 2) b_parts_0) (.cons (.ret (.var 3)) .nil))))))
noncomputable def c_parts (g : G) : List (Str × Fn) := [("look_prime", F_look_prime g), ("are_figures", F_are_figures g), ("first_part", F_first_part g), ("divided", F_divided g)]
noncomputable def F_parts (g : G) : Fn := runF (g.with (c_parts g)) 2 5 b_parts
def b_rules : S := (.cons (.expr (.call 0 (.cons (.var 0) .nil))) (.cons (.ite (.lor (.not (.call 1 (.cons (.var 1) (.cons (.int 1) (.cons (.glob "MOST_FIGURES") .nil))))) (.one (.cmp .gt (.call 2 (.cons (.var 0) (.cons (.var 1) .nil))) (.glob "MOST_NUMBERS")))) (.cons (.raise "BadWhole") .nil) .nil) (.cons (.ret (.comp (.one 2) (.call 3 (.cons (.var 0) (.cons (.var 1) .nil))) (.call 4 (.cons (.var 0) (.cons (.var 2) .nil))) (.var 2))) .nil)))
noncomputable def c_rules (g : G) : List (Str × Fn) := [("look_prime", F_look_prime g), ("is_within", F_is_within g), ("times_as", F_times_as g), ("rows_of", F_rows_of g), ("is_whole", F_is_whole g)]
noncomputable def F_rules (g : G) : Fn := runF (g.with (c_rules g)) 2 3 b_rules
def b_L_whole : S := (.cons (.ret (.land (.isi .int (.var 0)) (.one (.not (.isi .bool (.var 0)))))) .nil)
noncomputable def c_L_whole (g : G) : List (Str × Fn) := []
noncomputable def F_L_whole (g : G) : Fn := runF (g.with (c_L_whole g)) 1 1 b_L_whole
def b_L_plus : S := (.cons (.ret (.bf .tuple (.comp (.one 3) (.range1 (.bf .len (.var 1))) .miss (.bin .mod (.bin .add (.idx (.var 1) (.var 3)) (.idx (.var 2) (.var 3))) (.idx (.var 0) (.int 0)))))) .nil)
noncomputable def c_L_plus (g : G) : List (Str × Fn) := []
noncomputable def F_L_plus (g : G) : Fn := runF (g.with (c_L_plus g)) 3 4 b_L_plus
def b_L_step_0 : S := (.cons (.app 5 (.bin .sub (.idx (.var 1) (.bin .sub (.var 6) (.int 1))) (.bin .mul (.var 4) (.idx (.var 3) (.var 6))))) .nil)
def b_L_step : S := (.cons (.set2 2 3 (.var 0)) (.cons (.set 4 (.idx (.var 1) (.neg (.int 1)))) (.cons (.set 5 (.lst (.cons (.bin .sub (.int 0) (.bin .mul (.var 4) (.idx (.var 3) (.int 0)))) .nil))) (.cons (.for_ (.one 6) (.range2 (.int 1) (.bf .len (.var 3))) b_L_step_0) (.cons (.ret (.bf .tuple (.comp (.one 7) (.var 5) .miss (.bin .mod (.var 7) (.var 2))))) .nil)))))
noncomputable def c_L_step (g : G) : List (Str × Fn) := []
noncomputable def F_L_step (g : G) : Fn := runF (g.with (c_L_step g)) 2 8 b_L_step
def b_L_times_0 : S := (.cons (.set 3 (.call 0 (.cons (.var 0) (.cons (.var 3) (.cons (.bf .tuple (.comp (.one 6) (.var 4) .miss (.bin .mod (.bin .mul (.var 5) (.var 6)) (.idx (.var 0) (.int 0))))) .nil))))) (.cons (.set 4 (.call 1 (.cons (.var 0) (.cons (.var 4) .nil)))) .nil))
def b_L_times : S := (.cons (.ite (.cmp .eq (.bf .len (.idx (.var 0) (.int 1))) (.int 1)) (.cons (.ret (.tup (.cons (.bin .mod (.bin .mul (.idx (.var 1) (.int 0)) (.idx (.var 2) (.int 0))) (.idx (.var 0) (.int 0))) .nil))) .nil) .nil) (.cons (.set 3 (.bin .mul (.tup (.cons (.int 0) .nil)) (.bf .len (.var 1)))) (.cons (.set 4 (.var 1)) (.cons (.for_ (.one 5) (.var 2) b_L_times_0) (.cons (.ret (.var 3)) .nil)))))
noncomputable def c_L_times (g : G) : List (Str × Fn) := [("_law_plus", F_L_plus g), ("_law_step", F_L_step g)]
noncomputable def F_L_times (g : G) : Fn := runF (g.with (c_L_times g)) 3 7 b_L_times
def b_L_power_0 : S := (.cons (.set 3 (.call 1 (.cons (.var 0) (.cons (.var 3) (.cons (.var 1) .nil))))) .nil)
def b_L_power : S := (.cons (.set 3 (.call 0 (.cons (.var 0) .nil))) (.cons (.for_ (.one 4) (.range1 (.var 2)) b_L_power_0) (.cons (.ret (.var 3)) .nil)))
noncomputable def c_L_power (g : G) : List (Str × Fn) := [("_law_one", F_L_one g), ("_law_times", F_L_times g)]
noncomputable def F_L_power (g : G) : Fn := runF (g.with (c_L_power g)) 3 5 b_L_power
def b_L_number : S := (.cons (.ret (.bf .tuple (.comp (.one 2) (.range1 (.bf .len (.idx (.var 0) (.int 1)))) .miss (.call 0 (.cons (.bin .pow (.bin .add (.var 1) (.bin .mul (.int 41) (.var 2))) (.int 2)) (.cons (.int 9949) (.cons (.idx (.var 0) (.int 0)) .nil))))))) .nil)
noncomputable def c_L_number (g : G) : List (Str × Fn) := [("_law_mix", F_L_mix g)]
noncomputable def F_L_number (g : G) : Fn := runF (g.with (c_L_number g)) 2 3 b_L_number
def b_L_over : S := (.cons (.tryx (.cons (.ret (.call 0 (.cons (.var 0) (.cons (.var 1) (.cons (.var 2) .nil))))) .nil) "Zero" (some 3) (.cons (.ret (.lst (.cons (.isx 3 "FieldError") .nil))) .nil)) .nil)
noncomputable def c_L_over (g : G) : List (Str × Fn) := [("over", F_over g)]
noncomputable def F_L_over (g : G) : Fn := runF (g.with (c_L_over g)) 3 4 b_L_over
def b_L_size_0 : S := (.cons (.set 1 (.bin .mul (.var 1) (.idx (.var 0) (.int 0)))) .nil)
def b_L_size : S := (.cons (.set 1 (.int 1)) (.cons (.for_ (.one 2) (.idx (.var 0) (.int 1)) b_L_size_0) (.cons (.ret (.var 1)) .nil)))
noncomputable def c_L_size (g : G) : List (Str × Fn) := []
noncomputable def F_L_size (g : G) : Fn := runF (g.with (c_L_size g)) 1 3 b_L_size
def b_L_gcd_0 : S := (.cons (.par 0 1 (.var 1) (.bin .mod (.var 0) (.var 1))) .nil)
def b_L_gcd : S := (.cons (.whl (.cmp .ne (.var 1) (.int 0)) b_L_gcd_0) (.cons (.ret (.var 0)) .nil))
noncomputable def c_L_gcd (g : G) : List (Str × Fn) := []
noncomputable def F_L_gcd (g : G) : Fn := runF (g.with (c_L_gcd g)) 2 2 b_L_gcd
def b_L_turns_0 : S := (.cons (.set 2 (.call 1 (.cons (.var 0) (.cons (.var 2) (.cons (.var 1) .nil))))) (.cons (.set 3 (.bin .add (.var 3) (.int 1))) .nil))
def b_L_turns : S := (.cons (.set 2 (.var 1)) (.cons (.set 3 (.int 1)) (.cons (.whl (.cmp .ne (.var 2) (.call 0 (.cons (.var 0) .nil))) b_L_turns_0) (.cons (.ret (.var 3)) .nil))))
noncomputable def c_L_turns (g : G) : List (Str × Fn) := [("_law_one", F_L_one g), ("_law_times", F_L_times g)]
noncomputable def F_L_turns (g : G) : Fn := runF (g.with (c_L_turns g)) 2 4 b_L_turns
def b_L_primes_0 : S := (.cons (.ite (.land (.cmp .eq (.bin .mod (.var 0) (.var 2)) (.int 0)) (.one (.cmp .eq (.comp (.one 3) (.var 1) (.cmp .eq (.bin .mod (.var 2) (.var 3)) (.int 0)) (.var 3)) (.lst .nil)))) (.cons (.app 1 (.var 2)) .nil) .nil) .nil)
def b_L_primes : S := (.cons (.set 1 (.lst .nil)) (.cons (.for_ (.one 2) (.range2 (.int 2) (.bin .add (.var 0) (.int 1))) b_L_primes_0) (.cons (.ret (.var 1)) .nil)))
noncomputable def c_L_primes (g : G) : List (Str × Fn) := []
noncomputable def F_L_primes (g : G) : Fn := runF (g.with (c_L_primes g)) 1 4 b_L_primes
def b_L_good_0 : S := (.cons (.ite (.lor (.not (.isi .tuple (.var 4))) (.lor (.cmp .ne (.bf .len (.var 4)) (.int 2)) (.lor (.not (.call 2 (.cons (.idx (.var 4) (.int 0)) .nil))) (.one (.cmp .ne (.idx (.var 4) (.int 0)) (.var 5)))))) (.cons (.ret (.bl false)) .nil) .nil) (.cons (.ite (.lor (.cmp .ne (.idx (.var 4) (.int 1)) (.call 3 (.cons (.var 0) (.cons (.var 1) (.cons (.bin .fdiv (.var 3) (.var 5)) .nil))))) (.one (.cmp .eq (.idx (.var 4) (.int 1)) (.call 4 (.cons (.var 0) .nil))))) (.cons (.ret (.bl false)) .nil) .nil) .nil))
def b_L_good : S := (.cons (.set 3 (.bin .sub (.call 0 (.cons (.var 0) .nil)) (.int 1))) (.cons (.ite (.lor (.not (.isi .list (.var 2))) (.one (.cmp .ne (.bf .len (.var 2)) (.bf .len (.call 1 (.cons (.var 3) .nil)))))) (.cons (.ret (.bl false)) .nil) .nil) (.cons (.for_ (.two 4 5) (.zip (.var 2) (.call 1 (.cons (.var 3) .nil))) b_L_good_0) (.cons (.ret (.bl true)) .nil))))
noncomputable def c_L_good (g : G) : List (Str × Fn) := [("_law_size", F_L_size g), ("_law_primes", F_L_primes g), ("_law_whole", F_L_whole g), ("_law_power", F_L_power g), ("_law_one", F_L_one g)]
noncomputable def F_L_good (g : G) : Fn := runF (g.with (c_L_good g)) 3 6 b_L_good
def b_L_other : S := (.cons (.ite (.cmp .eq (.var 0) (.lst .nil)) (.cons (.ret (.idx (.lst (.cons (.lst .nil) (.cons .non (.cons (.tup .nil) (.cons (.lst (.cons .non .nil)) (.cons (.lst (.cons (.tup (.cons (.int 2) (.cons (.call 0 (.cons (.var 1) .nil)) .nil))) .nil)) .nil)))))) (.bin .mod (.var 2) (.int 5)))) .nil) .nil) (.cons (.set 3 (.bin .mod (.var 2) (.bf .len (.var 0)))) (.cons (.set2 4 5 (.idx (.var 0) (.var 3))) (.cons (.set 6 (.lst (.cons (.bin .add (.slc (.var 0) .miss (.var 3)) (.slc (.var 0) (.bin .add (.var 3) (.int 1)) .miss)) (.cons (.bin .add (.var 0) (.slc (.var 0) .miss (.int 1))) (.cons (.bf .tuple (.var 0)) .nil))))) (.cons (.set 6 (.bin .add (.var 6) (.lst (.cons (.bin .add (.bin .add (.slc (.var 0) .miss (.var 3)) (.lst (.cons (.tup (.cons (.bin .add (.var 4) (.int 1)) (.cons (.var 5) .nil))) .nil))) (.slc (.var 0) (.bin .add (.var 3) (.int 1)) .miss)) .nil)))) (.cons (.app 6 (.bin .add (.bin .add (.slc (.var 0) .miss (.var 3)) (.lst (.cons (.tup (.cons (.var 4) (.cons (.call 1 (.cons (.var 1) (.cons (.var 5) (.cons (.var 5) .nil)))) .nil))) .nil))) (.slc (.var 0) (.bin .add (.var 3) (.int 1)) .miss))) (.cons (.ret (.idx (.bin .add (.var 6) (.lst (.cons (.bin .add (.bin .add (.slc (.var 0) .miss (.var 3)) (.lst (.cons (.tup (.cons (.var 4) .nil)) .nil))) (.slc (.var 0) (.bin .add (.var 3) (.int 1)) .miss)) (.cons .non .nil)))) (.bin .mod (.bin .fdiv (.var 2) (.int 5)) (.int 7)))) .nil)))))))
noncomputable def c_L_other (g : G) : List (Str × Fn) := [("_law_one", F_L_one g), ("_law_times", F_L_times g)]
noncomputable def F_L_other (g : G) : Fn := runF (g.with (c_L_other g)) 3 7 b_L_other
def b_L_at_0 : S := (.cons (.set 3 (.call 3 (.cons (.var 0) (.cons (.var 3) (.cons (.call 2 (.cons (.var 0) (.cons (.var 5) (.cons (.var 4) .nil)))) .nil))))) (.cons (.set 4 (.call 2 (.cons (.var 0) (.cons (.var 4) (.cons (.var 2) .nil))))) .nil))
def b_L_at : S := (.cons (.set 3 (.call 0 (.cons (.var 0) .nil))) (.cons (.set 4 (.call 1 (.cons (.var 0) .nil))) (.cons (.for_ (.one 5) (.var 1) b_L_at_0) (.cons (.ret (.var 3)) .nil))))
noncomputable def c_L_at (g : G) : List (Str × Fn) := [("_law_nought", F_L_nought g), ("_law_one", F_L_one g), ("_law_times", F_L_times g), ("_law_plus", F_L_plus g)]
noncomputable def F_L_at (g : G) : Fn := runF (g.with (c_L_at g)) 3 6 b_L_at
def b_L_row_0 : S := (.cons (.app 3 (.call 2 (.cons (.var 0) (.cons (.bin .add (.bin .add (.call 0 (.cons (.var 1) (.cons (.bin .add (.var 2) (.int 1)) .nil))) (.bin .mul (.bin .mul (.int 53) (.var 4)) (.var 4))) (.bin .mul (.int 3) (.var 4))) .nil)))) .nil)
def b_L_row_1 : S := (.cons (.pop 3) .nil)
def b_L_row : S := (.cons (.set 3 (.lst .nil)) (.cons (.for_ (.one 4) (.range1 (.call 1 (.cons (.call 0 (.cons (.var 1) (.cons (.var 2) .nil))) (.cons (.int 9941) (.cons (.int 6) .nil))))) b_L_row_0) (.cons (.whl (.land (.cmp .ne (.var 3) (.lst .nil)) (.one (.cmp .eq (.idx (.var 3) (.neg (.int 1))) (.call 3 (.cons (.var 0) .nil))))) b_L_row_1) (.cons (.ret (.bf .tuple (.var 3))) .nil))))
noncomputable def c_L_row (g : G) : List (Str × Fn) := [("_law_cell", F_L_cell g), ("_law_mix", F_L_mix g), ("_law_number", F_L_number g), ("_law_nought", F_L_nought g)]
noncomputable def F_L_row (g : G) : Fn := runF (g.with (c_L_row g)) 3 5 b_L_row
def b_L_multiplied_0 : S := (.cons (.ite (.cmp2 .le .lt (.int 0) (.bin .sub (.var 4) (.var 6)) (.bf .len (.var 2))) (.cons (.set 5 (.call 2 (.cons (.var 0) (.cons (.var 5) (.cons (.call 1 (.cons (.var 0) (.cons (.idx (.var 1) (.var 6)) (.cons (.idx (.var 2) (.bin .sub (.var 4) (.var 6))) .nil)))) .nil))))) .nil) .nil) .nil)
def b_L_multiplied_1 : S := (.cons (.set 5 (.call 0 (.cons (.var 0) .nil))) (.cons (.for_ (.one 6) (.range1 (.bf .len (.var 1))) b_L_multiplied_0) (.cons (.app 3 (.var 5)) .nil)))
def b_L_multiplied : S := (.cons (.set 3 (.lst .nil)) (.cons (.for_ (.one 4) (.range1 (.bin .sub (.bin .add (.bf .len (.var 1)) (.bf .len (.var 2))) (.int 1))) b_L_multiplied_1) (.cons (.ite (.lor (.cmp .eq (.var 1) (.tup .nil)) (.one (.cmp .eq (.var 2) (.tup .nil)))) (.cons (.ret (.tup .nil)) .nil) .nil) (.cons (.ret (.bf .tuple (.var 3))) .nil))))
noncomputable def c_L_multiplied (g : G) : List (Str × Fn) := [("_law_nought", F_L_nought g), ("_law_times", F_L_times g), ("_law_plus", F_L_plus g)]
noncomputable def F_L_multiplied (g : G) : Fn := runF (g.with (c_L_multiplied g)) 3 7 b_L_multiplied
def b_L_off : S := (.cons (.ret (.tup (.cons (.bf .tuple (.comp (.one 2) (.var 1) .miss (.bin .mod (.bin .sub (.int 0) (.var 2)) (.idx (.var 0) (.int 0))))) (.cons (.call 0 (.cons (.var 0) .nil)) .nil)))) .nil)
noncomputable def c_L_off (g : G) : List (Str × Fn) := [("_law_one", F_L_one g)]
noncomputable def F_L_off (g : G) : Fn := runF (g.with (c_L_off g)) 2 3 b_L_off
def b_L_raised_0 : S := (.cons (.set 1 (.call 0 (.cons (.var 0) (.cons (.var 1) (.cons (.idx (.var 0) (.int 0)) .nil))))) .nil)
def b_L_raised : S := (.cons (.for_ (.one 3) (.range1 (.var 2)) b_L_raised_0) (.cons (.ret (.var 1)) .nil))
noncomputable def c_L_raised (g : G) : List (Str × Fn) := [("_law_power", F_L_power g)]
noncomputable def F_L_raised (g : G) : Fn := runF (g.with (c_L_raised g)) 3 4 b_L_raised
def b_L_big : S := (.cons (.set 2 (.call 0 (.cons (.var 0) (.cons (.var 1) .nil)))) (.cons (.set 3 (.lst (.cons (.tup (.cons (.int 2) (.cons (.tup (.cons (.int 1) (.cons (.int 1) (.cons (.int 0) (.cons (.int 0) .nil))))) .nil))) (.cons (.tup (.cons (.int 2) (.cons (.tup (.cons (.int 1) (.cons (.int 1) (.cons (.int 0) (.cons (.int 0) (.cons (.int 0) (.cons (.int 0) .nil))))))) .nil))) (.cons (.tup (.cons (.int 3) (.cons (.tup (.cons (.int 1) (.cons (.int 2) (.cons (.int 0) .nil)))) .nil))) (.cons (.tup (.cons (.int 3) (.cons (.tup (.cons (.int 2) (.cons (.int 1) (.cons (.int 0) (.cons (.int 0) .nil))))) .nil))) .nil)))))) (.cons (.ite (.cmp .lt (.bin .mod (.var 2) (.int 5)) (.int 4)) (.cons (.ret (.idx (.var 3) (.bin .mod (.var 2) (.int 5)))) .nil) .nil) (.cons (.ret (.call 1 (.cons (.var 0) (.cons (.bin .add (.var 1) (.int 1)) .nil)))) .nil))))
noncomputable def c_L_big (g : G) : List (Str × Fn) := [("_law_cell", F_L_cell g), ("_law_field", F_L_field g)]
noncomputable def F_L_big (g : G) : Fn := runF (g.with (c_L_big g)) 2 4 b_L_big
def b_look_way : S := (.cons (.expr (.call 0 (.cons (.var 0) .nil))) (.cons (.expr (.call 0 (.cons (.var 1) .nil))) (.cons (.ite (.lor (.cmp .ne (.idx (.var 0) (.int 0)) (.idx (.var 1) (.int 0))) (.one (.not (.call 1 (.cons (.var 1) (.cons (.var 2) .nil)))))) (.cons (.raise "BadWay") .nil) .nil) (.cons (.ite (.cmp .ne (.call 3 (.cons (.var 1) (.cons (.call 2 (.cons (.var 1) (.cons (.idx (.var 0) (.int 1)) .nil))) (.cons (.var 2) .nil)))) (.call 4 (.cons (.var 1) .nil))) (.cons (.raise "BadWay") .nil) .nil) .nil))))
noncomputable def c_look_way (g : G) : List (Str × Fn) := [("checked", F_checked g), ("is_number", F_is_number g), ("row_of", F_row_of g), ("value_of", F_value_of g), ("nought", F_nought g)]
noncomputable def F_look_way (g : G) : Fn := runF (g.with (c_look_way g)) 3 3 b_look_way
def b_carried : S := (.cons (.ret (.call 1 (.cons (.var 0) (.cons (.bf .tuple (.comp (.one 3) (.var 2) .miss (.call 0 (.cons (.var 0) (.cons (.var 3) .nil))))) (.cons (.var 1) .nil))))) .nil)
noncomputable def c_carried (g : G) : List (Str × Fn) := [("whole", F_whole g), ("value_of", F_value_of g)]
noncomputable def F_carried (g : G) : Fn := runF (g.with (c_carried g)) 3 4 b_carried
def b_led : S := (.cons (.expr (.call 0 (.cons (.var 0) (.cons (.var 1) (.cons (.var 2) .nil))))) (.cons (.ite (.not (.call 1 (.cons (.var 0) (.cons (.var 3) .nil)))) (.cons (.raise "BadNumber") .nil) .nil) (.cons (.ret (.call 2 (.cons (.var 1) (.cons (.var 2) (.cons (.var 3) .nil))))) .nil)))
noncomputable def c_led (g : G) : List (Str × Fn) := [("look_way", F_look_way g), ("is_number", F_is_number g), ("carried", F_carried g)]
noncomputable def F_led (g : G) : Fn := runF (g.with (c_led g)) 4 4 b_led
def b_led_back_0 : S := (.cons (.ite (.cmp .eq (.call 3 (.cons (.var 1) (.cons (.var 2) (.cons (.var 4) .nil)))) (.var 3)) (.cons (.ret (.var 4)) .nil) .nil) .nil)
def b_led_back : S := (.cons (.expr (.call 0 (.cons (.var 0) (.cons (.var 1) (.cons (.var 2) .nil))))) (.cons (.ite (.not (.call 1 (.cons (.var 1) (.cons (.var 3) .nil)))) (.cons (.raise "BadNumber") .nil) .nil) (.cons (.for_ (.one 4) (.call 2 (.cons (.var 0) .nil)) b_led_back_0) (.cons (.ret .non) .nil))))
noncomputable def c_led_back (g : G) : List (Str × Fn) := [("look_way", F_look_way g), ("is_number", F_is_number g), ("numbers_of", F_numbers_of g), ("carried", F_carried g)]
noncomputable def F_led_back (g : G) : Fn := runF (g.with (c_led_back g)) 4 5 b_led_back
def b_L_lead_0 : S := (.cons (.set 3 (.call 2 (.cons (.var 0) (.cons (.var 3) (.cons (.bf .tuple (.comp (.one 6) (.var 4) .miss (.bin .mod (.bin .mul (.var 5) (.var 6)) (.idx (.var 0) (.int 0))))) .nil))))) (.cons (.set 4 (.call 3 (.cons (.var 0) (.cons (.var 4) (.cons (.var 1) .nil))))) .nil))
def b_L_lead : S := (.cons (.set 3 (.call 0 (.cons (.var 0) .nil))) (.cons (.set 4 (.call 1 (.cons (.var 0) .nil))) (.cons (.for_ (.one 5) (.var 2) b_L_lead_0) (.cons (.ret (.var 3)) .nil))))
noncomputable def c_L_lead (g : G) : List (Str × Fn) := [("_law_nought", F_L_nought g), ("_law_one", F_L_one g), ("_law_plus", F_L_plus g), ("_law_times", F_L_times g)]
noncomputable def F_L_lead (g : G) : Fn := runF (g.with (c_L_lead g)) 3 7 b_L_lead
def b_way_behind : S := (.cons (.expr (.call 0 (.cons (.var 0) (.cons (.var 1) (.cons (.var 3) .nil))))) (.cons (.expr (.call 0 (.cons (.var 1) (.cons (.var 2) (.cons (.var 4) .nil))))) (.cons (.ret (.call 1 (.cons (.var 2) (.cons (.var 4) (.cons (.var 3) .nil))))) .nil)))
noncomputable def c_way_behind (g : G) : List (Str × Fn) := [("look_way", F_look_way g), ("carried", F_carried g)]
noncomputable def F_way_behind (g : G) : Fn := runF (g.with (c_way_behind g)) 5 5 b_way_behind
def b_L_made : S := (.cons (.set 3 (.call 0 (.cons (.var 0) (.cons (.var 1) .nil)))) (.cons (.set 4 (.bin .mod (.var 2) (.bf .len (.var 3)))) (.cons (.set 5 (.comp (.one 6) (.bin .add (.slc (.var 3) (.var 4) .miss) (.slc (.var 3) .miss (.var 4))) (.call 1 (.cons (.var 0) (.cons (.var 6) .nil))) (.var 6))) (.cons (.ret (.tup (.cons (.var 0) (.cons (.idx (.var 5) (.int 0)) .nil)))) .nil))))
noncomputable def c_L_made (g : G) : List (Str × Fn) := [("_law_rows", F_L_rows g), ("_law_is_rule", F_L_is_rule g)]
noncomputable def F_L_made (g : G) : Fn := runF (g.with (c_L_made g)) 3 7 b_L_made
def b_L_behind : S := (.cons (.set 5 (.idx (.call 0 (.cons (.var 0) (.cons (.var 1) .nil))) (.bin .mod (.var 4) (.bf .len (.idx (.var 0) (.int 1)))))) (.cons (.set 6 (.call 1 (.cons (.var 0) (.cons (.var 1) (.cons (.var 2) (.cons (.var 5) (.cons (.var 3) .nil))))))) (.cons (.set 7 (.call 2 (.cons (.var 0) (.cons (.var 4) .nil)))) (.cons (.ite (.cmp .nin (.var 6) (.call 0 (.cons (.var 0) (.cons (.var 2) .nil)))) (.cons (.ret (.bl false)) .nil) .nil) (.cons (.ret (.cmp .eq (.call 3 (.cons (.var 0) (.cons (.var 2) (.cons (.var 6) (.cons (.var 7) .nil))))) (.call 3 (.cons (.var 1) (.cons (.var 2) (.cons (.var 3) (.cons (.call 3 (.cons (.var 0) (.cons (.var 1) (.cons (.var 5) (.cons (.var 7) .nil))))) .nil))))))) .nil)))))
noncomputable def c_L_behind (g : G) : List (Str × Fn) := [("ways", F_ways g), ("way_behind", F_way_behind g), ("_law_number", F_L_number g), ("led", F_led g)]
noncomputable def F_L_behind (g : G) : Fn := runF (g.with (c_L_behind g)) 5 8 b_L_behind
def b_L_steps : S := (.cons (.ret (.comp (.one 1) (.range2 (.int 1) (.bin .add (.var 0) (.int 1))) (.cmp .eq (.bin .mod (.var 0) (.var 1)) (.int 0)) (.var 1))) .nil)
noncomputable def c_L_steps (g : G) : List (Str × Fn) := []
noncomputable def F_L_steps (g : G) : Fn := runF (g.with (c_L_steps g)) 1 2 b_L_steps
def b_is_normal_of : S := (.cons (.ret (.call 1 (.cons (.var 0) (.cons (.bf .tuple (.call 0 (.cons (.var 0) (.cons (.var 1) .nil)))) .nil)))) .nil)
noncomputable def c_is_normal_of (g : G) : List (Str × Fn) := [("alike_of", F_alike_of g), ("is_base", F_is_base g)]
noncomputable def F_is_normal_of (g : G) : Fn := runF (g.with (c_is_normal_of g)) 2 2 b_is_normal_of
def b_normals : S := (.cons (.expr (.call 0 (.cons (.var 0) .nil))) (.cons (.ret (.comp (.one 1) (.call 1 (.cons (.var 0) .nil)) (.call 2 (.cons (.var 0) (.cons (.var 1) .nil))) (.var 1))) .nil))
noncomputable def c_normals (g : G) : List (Str × Fn) := [("checked", F_checked g), ("numbers_of", F_numbers_of g), ("is_normal_of", F_is_normal_of g)]
noncomputable def F_normals (g : G) : Fn := runF (g.with (c_normals g)) 1 2 b_normals
def b_L_is_normal_0 : S := (.cons (.app 3 (.call 0 (.cons (.var 0) (.cons (.idx (.var 3) (.neg (.int 1))) (.cons (.idx (.var 0) (.int 0)) .nil))))) .nil)
def b_L_is_normal_1 : S := (.cons (.set 6 (.call 3 (.cons (.var 0) (.cons (.var 6) (.cons (.bf .tuple (.comp (.one 9) (.var 7) .miss (.bin .mod (.bin .mul (.var 8) (.var 9)) (.idx (.var 0) (.int 0))))) .nil))))) .nil)
def b_L_is_normal_2 : S := (.cons (.set 6 (.call 2 (.cons (.var 0) .nil))) (.cons (.for_ (.two 7 8) (.zip (.var 3) (.var 5)) b_L_is_normal_1) (.cons (.ite (.land (.cmp .ne (.var 5) (.bin .mul (.tup (.cons (.int 0) .nil)) (.var 2))) (.one (.cmp .eq (.var 6) (.call 2 (.cons (.var 0) .nil))))) (.cons (.ret (.bl false)) .nil) .nil) .nil)))
def b_L_is_normal : S := (.cons (.set 2 (.bf .len (.idx (.var 0) (.int 1)))) (.cons (.set 3 (.lst (.cons (.var 1) .nil))) (.cons (.for_ (.one 4) (.range1 (.bin .sub (.var 2) (.int 1))) b_L_is_normal_0) (.cons (.for_ (.one 5) (.call 1 (.cons (.idx (.var 0) (.int 0)) (.cons (.var 2) .nil))) b_L_is_normal_2) (.cons (.ret (.bl true)) .nil)))))
noncomputable def c_L_is_normal (g : G) : List (Str × Fn) := [("_law_power", F_L_power g), ("_law_rows", F_L_rows g), ("_law_nought", F_L_nought g), ("_law_plus", F_L_plus g)]
noncomputable def F_L_is_normal (g : G) : Fn := runF (g.with (c_L_is_normal g)) 2 10 b_L_is_normal
def b_L_once_0 : S := (.cons (.ite (.lor (.cmp .nin (.var 4) (.var 2)) (.one (.cmp .eq (.call 6 (.cons (.var 1) (.cons (.var 4) (.cons (.int 1) .nil)))) (.call 7 (.cons (.var 1) .nil))))) (.cons (.ret (.bl false)) .nil) .nil) .nil)
def b_L_once : S := (.cons (.set 1 (.call 0 (.cons (.var 0) (.cons (.int 1) .nil)))) (.cons (.set 2 (.call 1 (.cons (.var 1) .nil))) (.cons (.set 3 (.comp (.one 4) (.call 2 (.cons (.var 1) .nil)) (.call 3 (.cons (.var 1) (.cons (.var 4) .nil))) (.var 4))) (.cons (.ite (.lor (.not (.isi .list (.var 2))) (.lor (.cmp .eq (.var 2) (.lst .nil)) (.one (.cmp .ne (.var 2) (.var 3))))) (.cons (.ret (.bl false)) .nil) .nil) (.cons (.set 5 (.idx (.var 2) (.bin .mod (.call 4 (.cons (.var 0) (.cons (.int 0) .nil))) (.bf .len (.var 2))))) (.cons (.for_ (.one 4) (.call 5 (.cons (.var 1) (.cons (.var 5) .nil))) b_L_once_0) (.cons (.ret (.cmp .eq (.call 8 (.cons (.var 1) (.cons (.bf .tuple (.call 5 (.cons (.var 1) (.cons (.var 5) .nil)))) .nil))) (.bf .tuple (.call 5 (.cons (.var 1) (.cons (.var 5) .nil)))))) .nil)))))))
noncomputable def c_L_once (g : G) : List (Str × Fn) := [("_law_field", F_L_field g), ("normals", F_normals g), ("all_numbers", F_all_numbers g), ("_law_is_normal", F_L_is_normal g), ("_law_cell", F_L_cell g), ("alike", F_alike g), ("trace", F_trace g), ("_law_nought", F_L_nought g), ("checked_base", F_checked_base g)]
noncomputable def F_L_once (g : G) : Fn := runF (g.with (c_L_once g)) 1 6 b_L_once
def b_read_0 : S := (.cons (.ite (.cmp .nin (.var 1) (.glob "FIGURES")) (.cons (.raise "BadText") .nil) .nil) .nil)
def b_read : S := (.cons (.ite (.lor (.not (.isi .str (.var 0))) (.lor (.cmp .lt (.bf .len (.var 0)) (.int 3)) (.one (.cmp .ne (.idx (.var 0) (.int 1)) (.str ":"))))) (.cons (.raise "BadText") .nil) .nil) (.cons (.for_ (.one 1) (.bin .add (.slc (.var 0) .miss (.int 1)) (.slc (.var 0) (.int 2) .miss)) b_read_0) (.cons (.set 2 (.tup (.cons (.met .sindex (.glob "FIGURES") (.idx (.var 0) (.int 0))) (.cons (.bf .tuple (.comp (.one 1) (.slc (.var 0) (.int 2) .miss) .miss (.met .sindex (.glob "FIGURES") (.var 1)))) .nil)))) (.cons (.ite (.not (.call 0 (.cons (.var 2) .nil))) (.cons (.raise "BadText") .nil) .nil) (.cons (.ret (.var 2)) .nil)))))
noncomputable def c_read (g : G) : List (Str × Fn) := [("is_field", F_is_field g)]
noncomputable def F_read (g : G) : Fn := runF (g.with (c_read g)) 1 3 b_read
def b_L_by_base : S := (.cons (.tryx (.cons (.expr (.call 0 (.cons (.var 0) .nil))) .nil) "FieldError" (some 1) (.cons (.ret (.isx 1 "ValueError")) .nil)) (.cons (.ret (.bl false)) .nil))
noncomputable def c_L_by_base (g : G) : List (Str × Fn) := [("read", F_read g)]
noncomputable def F_L_by_base (g : G) : Fn := runF (g.with (c_L_by_base g)) 1 2 b_L_by_base
def b_L_bad : S := (.cons (.set 2 (.bin .mod (.call 0 (.cons (.var 0) (.cons (.int 1) .nil))) (.bf .len (.var 1)))) (.cons (.set 3 (.bin .mod (.bin .fdiv (.call 0 (.cons (.var 0) (.cons (.int 0) .nil))) (.int 3)) (.int 4))) (.cons (.ite (.cmp .eq (.var 3) (.int 0)) (.cons (.ret (.bin .add (.slc (.var 1) .miss (.var 2)) (.slc (.var 1) (.bin .add (.var 2) (.int 1)) .miss))) .nil) .nil) (.cons (.ite (.cmp .eq (.var 3) (.int 1)) (.cons (.ret (.bin .add (.slc (.var 1) .miss (.bin .add (.var 2) (.int 1))) (.slc (.var 1) (.var 2) .miss))) .nil) .nil) (.cons (.ite (.cmp .eq (.var 3) (.int 2)) (.cons (.ret (.bin .add (.bin .add (.slc (.var 1) .miss (.var 2)) (.idx (.str "0123 :\nx") (.bin .mod (.call 0 (.cons (.var 0) (.cons (.int 2) .nil))) (.int 8)))) (.slc (.var 1) (.bin .add (.var 2) (.int 1)) .miss))) .nil) .nil) (.cons (.ret (.idx (.lst (.cons (.str "") (.cons (.str "2:") (.cons (.str "2:01") (.cons (.str "4:11") (.cons (.str "2:2") (.cons (.str ":11") (.cons (.str "2 11") (.cons .non (.cons (.int 7) (.cons (.str "2:11\n") .nil))))))))))) (.bin .mod (.call 0 (.cons (.var 0) (.cons (.int 1) .nil))) (.int 10)))) .nil))))))
noncomputable def c_L_bad (g : G) : List (Str × Fn) := [("_law_cell", F_L_cell g)]
noncomputable def F_L_bad (g : G) : Fn := runF (g.with (c_L_bad g)) 2 4 b_L_bad
def b_L_apart_0 : S := (.cons (.par 0 1 (.var 1) (.bin .mod (.var 0) (.var 1))) .nil)
def b_L_apart : S := (.cons (.whl (.cmp .gt (.var 1) (.int 0)) b_L_apart_0) (.cons (.ret (.var 0)) .nil))
noncomputable def c_L_apart (g : G) : List (Str × Fn) := []
noncomputable def F_L_apart (g : G) : Fn := runF (g.with (c_L_apart g)) 2 2 b_L_apart
def b_L_figure : S := (.cons (.ret (.bin .add (.tup (.cons (.bin .mod (.var 1) (.idx (.var 0) (.int 0))) .nil)) (.bin .mul (.tup (.cons (.int 0) .nil)) (.bin .sub (.bf .len (.idx (.var 0) (.int 1))) (.int 1))))) .nil)
noncomputable def c_L_figure (g : G) : List (Str × Fn) := []
noncomputable def F_L_figure (g : G) : Fn := runF (g.with (c_L_figure g)) 2 2 b_L_figure
end Vi
set_option maxRecDepth 100000
set_option maxHeartbeats 4000000
namespace Vi
/-! ### plain functions -/
def mixV (c p m : Int) : Int := (c * 48271 % p) ^ 3 % p % m
def rowsV (p : Nat) : Nat → List (List Int)
  | 0 => [[]]
  | n + 1 => (rowsV p n).flatMap fun r => (List.range p).map fun (f : Nat) => r ++ [(f : Int)]
theorem rowsV_len (p n : Nat) : (rowsV p n).length = p ^ n := by
  induction n with
  | zero => rfl
  | succ n ih =>
    unfold rowsV
    rw [List.length_flatMap]
    simp only [List.length_map, List.length_range]
    rw [List.map_const', List.sum_replicate_nat, ih, Nat.pow_succ]
theorem rowsV_mem {p n : Nat} {r : List Int} (h : r ∈ rowsV p n) : r.length = n := by
  induction n generalizing r with
  | zero =>
    simp only [rowsV, List.mem_singleton] at h
    rw [h]; rfl
  | succ n ih =>
    unfold rowsV at h
    simp only [List.mem_flatMap, List.mem_map] at h
    obtain ⟨r0, h0, f, _, rfl⟩ := h
    rw [List.length_append, ih h0]; rfl
def inW (s k n : Nat) : Bool := decide (k ≤ s) && decide (s - k < n)
def convAt (L R : List Int) (s : Nat) : Int := (((List.range L.length).filter fun k => inW s k R.length).map fun k => L.getD k 0 * R.getD (s - k) 0).sum
def bdd (l : List Int) : Prop := ∀ x ∈ l, -1000000 < x ∧ x < 1000000
def prodL (p : Int) (a b : List Int) : List Int := (List.range (a.length + b.length)).map fun s => convAt (a ++ [1]) (b ++ [1]) s % p
def isRuleV (p : Nat) (r : List Int) : Bool := !((List.range (r.length / 2)).any fun j => (rowsV p (j + 1)).any fun a => (rowsV p (r.length - (j + 1))).any fun b => decide (prodL p a b = r))
def KINDS : List (Nat × Nat) := [(2, 2), (2, 3), (3, 2), (2, 4), (5, 1), (3, 1), (5, 2), (3, 3), (2, 1), (7, 1), (7, 2), (2, 5)]
theorem kinds_ok : ∀ k ∈ KINDS, 0 < k.1 ∧ k.1 ≤ 7 ∧ 0 < k.2 ∧ k.2 ≤ 5 ∧ k.1 ^ k.2 ≤ 100 ∧ (rowsV k.1 k.2).any (isRuleV k.1) = true := by decide +kernel
/-- the fields that are drawn -/
def FIELDS : List (Nat × List Int) := KINDS.flatMap fun k => ((rowsV k.1 k.2).filter (isRuleV k.1)).map fun r => (k.1, r)
theorem fields_count : FIELDS.length = 71 := by decide +kernel
theorem mixV_lt (c p m : Int) (hm : 0 < m) : 0 ≤ mixV c p m ∧ mixV c p m < m := ⟨Int.emod_nonneg _ (by omega), Int.emod_lt_of_pos _ hm⟩
/-- the numbers of a field -/
def inV (p : Int) (n : Nat) (a : List Int) : Prop := a.length = n ∧ ∀ x ∈ a, 0 ≤ x ∧ x < p
def numV (c : Int) (p : Int) (n : Nat) : List Int := (List.range n).map fun (k : Nat) => mixV ((c + 41 * k) ^ 2) 9949 p
theorem numV_in (c p : Int) (n : Nat) (hp : 0 < p) : inV p n (numV c p n) := by
  refine ⟨by simp [numV], fun x hx => ?_⟩
  unfold numV at hx
  obtain ⟨k, _, rfl⟩ := List.mem_map.mp hx
  exact mixV_lt _ _ _ hp
def zeros (n : Nat) : List Int := List.replicate n 0
def addV (p : Int) (a b : List Int) : List Int := List.zipWith (fun x y => (x + y) % p) a b
def subV (p : Int) (a b : List Int) : List Int := List.zipWith (fun x y => (x - y) % p) a b
theorem zip_range (f : Int → Int → Int) (a b : List Int) (h : a.length = b.length) : (List.range a.length).map (fun (k : Nat) => f (a.getD k 0) (b.getD k 0)) = List.zipWith f a b := by
  refine List.ext_getElem (by simp [h]) fun i h1 h2 => ?_
  have hi : i < a.length := by simpa using h1
  have hj : i < b.length := by omega
  simp [hi, hj]
def stepE (r a : List Int) (k : Nat) : Int := (if k = 0 then 0 else a.getD (k - 1) 0) - a.getD (a.length - 1) 0 * r.getD k 0
def stepV (p : Int) (r a : List Int) : List Int := (List.range r.length).map fun k => stepE r a k % p
def mulF (p f : Int) (a : List Int) : List Int := a.map fun x => f * x % p
def timesS (p : Int) (r : List Int) (s : List Int × List Int) (f : Int) : List Int × List Int := (addV p s.1 (mulF p f s.2), stepV p r s.2)
/-- the product by steps of x -/
def timesV (p : Int) (r a b : List Int) : List Int := if r.length = 1 then [a.getD 0 0 * b.getD 0 0 % p] else (b.foldl (timesS p r) (zeros a.length, a)).1
theorem addV_len (p : Int) (a b : List Int) (h : a.length = b.length) : (addV p a b).length = a.length := by simp [addV, h]
theorem stepV_in {p : Int} (hp : 0 < p) (r a : List Int) : inV p r.length (stepV p r a) := by
  refine ⟨by simp [stepV], fun x hx => ?_⟩
  obtain ⟨k, _, rfl⟩ := List.mem_map.mp hx
  exact ⟨Int.emod_nonneg _ (by omega), Int.emod_lt_of_pos _ hp⟩
theorem inV.bdd {p : Int} {n : Nat} {a : List Int} (hp : p ≤ 1000) (h : inV p n a) : bdd a := fun x hx => by
  have := h.2 x hx
  omega
theorem fold_ok {p : Int} (hp : 0 < p) (r : List Int) (b : List Int) (s : List Int × List Int) (h1 : s.1.length = r.length) (h2 : inV p r.length s.2) : (b.foldl (timesS p r) s).1.length = r.length ∧ inV p r.length (b.foldl (timesS p r) s).2 := by
  induction b generalizing s with
  | nil => exact ⟨h1, h2⟩
  | cons f b ih =>
    refine ih _ ?_ (stepV_in hp r s.2)
    show (addV p s.1 (mulF p f s.2)).length = _
    rw [addV_len p _ _ (by simp [mulF, h1, h2.1]), h1]
theorem zeros_len (n : Nat) : (zeros n).length = n := by simp [zeros]
theorem getD_mem {a : List Int} {k : Nat} (h : k < a.length) : a.getD k 0 ∈ a := by simp [h]
/-- c with x times b added from place k on -/
def innerC (p x : Int) : List Int → Nat → List Int → List Int
  | [], _, c => c
  | y :: b, k, c => innerC p x b (k + 1) (c.set k ((c.getD k 0 + x * y) % p))
def outerC (p : Int) (b : List Int) : List Int → Nat → List Int → List Int
  | [], _, c => c
  | x :: a, k, c => outerC p b a (k + 1) (innerC p x b k c)
def innerR (p x : Int) : List Int → Nat → List Int → List Int
  | [], _, c => c
  | y :: b, k, c => innerR p x b (k + 1) (c.set k ((c.getD k 0 - x * y) % p))
def redC (p : Int) (r : List Int) : Nat → List Int → List Int
  | 0, c => c
  | m + 1, c => redC p r m (innerR p (c.getD (r.length + m) 0) r m c)
/-- the program's product -/
def prodV (p : Int) (r a b : List Int) : List Int := (redC p r (r.length - 1) (outerC p b a 0 (zeros (2 * r.length - 1)))).take r.length
theorem innerC_len (p x : Int) : ∀ (b : List Int) (k : Nat) (c : List Int), (innerC p x b k c).length = c.length
  | [], _, _ => rfl
  | y :: b, k, c => by unfold innerC; rw [innerC_len p x b]; simp
theorem innerR_len (p x : Int) : ∀ (b : List Int) (k : Nat) (c : List Int), (innerR p x b k c).length = c.length
  | [], _, _ => rfl
  | y :: b, k, c => by unfold innerR; rw [innerR_len p x b]; simp
theorem outerC_len (p : Int) (b : List Int) : ∀ (a : List Int) (k : Nat) (c : List Int), (outerC p b a k c).length = c.length
  | [], _, _ => rfl
  | x :: a, k, c => by unfold outerC; rw [outerC_len p b a, innerC_len]
theorem redC_len (p : Int) (r : List Int) : ∀ (m : Nat) (c : List Int), (redC p r m c).length = c.length
  | 0, _ => rfl
  | m + 1, c => by unfold redC; rw [redC_len p r m, innerR_len]
def inR (p : Int) (c : List Int) : Prop := ∀ x ∈ c, 0 ≤ x ∧ x < p
theorem inR_set {p : Int} (hp : 0 < p) {c : List Int} (h : inR p c) (k : Nat) (y : Int) : inR p (c.set k (y % p)) := fun x hx => by
  rcases List.mem_or_eq_of_mem_set hx with hx | rfl
  · exact h x hx
  · exact ⟨Int.emod_nonneg _ (by omega), Int.emod_lt_of_pos _ hp⟩
theorem innerC_in {p : Int} (hp : 0 < p) (x : Int) : ∀ (b : List Int) (k : Nat) (c : List Int), inR p c → inR p (innerC p x b k c)
  | [], _, _, h => h
  | y :: b, k, c, h => innerC_in hp x b (k + 1) _ (inR_set hp h k _)
theorem innerR_in {p : Int} (hp : 0 < p) (x : Int) : ∀ (b : List Int) (k : Nat) (c : List Int), inR p c → inR p (innerR p x b k c)
  | [], _, _, h => h
  | y :: b, k, c, h => innerR_in hp x b (k + 1) _ (inR_set hp h k _)
theorem outerC_in {p : Int} (hp : 0 < p) (b : List Int) : ∀ (a : List Int) (k : Nat) (c : List Int), inR p c → inR p (outerC p b a k c)
  | [], _, _, h => h
  | x :: a, k, c, h => outerC_in hp b a (k + 1) _ (innerC_in hp x b k c h)
theorem redC_in {p : Int} (hp : 0 < p) (r : List Int) : ∀ (m : Nat) (c : List Int), inR p c → inR p (redC p r m c)
  | 0, _, h => h
  | m + 1, c, h => redC_in hp r m _ (innerR_in hp _ r m c h)
theorem zeros_in {p : Int} (hp : 0 < p) (n : Nat) : inR p (zeros n) := fun x hx => by
  rw [List.eq_of_mem_replicate hx]
  exact ⟨by decide, hp⟩
theorem prodV_in {p : Int} (hp : 0 < p) (r a b : List Int) (h0 : 0 < r.length) : inV p r.length (prodV p r a b) := by
  refine ⟨?_, fun x hx => redC_in hp r _ _ (outerC_in hp b a 0 _ (zeros_in hp _)) x (List.mem_of_mem_take hx)⟩
  unfold prodV
  rw [List.length_take, redC_len, outerC_len, zeros_len]
  omega
def wholeV (p : Int) (n : Nat) (x : Int) : List Int := (x % p) :: zeros (n - 1)
/-- powers by squares -/
def powS (p : Int) (r : List Int) : Nat → List Int → List Int → Nat → List Int
  | 0, f, _, _ => f
  | k + 1, f, x, n => if n = 0 then f else powS p r k (if n % 2 = 1 then prodV p r f x else f) (prodV p r x x) (n / 2)
/-- x raised n times -/
def powV (p : Int) (r x : List Int) (n : Nat) : List Int := powS p r 24 (wholeV p r.length 1) x n
end Vi

set_option maxRecDepth 100000
set_option maxHeartbeats 4000000
namespace Vi
open PySem PySem.Spec PyProof.Rows L2
/-! ### turns -/
theorem compL_map {f : D → Option (Option D)} {h : D → D} : ∀ {xs : List D}, (∀ x ∈ xs, f x = some (some (h x))) → compL f xs = some (xs.map h)
  | [], _ => rfl
  | x :: r, k => by
    have e := k x List.mem_cons_self
    show (match f x with
      | none => none
      | some none => compL f r
      | some (some y) => (compL f r).map (y :: ·)) = _
    rw [e]
    show (compL f r).map (h x :: ·) = _
    rw [compL_map fun y hy => k y (List.mem_cons_of_mem _ hy)]
    rfl
theorem compL_filter {f : D → Option (Option D)} {h : D → D} {c : D → Bool} : ∀ {xs : List D}, (∀ x ∈ xs, f x = some (if c x then some (h x) else none)) → compL f xs = some ((xs.filter c).map h)
  | [], _ => rfl
  | x :: r, k => by
    have e := k x List.mem_cons_self
    have ih := compL_filter fun y hy => k y (List.mem_cons_of_mem _ hy)
    show (match f x with
      | none => none
      | some none => compL f r
      | some (some y) => (compL f r).map (y :: ·)) = _
    rw [e]
    cases q : c x with
    | true =>
      rw [if_pos rfl]
      show (compL f r).map (h x :: ·) = _
      rw [ih, List.filter_cons_of_pos q]
      rfl
    | false =>
      rw [if_neg Bool.false_ne_true]
      show compL f r = _
      rw [ih, List.filter_cons_of_neg (by rw [q]; exact Bool.false_ne_true)]
theorem forL_run {tg : Tg} {body : REnv → Option SR} (st : Nat → REnv) : ∀ {xs : List D} (k : Nat), (∀ i (hi : i < xs.length), ∃ ρ1, bindT tg (xs[i]) (st (k + i)) = some ρ1 ∧ body ρ1 = some (.nx (st (k + i + 1)))) → forL tg body xs (st k) = some (.nx (st (k + xs.length)))
  | [], k, _ => rfl
  | x :: r, k, h => by
    obtain ⟨ρ1, e1, e2⟩ := h 0 (Nat.zero_lt_succ _)
    show (match bindT tg x (st k) with
      | none => none
      | some ρ1 => match body ρ1 with
        | some (.nx ρ2) => forL tg body r ρ2
        | x => x) = _
    rw [show bindT tg x (st k) = some ρ1 from e1]
    show (match body ρ1 with
        | some (.nx ρ2) => forL tg body r ρ2
        | x => x) = _
    rw [e2]
    show forL tg body r (st (k + 0 + 1)) = _
    have := forL_run (xs := r) st (k + 1) (fun i hi => by
      obtain ⟨ρ2, e3, e4⟩ := h (i + 1) (Nat.succ_lt_succ hi)
      refine ⟨ρ2, ?_, ?_⟩
      · rw [show k + 1 + i = k + (i + 1) by omega]; exact e3
      · rw [show k + 1 + i + 1 = k + (i + 1) + 1 by omega]; exact e4)
    rw [show k + 0 + 1 = k + 1 by omega, this]
    rw [List.length_cons]
    congr 3
    omega
/-! ### the law's cells -/
theorem L_cell_eq (g : G) (ns : List Int) (k : Nat) : F_L_cell g [.list (ns.map .int), .int k] = some (.ret (.int (ns.getD k 0))) := by
  unfold F_L_cell
  rw [runF2]
  by_cases h : k < ns.length
  · simp [b_L_cell, h, getL_nat, retOf]
  · simp [b_L_cell, h, getL_nat, retOf]
theorem L_mix_eq (g : G) (c p m : Int) (hp : 0 < p) (hp2 : p ≤ 16384) (hm : 0 < m) : F_L_mix g [.int c, .int p, .int m] = some (.ret (.int (mixV c p m))) := by
  unfold F_L_mix
  rw [runF3]
  have b : (0 : Int) ≤ 3 ∧ (Builtin.Int.intBits (c * 48271 % p) : Int) * 3 ≤ 134217728 := by
    refine ⟨by decide, ?_⟩
    have h1 := Int.emod_nonneg (c * 48271) (by omega : p ≠ 0)
    have h2 := Int.emod_lt_of_pos (c * 48271) hp
    have h3 : Builtin.Int.intBits (c * 48271 % p) ≤ 14 := intBits_le_iff.mpr (by omega)
    omega
  have bp := b_pow .plain _ _ b
  have bm := b_mul .plain c 48271 (mulOk_r (by decide) (by decide))
  simp [b_L_mix, bm, b_mod, bp, hp, hm, retOf, mixV]
end Vi

set_option maxRecDepth 100000
set_option maxHeartbeats 4000000
namespace Vi
open PySem PySem.Spec PyProof.Rows L2
theorem forL_inv {tg : Tg} {body : REnv → Option SR} (I : Nat → REnv → Prop) : ∀ {xs : List D} (k : Nat) (ρ : REnv), I k ρ → (∀ i (hi : i < xs.length) ρ, I (k + i) ρ → ∃ ρ1 ρ2, bindT tg (xs[i]) ρ = some ρ1 ∧ body ρ1 = some (.nx ρ2) ∧ I (k + i + 1) ρ2) → ∃ ρ', forL tg body xs ρ = some (.nx ρ') ∧ I (k + xs.length) ρ'
  | [], k, ρ, h0, _ => ⟨ρ, rfl, h0⟩
  | x :: r, k, ρ, h0, h => by
    obtain ⟨ρ1, ρ2, e1, e2, h1⟩ := h 0 (Nat.zero_lt_succ _) ρ h0
    obtain ⟨ρ', e3, h3⟩ := forL_inv I (xs := r) (k + 1) ρ2 h1 (fun i hi ρ hI => by
      rw [show k + 1 + i = k + (i + 1) by omega] at hI ⊢
      exact h (i + 1) (Nat.succ_lt_succ hi) ρ hI)
    refine ⟨ρ', ?_, by rw [List.length_cons, show k + (r.length + 1) = k + 1 + r.length by omega]; exact h3⟩
    show (match bindT tg x ρ with
      | none => none
      | some ρ1 => match body ρ1 with
        | some (.nx ρ2) => forL tg body r ρ2
        | x => x) = _
    rw [show bindT tg x ρ = some ρ1 from e1]
    show (match body ρ1 with
        | some (.nx ρ2) => forL tg body r ρ2
        | x => x) = _
    rw [e2]
    exact e3
/-- a loop that leaves at turn m -/
theorem forL_out {tg : Tg} {body : REnv → Option SR} (I : Nat → REnv → Prop) (r : SR) : ∀ {xs : List D} (m k : Nat) (ρ : REnv), I k ρ → (∀ i (hi : i < xs.length) ρ, i < m → I (k + i) ρ → ∃ ρ1 ρ2, bindT tg (xs[i]) ρ = some ρ1 ∧ body ρ1 = some (.nx ρ2) ∧ I (k + i + 1) ρ2) →
    (hm : m < xs.length) → (∀ ρ, I (k + m) ρ → ∃ ρ1, bindT tg (xs[m]) ρ = some ρ1 ∧ body ρ1 = some r) → (∀ ρ, r ≠ .nx ρ) → forL tg body xs ρ = some r
  | [], m, _, _, _, _, hm, _, _ => by simp at hm
  | x :: xs, 0, k, ρ, h0, h, hm, hr, hn => by
    obtain ⟨ρ1, e1, e2⟩ := hr ρ h0
    show (match bindT tg x ρ with
      | none => none
      | some ρ1 => match body ρ1 with
        | some (.nx ρ2) => forL tg body xs ρ2
        | x => x) = _
    rw [show bindT tg x ρ = some ρ1 from e1]
    show (match body ρ1 with
        | some (.nx ρ2) => forL tg body xs ρ2
        | x => x) = _
    rw [e2]
    cases r with
    | nx ρ => exact absurd rfl (hn ρ)
    | _ => rfl
  | x :: xs, m + 1, k, ρ, h0, h, hm, hr, hn => by
    obtain ⟨ρ1, ρ2, e1, e2, h1⟩ := h 0 (Nat.zero_lt_succ _) ρ (Nat.zero_lt_succ _) h0
    have e3 := forL_out I r (xs := xs) m (k + 1) ρ2 h1 (fun i hi ρ hm' hI => by
      rw [show k + 1 + i = k + (i + 1) by omega] at hI ⊢
      exact h (i + 1) (Nat.succ_lt_succ hi) ρ (Nat.succ_lt_succ hm') hI) (Nat.lt_of_succ_lt_succ hm) (fun ρ hI => hr ρ (by rw [show k + (m + 1) = k + 1 + m by omega]; exact hI)) hn
    show (match bindT tg x ρ with
      | none => none
      | some ρ1 => match body ρ1 with
        | some (.nx ρ2) => forL tg body xs ρ2
        | x => x) = _
    rw [show bindT tg x ρ = some ρ1 from e1]
    show (match body ρ1 with
        | some (.nx ρ2) => forL tg body xs ρ2
        | x => x) = _
    rw [e2]
    exact e3
abbrev I (n : Int) : D := .int n
def tp (l : List Int) : D := .tuple (l.map .int)
theorem rangeD_map (n : Nat) : rangeD 0 n = (List.range n).map fun (k : Nat) => PyData.int k := by
  unfold rangeD
  congr 1
  funext k
  simp
/-! ### rows -/
def lR (rs : List (List Int)) : D := .list (rs.map tp)
theorem ev_comp {g : G} {tg : Tg} {it c el : E} {ρ : REnv} {k : Kd} {x : D} {xs ys : List D} (h : ev g it ρ = some (.ok k [] x)) (hx : items x = some xs) (hf : tgFree tg ρ = true) (he : noExc ρ = true)
    (hc : compL (compF (ev g c) (ev g el) (isMiss c) tg ρ) xs = some ys) (hl : ys.length ≤ sizeLine) : ev g (.comp tg it c el) ρ = some (.ok .fresh [] (.list ys)) := by
  show Rs.map2 (ev g it ρ) (fun _ di x => match items x, di with
    | some xs, [] => if (tgFree tg ρ && noExc ρ) = true then (compL (compF (ev g c) (ev g el) (isMiss c) tg ρ) xs).bind fun ys => if ys.length ≤ sizeLine then some (.ok .fresh [] (.list ys)) else none else none
    | _, _ => none) = _
  rw [h, map2_ok, hx]
  show (if (tgFree tg ρ && noExc ρ) = true then _ else none) = _
  rw [hf, he, hc]
  exact if_pos hl
theorem ev_bin {g : G} {o : Op} {a b : E} {ρ : REnv} {ka kb : Kd} {da db : List Nat} {x y : D} {r : Kd × D} (h1 : ev g a ρ = some (.ok ka da x)) (h2 : ev g b ρ = some (.ok kb db y)) (h : binop ka o x y = some r) : ev g (.bin o a b) ρ = some (.ok r.1 (depOf r.2 (da ++ db)) r.2) := by
  show Rs.map2 (ev g a ρ) (fun ka da x => Rs.map2 (ev g b ρ) fun _ db y => (binop ka o x y).map fun r => .ok r.1 (depOf r.2 (da ++ db)) r.2) = _
  rw [h1, map2_ok, h2, map2_ok, h]
  rfl
theorem ex_set {g : G} {i : Nat} {e : E} {ρ : REnv} {k : Kd} {p : List Nat} {x : D} (h : ev g e ρ = some (.ok k p x)) (hi : i < ρ.length) : ex g (.set i e) ρ = some (.nx (put ρ i k p x)) := by
  show toS ρ (ev g e ρ) (fun fr dep d => if i < ρ.length then some (.nx (put ρ i fr dep d)) else none) = _
  rw [h, toS_ok, if_pos hi]
theorem ex_cons {g : G} {s r : S} {ρ ρ1 : REnv} (h : ex g s ρ = some (.nx ρ1)) : ex g (.cons s r) ρ = ex g r ρ1 := by
  show (match ex g s ρ with
    | some (.nx ρ1) => ex g r ρ1
    | x => x) = _
  rw [h]
theorem ex_for {g : G} {tg : Tg} {it : E} {b : S} {ρ : REnv} {k : Kd} {p : List Nat} {x : D} {xs : List D} (h : ev g it ρ = some (.ok k p x)) (hx : items x = some xs) : ex g (.for_ tg it b) ρ = forL tg (ex g b) xs (disown (k.tot p) ρ) := by
  show (match ev g it ρ with
    | some (.ok k dep x) => match items x with
      | some xs => forL tg (ex g b) xs (disown (k.tot dep) ρ)
      | none => none
    | some (.ex c) => some (.ex c ρ)
    | none => none) = _
  rw [h]
  dsimp only
  rw [hx]
theorem items_list {l : List D} : items (.list l) = some l := rfl
theorem sz {n : Nat} (h : n ≤ 10000000) : n ≤ sizeLine := Nat.le_trans h (by decide)
theorem ev_range1 {g : G} {e : E} {ρ : REnv} {k : Kd} {p : List Nat} {n : Nat} (h : ev g e ρ = some (.ok k p (.int n))) (hn : n < 1000000000) : ev g (.range1 e) ρ = some (.ok .plain [] (.list (rangeD 0 n))) := by
  show Rs.map2 (ev g e ρ) (fun _ _ x => rng1 x) = _
  rw [h, map2_ok]
  show (if small (n : Int) then some (Rs.ok .plain [] (.list (rangeD 0 (n : Int).toNat))) else none) = _
  have : small (n : Int) = true := Nat.ble_eq_true_of_le (by omega)
  rw [if_pos this, Int.toNat_natCast]
/-- a slot that holds no exception and owns nothing -/
def okS (s : Slot) : Prop := s = .un ∨ ∃ d, s = .val d
theorem okS_un : okS .un := .inl rfl
theorem okS_val {d : D} : okS (.val d) := .inr ⟨d, rfl⟩
theorem tp_len (l : List Int) : (l.map PyData.int).length = l.length := List.length_map ..
theorem rows_body (g : G) (p : Nat) (hp2 : p ≤ 100) (a1 a2 a3 : Slot) (h1 : okS a1) (h2 : okS a2) (h3 : okS a3) (acc : List (List Int)) (row : List Int) (hr : row.length ≤ 100) (hl : acc.length + p ≤ 1000000) :
    ex g b_L_rows_0 [.val (.int p), a1, a2, a3, .own (acc.map tp), .val (tp row), .un] = some (.nx [.val (.int p), a1, a2, a3, .own ((acc ++ (List.range p).map fun (f : Nat) => row ++ [(f : Int)]).map tp), .val (tp row), .un]) := by
  have hc : ev g (.comp (.one 6) (.range1 (.var 0)) .miss (.bin .add (.var 5) (.tup (.cons (.var 6) .nil)))) [.val (.int p), a1, a2, a3, .own (acc.map tp), .val (tp row), .un] = some (.ok .fresh [] (.list (((List.range p).map fun (f : Nat) => row ++ [(f : Int)]).map tp))) := by
    refine ev_comp (ev_range1 (n := p) rfl (by omega)) rfl rfl ?_ (?_ : _ = some _) (sz (by simp; omega))
    · rcases h1 with rfl | ⟨_, rfl⟩ <;> rcases h2 with rfl | ⟨_, rfl⟩ <;> rcases h3 with rfl | ⟨_, rfl⟩ <;> rfl
    · rw [rangeD_map]
      rw [compL_map (h := fun d => match d with | .int f => tp (row ++ [f]) | d => d)]
      · simp
      · intro x hx
        obtain ⟨f, _, rfl⟩ := List.mem_map.mp hx
        have hb := b_addT .plain (row.map .int) [.int (f : Int)] (sz (by simp; omega))
        simp [compF, isMiss, bindT, Tg.wipe, compE, tp, hb, sizeLine_eq]
  have hb := b_addL (.own 4) (acc.map tp) (((List.range p).map fun (f : Nat) => row ++ [(f : Int)]).map tp) (sz (by simp; omega))
  have hb2 : ev g (.bin .add (.var 4) (.comp (.one 6) (.range1 (.var 0)) .miss (.bin .add (.var 5) (.tup (.cons (.var 6) .nil))))) [.val (.int p), a1, a2, a3, .own (acc.map tp), .val (tp row), .un] = some (.ok .fresh [] (.list (acc.map tp ++ ((List.range p).map fun (f : Nat) => row ++ [(f : Int)]).map tp))) := by
    have h4 : ev g (.var 4) [.val (.int p), a1, a2, a3, .own (acc.map tp), .val (tp row), .un] = some (.ok (.own 4) [] (.list (acc.map tp))) := rfl
    rw [ev_bin h4 hc hb]
    rfl
  refine ex_cons (ex_set hb2 (by show 4 < 7; decide)) |>.trans ?_
  rw [List.map_append]
  rfl

theorem okNo {l : List Slot} (h : ∀ s ∈ l, okS s ∨ ∃ ds, s = .own ds) : noExc l = true := by
  unfold noExc
  rw [List.all_eq_true]
  intro s hs
  rcases h s hs with (rfl | ⟨d, rfl⟩) | ⟨ds, rfl⟩ <;> rfl
theorem take_flat {α β : Type} (f : α → List β) (l : List α) (i : Nat) (h : i < l.length) : ((l.take (i + 1)).flatMap f) = (l.take i).flatMap f ++ f l[i] := by
  rw [List.take_succ_eq_append_getElem h, List.flatMap_append, List.flatMap_singleton]
/-- the rows longer by one, from the i-th on -/
theorem rows_loop (g : G) (p : Nat) (hp2 : p ≤ 100) (a1 a2 a3 c : Slot) (h1 : okS a1) (h2 : okS a2) (h3 : okS a3) (hc : okS c) (L : List (List Int)) (hL : ∀ r ∈ L, r.length ≤ 100) (hl : L.length * p ≤ 900000) :
    ∃ c', okS c' ∧ forL (.one 5) (ex g b_L_rows_0) (L.map tp) [.val (.int p), a1, a2, a3, .own [], c, .un] = some (.nx [.val (.int p), a1, a2, a3, .own ((L.flatMap fun r => (List.range p).map fun (f : Nat) => r ++ [(f : Int)]).map tp), c', .un]) := by
  obtain ⟨ρ', e, c', hc', rfl⟩ := forL_inv (tg := .one 5) (body := ex g b_L_rows_0) (xs := L.map tp) (fun i ρ => ∃ c, okS c ∧ ρ = [.val (.int p), a1, a2, a3, .own (((L.take i).flatMap fun r => (List.range p).map fun (f : Nat) => r ++ [(f : Int)]).map tp), c, .un]) 0 [.val (.int p), a1, a2, a3, .own [], c, .un] ⟨c, hc, rfl⟩ (fun i hi ρ ⟨c, hc, e⟩ => by
    subst e
    rw [Nat.zero_add] 
    rw [List.length_map] at hi
    rw [List.getElem_map]
    refine ⟨_, _, rfl, rows_body g p hp2 a1 a2 a3 h1 h2 h3 _ L[i] (hL _ (List.getElem_mem hi)) ?_, .val (tp L[i]), okS_val, ?_⟩
    · rw [List.length_flatMap]
      simp only [List.length_map, List.length_range]
      rw [List.map_const', List.sum_replicate_nat, List.length_take]
      have : (min i L.length) * p ≤ L.length * p := Nat.mul_le_mul_right p (Nat.min_le_right ..)
      omega
    · rw [take_flat _ _ _ hi])
  refine ⟨c', hc', e.trans ?_⟩
  rw [List.length_map, Nat.zero_add, List.take_length]
theorem L_rows_eq (g : G) (p n : Nat) (hp2 : p ≤ 100) (hn : n ≤ 20) (hb : p ^ n ≤ 900000) (hp : 0 < p) (h0 : 0 < n) : F_L_rows g [.int p, .int n] = some (.ret (lR (rowsV p n))) := by
  unfold F_L_rows
  rw [runF2]
  have hs1 : ex (g.with (c_L_rows g)) (.set 2 (.lst (.cons (.tup .nil) .nil))) [.val (.int p), .val (.int n), .un, .un, .un, .un, .un] = some (.nx [.val (.int p), .val (.int n), .own [tp []], .un, .un, .un, .un]) := rfl
  obtain ⟨ρ', e, hI⟩ := forL_inv (tg := .one 3) (body := ex (g.with (c_L_rows g)) b_L_rows_1) (xs := rangeD 0 n)
    (fun i ρ => ∃ f a b c, (f = .own ((rowsV p i).map tp) ∨ f = .val (lR (rowsV p i))) ∧ okS a ∧ okS b ∧ okS c ∧ (0 < i → f = .val (lR (rowsV p i))) ∧ ρ = [.val (.int p), .val (.int n), f, a, b, c, .un]) 0 [.val (.int p), .val (.int n), .own [tp []], .un, .un, .un, .un]
    ⟨_, _, _, _, .inl rfl, okS_un, okS_un, okS_un, fun h => absurd h (by omega), rfl⟩ (fun i hi ρ ⟨f, a, b, c, hf, ha, hb', hc, hz, e⟩ => by
    subst e
    rw [Nat.zero_add] at hf hz ⊢
    have hin : i < n := by simpa [rangeD] using hi
    have hrow : ∀ r ∈ rowsV p i, r.length ≤ 100 := fun r hr => by rw [rowsV_mem hr]; omega
    have hpow : p ^ i * p ≤ 900000 := by
      rw [← Nat.pow_succ]
      exact Nat.le_trans (Nat.pow_le_pow_right hp (by omega)) hb
    have s1 : ex (g.with (c_L_rows g)) (.set 4 (.lst .nil)) [.val (.int p), .val (.int n), f, .val ((rangeD 0 n)[i]), b, c, .un] = some (.nx [.val (.int p), .val (.int n), f, .val ((rangeD 0 n)[i]), .own [], c, .un]) := rfl
    obtain ⟨c', hc', el⟩ := rows_loop (g.with (c_L_rows g)) p hp2 (.val (.int n)) (.val (lR (rowsV p i))) (.val ((rangeD 0 n)[i])) c okS_val okS_val okS_val hc (rowsV p i) hrow (by rw [rowsV_len]; exact hpow)
    have s2 : ex (g.with (c_L_rows g)) (.for_ (.one 5) (.var 2) b_L_rows_0) [.val (.int p), .val (.int n), f, .val ((rangeD 0 n)[i]), .own [], c, .un] = some (.nx [.val (.int p), .val (.int n), .val (lR (rowsV p i)), .val ((rangeD 0 n)[i]), .own ((rowsV p (i + 1)).map tp), c', .un]) := by
      rcases hf with rfl | rfl
      · refine (ex_for (k := .own 2) (p := []) (x := lR (rowsV p i)) (xs := (rowsV p i).map tp) rfl rfl).trans ?_
        refine Eq.trans ?_ el
        rcases hc with rfl | ⟨d, rfl⟩ <;> rfl
      · refine (ex_for (k := .plain) (p := []) (x := lR (rowsV p i)) (xs := (rowsV p i).map tp) rfl rfl).trans ?_
        rw [tot_plain, disown_nil]
        exact el
    have s3 : ex (g.with (c_L_rows g)) (.set 2 (.var 4)) [.val (.int p), .val (.int n), .val (lR (rowsV p i)), .val ((rangeD 0 n)[i]), .own ((rowsV p (i + 1)).map tp), c', .un] = some (.nx [.val (.int p), .val (.int n), .val (lR (rowsV p (i + 1))), .val ((rangeD 0 n)[i]), .val (lR (rowsV p (i + 1))), c', .un]) := by
      refine (ex_set (k := .own 4) (p := []) (x := lR (rowsV p (i + 1))) rfl (by show 2 < 7; decide)).trans ?_
      rcases hc' with rfl | ⟨d, rfl⟩ <;> rfl
    refine ⟨_, _, rfl, ?_, .val (lR (rowsV p (i + 1))), .val ((rangeD 0 n)[i]), .val (lR (rowsV p (i + 1))), c', .inr rfl, okS_val, okS_val, hc', fun _ => rfl, rfl⟩
    show ex _ (.cons _ (.cons _ (.cons _ .nil))) _ = _
    exact (ex_cons s1).trans ((ex_cons s2).trans ((ex_cons s3).trans rfl)))
  obtain ⟨f, a, b, c, hf, ha, hb', hc, hz, rfl⟩ := hI
  rw [show 0 + (rangeD 0 n).length = n by simp [rangeD]] at hz
  obtain rfl := hz h0
  have hs2 : ex (g.with (c_L_rows g)) (.for_ (.one 3) (.range1 (.var 1)) b_L_rows_1) [.val (.int p), .val (.int n), .own [tp []], .un, .un, .un, .un] = some (.nx [.val (.int p), .val (.int n), .val (lR (rowsV p n)), a, b, c, .un]) := by
    refine (ex_for (k := .plain) (p := []) (x := .list (rangeD 0 n)) (ev_range1 (n := n) rfl (by omega)) rfl).trans ?_
    rw [tot_plain, disown_nil]
    exact e
  show fin (ex (g.with (c_L_rows g)) (.cons _ (.cons _ (.cons (.ret (.var 2)) .nil))) _) = _
  exact congrArg fin ((ex_cons hs1).trans ((ex_cons hs2).trans rfl))
end Vi

set_option maxRecDepth 100000
set_option maxHeartbeats 4000000
namespace Vi
open PySem PySem.Spec PyProof.Rows L2
theorem intsOf_map (l : List Int) : intsOf (l.map .int) = some l := by
  induction l with
  | nil => rfl
  | cons x r ih =>
    show (intsOf (r.map .int)).map (x :: ·) = _
    rw [ih]; rfl
theorem product_body (g : G) (p : Int) (hp : 0 < p) (d1 d2 : D) (L R acc : List Int) (s : Nat) (hL : L.length ≤ 1000) (hR : R.length ≤ 1000) (bL : bdd L) (ha : acc.length ≤ 1000) :
    ex g b_L_product_0 [.val (.int p), .val d1, .val d2, .own (L.map .int), .own (R.map .int), .own (acc.map .int), .val (.int s), .un] =
      some (.nx [.val (.int p), .val d1, .val d2, .own (L.map .int), .own (R.map .int), .own ((acc ++ [convAt L R s % p]).map .int), .val (.int s), .un]) := by
  have hc : ev g (.comp (.one 7) (.range1 (.bf .len (.var 3))) (.cmp2 .le .lt (.int 0) (.bin .sub (.var 6) (.var 7)) (.bf .len (.var 4))) (.bin .mul (.idx (.var 3) (.var 7)) (.idx (.var 4) (.bin .sub (.var 6) (.var 7)))))
      [.val (.int p), .val d1, .val d2, .own (L.map .int), .own (R.map .int), .own (acc.map .int), .val (.int s), .un] =
      some (.ok .fresh [] (.list ((((List.range L.length).filter fun k => inW s k R.length).map fun k => L.getD k 0 * R.getD (s - k) 0).map .int))) := by
    refine ev_comp (ev_range1 (n := L.length) (by simp; exact ⟨rfl, rfl⟩) (by omega)) rfl rfl rfl (?_ : _ = some _) (sz (by
      simp only [List.length_map]
      exact Nat.le_trans (List.length_filter_le ..) (by simp; omega)))
    rw [rangeD_map]
    rw [compL_filter (c := fun d => match d with | .int k => inW s k.toNat R.length | _ => false) (h := fun d => match d with | .int k => .int (L.getD k.toNat 0 * R.getD (s - k.toNat) 0) | d => d)]
    · rw [List.filter_map, List.map_map, List.map_map]
      rfl
    · intro x hx
      obtain ⟨k, hk, rfl⟩ := List.mem_map.mp hx
      have hk : k < L.length := by simpa using hk
      have h0 : (inW s k R.length) = (decide ((0 : Int) ≤ (s : Int) - k) && decide ((s : Int) - (k : Int) < R.length)) := by
        unfold inW
        by_cases h1 : k ≤ s
        · rw [decide_eq_true h1, decide_eq_true (by omega : (0 : Int) ≤ (s : Int) - k)]
          congr 1
          by_cases h2 : s - k < R.length
          · rw [decide_eq_true h2, decide_eq_true (by omega)]
          · rw [decide_eq_false h2, decide_eq_false (by omega)]
        · rw [decide_eq_false h1, decide_eq_false (by omega : ¬ (0 : Int) ≤ (s : Int) - k)]
          rfl
      simp only [Int.toNat_natCast]
      by_cases h1 : k ≤ s
      · have e1 : (s : Int) - (k : Int) = ((s - k : Nat) : Int) := by omega
        by_cases h2 : s - k < R.length
        · have gL : getAt (.list (L.map .int)) (k : Int) = some (.int (L.getD k 0)) := by rw [getL_nat]; simp [hk]
          have gR : getAt (.list (R.map .int)) ((s - k : Nat) : Int) = some (.int (R.getD (s - k) 0)) := by rw [getL_nat]; simp [h2]
          have bx := bL (L.getD k 0) (by simp [hk])
          have hm := b_mul .plain (L.getD k 0) (R.getD (s - k) 0) (mulOk_l (by omega) (by omega))
          have c1 : inW s k R.length = true := by unfold inW; rw [decide_eq_true h1, decide_eq_true h2]; rfl
          rw [c1]
          generalize L.getD k 0 = lx at gL hm ⊢
          generalize R.getD (s - k) 0 = rx at gR hm ⊢
          simp [compF, isMiss, bindT, Tg.wipe, compE, e1, gL, gR, hm, h2, h1]
        · have c1 : inW s k R.length = false := by unfold inW; rw [decide_eq_false h2, Bool.and_false]
          rw [c1]
          simp [compF, isMiss, bindT, Tg.wipe, compE, e1, h2, h1]
      · have c1 : inW s k R.length = false := by unfold inW; rw [decide_eq_false h1]; rfl
        rw [c1]
        have e2 : ¬ (0 : Int) ≤ (s : Int) - k := by omega
        simp [compF, isMiss, bindT, Tg.wipe, compE, e2, h1]
  have hs : ev g (.bin .mod (.bf .sum (.comp (.one 7) (.range1 (.bf .len (.var 3))) (.cmp2 .le .lt (.int 0) (.bin .sub (.var 6) (.var 7)) (.bf .len (.var 4))) (.bin .mul (.idx (.var 3) (.var 7)) (.idx (.var 4) (.bin .sub (.var 6) (.var 7)))))) (.var 0))
      [.val (.int p), .val d1, .val d2, .own (L.map .int), .own (R.map .int), .own (acc.map .int), .val (.int s), .un] = some (.ok .plain [] (.int (convAt L R s % p))) := by
    have hsum : ev g (.bf .sum (.comp (.one 7) (.range1 (.bf .len (.var 3))) (.cmp2 .le .lt (.int 0) (.bin .sub (.var 6) (.var 7)) (.bf .len (.var 4))) (.bin .mul (.idx (.var 3) (.var 7)) (.idx (.var 4) (.bin .sub (.var 6) (.var 7))))))
      [.val (.int p), .val d1, .val d2, .own (L.map .int), .own (R.map .int), .own (acc.map .int), .val (.int s), .un] = some (.ok .plain [] (.int (convAt L R s))) := by
      rw [evE_bf, hc, map2_ok]
      show ((intsOf (_ : List D)).map fun ns => (Kd.plain, PyData.int ns.sum)).map _ = _
      rw [intsOf_map]
      rfl
    rw [evE_bin, hsum, map2_ok]
    have hm := b_mod .plain (convAt L R s) p hp
    simp [hm]
  have ha2 : (acc.map PyData.int).length < sizeLine := Nat.lt_of_le_of_lt (by simp; exact ha) (by decide : 1000 < sizeLine)
  unfold b_L_product_0
  rw [exE_cons, exE_app]
  simp only [List.getElem?_cons_succ, List.getElem?_cons_zero, hs, toS_ok, tot_plain]
  rw [if_pos ⟨trivial, ha2⟩]
  simp
end Vi

set_option maxRecDepth 100000
set_option maxHeartbeats 4000000
namespace Vi
open PySem PySem.Spec PyProof.Rows L2
theorem bdd_one {a : List Int} (h : bdd a) : bdd (a ++ [1]) := fun x hx => by
  rcases List.mem_append.mp hx with hx | hx
  · exact h x hx
  · rw [List.mem_singleton.mp hx]; decide
theorem range_map_succ {α : Type} (f : Nat → α) (i : Nat) : (List.range (i + 1)).map f = (List.range i).map f ++ [f i] := by
  rw [List.range_succ, List.map_append]; rfl
theorem L_product_eq (g : G) (p : Int) (hp : 0 < p) (a b : List Int) (ha : a.length ≤ 100) (hb : b.length ≤ 100) (ba : bdd a) :
    F_L_product g [.int p, tp a, tp b] = some (.ret (tp (prodL p a b))) := by
  unfold F_L_product
  rw [runF3]
  have one : ∀ (i : Nat) (l : List Int) (ρ : REnv), l.length ≤ 100 → ρ[i]? = some (.val (tp l)) → ev (g.with (c_L_product g)) (.bin .add (.bf .list (.var i)) (.lst (.cons (.int 1) .nil))) ρ = some (.ok .fresh [] (.list ((l ++ [1]).map .int))) := fun i l ρ hl e => by
    have h1 : ev (g.with (c_L_product g)) (.bf .list (.var i)) ρ = some (.ok .fresh [] (.list (l.map .int))) := by
      rw [evE_bf, evE_var, e]
      rfl
    have h2 : ev (g.with (c_L_product g)) (.lst (.cons (.int 1) .nil)) ρ = some (.ok .fresh [] (.list [.int 1])) := rfl
    rw [ev_bin h1 h2 (b_addL .fresh (l.map .int) [.int 1] (sz (by simp; omega)))]
    simp
  have s1 : ex (g.with (c_L_product g)) (.set 3 (.bin .add (.bf .list (.var 1)) (.lst (.cons (.int 1) .nil)))) [.val (.int p), .val (tp a), .val (tp b), .un, .un, .un, .un, .un] = some (.nx [.val (.int p), .val (tp a), .val (tp b), .own ((a ++ [1]).map .int), .un, .un, .un, .un]) := ex_set (one 1 a _ ha rfl) (by show 3 < 8; decide)
  have s2 : ex (g.with (c_L_product g)) (.set 4 (.bin .add (.bf .list (.var 2)) (.lst (.cons (.int 1) .nil)))) [.val (.int p), .val (tp a), .val (tp b), .own ((a ++ [1]).map .int), .un, .un, .un, .un] = some (.nx [.val (.int p), .val (tp a), .val (tp b), .own ((a ++ [1]).map .int), .own ((b ++ [1]).map .int), .un, .un, .un]) := ex_set (one 2 b _ hb rfl) (by show 4 < 8; decide)
  have s3 : ex (g.with (c_L_product g)) (.set 5 (.lst .nil)) [.val (.int p), .val (tp a), .val (tp b), .own ((a ++ [1]).map .int), .own ((b ++ [1]).map .int), .un, .un, .un] = some (.nx [.val (.int p), .val (tp a), .val (tp b), .own ((a ++ [1]).map .int), .own ((b ++ [1]).map .int), .own [], .un, .un]) := rfl
  obtain ⟨ρ', e, c, hc, rfl⟩ := forL_inv (tg := .one 6) (body := ex (g.with (c_L_product g)) b_L_product_0) (xs := rangeD 0 (a.length + b.length))
    (fun i ρ => ∃ c, okS c ∧ ρ = [.val (.int p), .val (tp a), .val (tp b), .own ((a ++ [1]).map .int), .own ((b ++ [1]).map .int), .own (((List.range i).map fun s => convAt (a ++ [1]) (b ++ [1]) s % p).map .int), c, .un]) 0 [.val (.int p), .val (tp a), .val (tp b), .own ((a ++ [1]).map .int), .own ((b ++ [1]).map .int), .own [], .un, .un] ⟨.un, okS_un, rfl⟩ (fun i hi ρ ⟨c, hc, e⟩ => by
    subst e
    rw [Nat.zero_add]
    have hin : i < a.length + b.length := by simpa [rangeD] using hi
    have ei : (rangeD 0 (a.length + b.length))[i] = .int i := by simp [rangeD]
    rw [ei]
    refine ⟨_, _, rfl, product_body _ p hp (tp a) (tp b) (a ++ [1]) (b ++ [1]) _ i (by simp; omega) (by simp; omega) (bdd_one ba) (by simp; omega), .val (.int i), okS_val, ?_⟩
    rw [range_map_succ])
  have el : 0 + (rangeD 0 (a.length + b.length)).length = a.length + b.length := by simp [rangeD]
  rw [el] at e
  have s4 : ex (g.with (c_L_product g)) (.for_ (.one 6) (.range1 (.bin .add (.bf .len (.var 1)) (.bf .len (.var 2)))) b_L_product_0) [.val (.int p), .val (tp a), .val (tp b), .own ((a ++ [1]).map .int), .own ((b ++ [1]).map .int), .own [], .un, .un] = some (.nx [.val (.int p), .val (tp a), .val (tp b), .own ((a ++ [1]).map .int), .own ((b ++ [1]).map .int), .own ((prodL p a b).map .int), c, .un]) := by
    refine (ex_for (k := .plain) (p := []) (x := .list (rangeD 0 (a.length + b.length))) (ev_range1 (k := .plain) (p := []) (n := a.length + b.length) ?_ (by omega)) rfl).trans ?_
    · simp [tp]
    · rw [tot_plain, disown_nil]
      exact e
  show fin (ex _ (.cons _ (.cons _ (.cons _ (.cons _ (.cons (.ret (.bf .tuple (.var 5))) .nil))))) _) = _
  exact congrArg fin ((ex_cons s1).trans ((ex_cons s2).trans ((ex_cons s3).trans ((ex_cons s4).trans (show ex _ (.cons (.ret (.bf .tuple (.var 5))) .nil) _ = some (.rt (tp (prodL p a b))) from rfl)))))
end Vi

set_option maxRecDepth 100000
set_option maxHeartbeats 4000000
namespace Vi
open PySem PySem.Spec PyProof.Rows L2
/-- a loop that looks for the first item with c and ends there by r -/
theorem forL_any {tg : Tg} {body : REnv → Option SR} (I : REnv → Prop) (c : D → Bool) (r : SR) (hr : ∀ ρ, r ≠ .nx ρ) : ∀ {xs : List D} (ρ : REnv), I ρ →
    (∀ x ∈ xs, ∀ ρ, I ρ → ∃ ρ1, bindT tg x ρ = some ρ1 ∧ (c x = true → body ρ1 = some r) ∧ (c x = false → ∃ ρ2, body ρ1 = some (.nx ρ2) ∧ I ρ2)) →
    (xs.any c = true → forL tg body xs ρ = some r) ∧ (xs.any c = false → ∃ ρ', forL tg body xs ρ = some (.nx ρ') ∧ I ρ')
  | [], ρ, h0, _ => ⟨fun h => by simp at h, fun _ => ⟨ρ, rfl, h0⟩⟩
  | x :: xs, ρ, h0, h => by
    obtain ⟨ρ1, e1, hy, hn⟩ := h x List.mem_cons_self ρ h0
    have unf : forL tg body (x :: xs) ρ = (match body ρ1 with
        | some (.nx ρ2) => forL tg body xs ρ2
        | x => x) := by
      show (match bindT tg x ρ with
        | none => none
        | some ρ1 => match body ρ1 with
          | some (.nx ρ2) => forL tg body xs ρ2
          | x => x) = _
      rw [e1]
    rw [unf]
    cases q : c x with
    | true =>
      rw [hy q]
      refine ⟨fun _ => ?_, fun z => by simp [q] at z⟩
      cases r with
      | nx ρ => exact absurd rfl (hr ρ)
      | _ => rfl
    | false =>
      obtain ⟨ρ2, e2, i2⟩ := hn q
      rw [e2]
      obtain ⟨k1, k2⟩ := forL_any I c r hr (xs := xs) ρ2 i2 fun y hy => h y (List.mem_cons_of_mem _ hy)
      exact ⟨fun z => k1 (by simpa [q] using z), fun z => k2 (by simpa [q] using z)⟩
theorem eqv_ints : ∀ (a b : List Int), PyData.eqvAll (a.map .int) (b.map .int) = decide (a = b)
  | [], [] => rfl
  | [], _ :: _ => rfl
  | _ :: _, [] => rfl
  | x :: a, y :: b => by
    show (PyData.eqv (.int x) (.int y) && PyData.eqvAll (a.map .int) (b.map .int)) = _
    rw [eqv_ints a b]
    show ((x == y) && decide (a = b)) = _
    by_cases h : x = y
    · subst h
      simp
    · have : (x == y) = false := beq_eq_false_iff_ne.mpr h
      rw [this]
      simp [h]
theorem eqv_tp (a b : List Int) : PyData.eqv (tp a) (tp b) = decide (a = b) := eqv_ints a b
theorem depth_ints (a : List Int) : PyData.depthAll (a.map .int) = 0 := by
  induction a with
  | nil => rfl
  | cons x a ih =>
    show max (PyData.depth (.int x)) (PyData.depthAll (a.map .int)) = 0
    rw [ih]; rfl
theorem lay_ints (a : List Int) : PyData.canLayAll0 (a.map .int) = true := by
  induction a with
  | nil => rfl
  | cons x a ih =>
    show (PyData.canLay0 (.int x) && PyData.canLayAll0 (a.map .int)) = true
    rw [ih]; rfl
theorem shaped_tp (a : List Int) : SeqAt.shaped (tp a) = true := by
  show (PyData.canLayAll0 (a.map .int) && decide (PyData.depthAll (a.map .int) + 1 ≤ 64)) = true
  rw [lay_ints, depth_ints]; rfl
theorem c_eqT (a b : List Int) : cmpop .eq (tp a) (tp b) = some (decide (a = b)) := by
  show (if SeqAt.shaped (tp a) && SeqAt.shaped (tp b) then some (PyData.eqv (tp a) (tp b)) else none) = _
  rw [shaped_tp, shaped_tp, eqv_tp]; rfl
theorem c_neT (a b : List Int) : cmpop .ne (tp a) (tp b) = some (!decide (a = b)) := by
  show (if SeqAt.shaped (tp a) && SeqAt.shaped (tp b) then some (!PyData.eqv (tp a) (tp b)) else none) = _
  rw [shaped_tp, shaped_tp, eqv_tp]; rfl
def listOf : D → List Int
  | .tuple l => (intsOf l).getD []
  | _ => []
theorem listOf_tp (a : List Int) : listOf (tp a) = a := by
  show (intsOf (a.map .int)).getD [] = a
  rw [intsOf_map]; rfl
theorem flat1_ints (a : List Int) : (a.map PyData.int).all flat1 = true := by
  rw [List.all_eq_true]
  intro x hx
  obtain ⟨i, _, rfl⟩ := List.mem_map.mp hx
  rfl
theorem flat_tp (a : List Int) : flat (tp a) = true := flat1_ints a
theorem depF_tp (a : List Int) (p : List Nat) : depF (tp a) p = [] := by
  unfold depF
  rw [flat_tp]; rfl
theorem rowsV_bd {p n : Nat} (hp : p ≤ 1000) {r : List Int} (h : r ∈ rowsV p n) : bdd r := by
  induction n generalizing r with
  | zero =>
    simp only [rowsV, List.mem_singleton] at h
    rw [h]
    intro x hx; cases hx
  | succ n ih =>
    unfold rowsV at h
    simp only [List.mem_flatMap, List.mem_map, List.mem_range] at h
    obtain ⟨r0, h0, f, hf, rfl⟩ := h
    intro x hx
    rcases List.mem_append.mp hx with hx | hx
    · exact ih h0 x hx
    · rw [List.mem_singleton.mp hx]
      omega
theorem any_tp (L : List (List Int)) (f : List Int → Bool) : (L.map tp).any (fun d => f (listOf d)) = L.any f := by
  rw [List.any_map]
  congr 1
  funext a
  show f (listOf (tp a)) = f a
  rw [listOf_tp]
/-- the innermost loop -/
theorem rule_in (g : G) (p : Nat) (hp : 0 < p) (r a : List Int) (m : Int) (ha : a.length ≤ 100) (ba : bdd a) (L : List (List Int)) (hL : ∀ b ∈ L, b.length ≤ 100) (c : Slot) (hc : okS c) :
    (L.any (fun b => decide (prodL p a b = r)) = true → forL (.one 4) (ex (g.with (c_L_is_rule g)) b_L_is_rule_0) (L.map tp) [.val (.int p), .val (tp r), .val (.int m), .val (tp a), c] = some (.rt (.bool false))) ∧
    (L.any (fun b => decide (prodL p a b = r)) = false → ∃ ρ', forL (.one 4) (ex (g.with (c_L_is_rule g)) b_L_is_rule_0) (L.map tp) [.val (.int p), .val (tp r), .val (.int m), .val (tp a), c] = some (.nx ρ') ∧ ∃ c, okS c ∧ ρ' = [.val (.int p), .val (tp r), .val (.int m), .val (tp a), c]) := by
  have key := forL_any (tg := .one 4) (body := ex (g.with (c_L_is_rule g)) b_L_is_rule_0) (fun ρ => ∃ c, okS c ∧ ρ = [.val (.int p), .val (tp r), .val (.int m), .val (tp a), c]) (fun d => decide (prodL p a (listOf d) = r)) (.rt (.bool false)) (fun ρ h => nomatch h) (xs := L.map tp) [.val (.int p), .val (tp r), .val (.int m), .val (tp a), c] ⟨c, hc, rfl⟩ (fun x hx ρ ⟨c, hc, e⟩ => by
    subst e
    obtain ⟨b, hb, rfl⟩ := List.mem_map.mp hx
    rw [listOf_tp]
    have hcall : ev (g.with (c_L_is_rule g)) (.call 1 (.cons (.var 0) (.cons (.var 3) (.cons (.var 4) .nil)))) [.val (.int p), .val (tp r), .val (.int m), .val (tp a), .val (tp b)] = some (.ok .plain [] (tp (prodL p a b))) := by
      have e := L_product_eq g p (by omega) a b ha (hL b hb) ba
      simp [G.with, c_L_is_rule, e]
    have hcmp : ev (g.with (c_L_is_rule g)) (.cmp .eq (.call 1 (.cons (.var 0) (.cons (.var 3) (.cons (.var 4) .nil)))) (.var 1)) [.val (.int p), .val (tp r), .val (.int m), .val (tp a), .val (tp b)] = some (.ok .plain [] (.bool (decide (prodL p a b = r)))) := by
      rw [evE_cmp, hcall, map2_ok]
      simp [c_eqT]
    refine ⟨_, rfl, fun h => ?_, fun h => ⟨[.val (.int p), .val (tp r), .val (.int m), .val (tp a), .val (tp b)], ?_, .val (tp b), okS_val, rfl⟩⟩
    · unfold b_L_is_rule_0
      simp only [List.set_cons_succ, List.set_cons_zero, exE_cons, exE_ite, hcmp, h, toS_ok, tr_bool]
      rfl
    · unfold b_L_is_rule_0
      simp only [List.set_cons_succ, List.set_cons_zero, exE_cons, exE_ite, hcmp, h, toS_ok, tr_bool]
      rfl)
  rw [any_tp L fun b => decide (prodL p a b = r)] at key
  exact key
end Vi

set_option maxRecDepth 100000
set_option maxHeartbeats 4000000
namespace Vi
open PySem PySem.Spec PyProof.Rows L2
theorem lR_items (rs : List (List Int)) : items (lR rs) = some (rs.map tp) := rfl
theorem flat_lists (rs : List (List Int)) (p : List Nat) : depF (lR rs) p = p := rfl
/-- the middle loop: the second rows -/
theorem rule_mid (g : G) (p : Nat) (hp : 0 < p) (hp2 : p ≤ 100) (r : List Int) (m : Nat) (hm : 0 < m) (hm2 : m < r.length) (hr : r.length ≤ 20) (hb : p ^ (r.length - m) ≤ 900000) (L : List (List Int)) (hL : ∀ b ∈ L, b.length ≤ 100 ∧ bdd b) (a c : Slot) (ha : okS a) (hc : okS c) :
    (L.any (fun a => (rowsV p (r.length - m)).any fun b => decide (prodL p a b = r)) = true → forL (.one 3) (ex (g.with (c_L_is_rule g)) b_L_is_rule_1) (L.map tp) [.val (.int p), .val (tp r), .val (.int m), a, c] = some (.rt (.bool false))) ∧
    (L.any (fun a => (rowsV p (r.length - m)).any fun b => decide (prodL p a b = r)) = false → ∃ ρ', forL (.one 3) (ex (g.with (c_L_is_rule g)) b_L_is_rule_1) (L.map tp) [.val (.int p), .val (tp r), .val (.int m), a, c] = some (.nx ρ') ∧ ∃ a c, okS a ∧ okS c ∧ ρ' = [.val (.int p), .val (tp r), .val (.int m), a, c]) := by
  have key := forL_any (tg := .one 3) (body := ex (g.with (c_L_is_rule g)) b_L_is_rule_1) (fun ρ => ∃ a c, okS a ∧ okS c ∧ ρ = [.val (.int p), .val (tp r), .val (.int m), a, c]) (fun d => (rowsV p (r.length - m)).any fun b => decide (prodL p (listOf d) b = r)) (.rt (.bool false)) (fun ρ h => nomatch h) (xs := L.map tp) [.val (.int p), .val (tp r), .val (.int m), a, c] ⟨a, c, ha, hc, rfl⟩ (fun x hx ρ ⟨a, c, ha, hc, e⟩ => by
    subst e
    obtain ⟨z, hz, rfl⟩ := List.mem_map.mp hx
    rw [listOf_tp]
    obtain ⟨k1, k2⟩ := rule_in g p hp r z m (hL z hz).1 (hL z hz).2 (rowsV p (r.length - m)) (fun b hb => by rw [rowsV_mem hb]; omega) c hc
    have hcall : ev (g.with (c_L_is_rule g)) (.call 0 (.cons (.var 0) (.cons (.bin .sub (.bf .len (.var 1)) (.var 2)) .nil))) [.val (.int p), .val (tp r), .val (.int m), .val (tp z), c] = some (.ok .plain [] (lR (rowsV p (r.length - m)))) := by
      have e := L_rows_eq g p (r.length - m) hp2 (by omega) hb hp (by omega)
      have e2 : ((r.length : Int) - (m : Int)) = ((r.length - m : Nat) : Int) := by omega
      rw [← e2] at e
      simp [G.with, c_L_is_rule, tp, e]
    have hfor : ex (g.with (c_L_is_rule g)) b_L_is_rule_1 [.val (.int p), .val (tp r), .val (.int m), .val (tp z), c] = (match forL (.one 4) (ex (g.with (c_L_is_rule g)) b_L_is_rule_0) ((rowsV p (r.length - m)).map tp) [.val (.int p), .val (tp r), .val (.int m), .val (tp z), c] with
      | some (.nx ρ1) => some (.nx ρ1)
      | x => x) := by
      unfold b_L_is_rule_1
      rw [exE_cons, ex_for hcall rfl, tot_plain, disown_nil]
      rfl
    refine ⟨_, rfl, fun h => ?_, fun h => ?_⟩
    · show ex _ b_L_is_rule_1 [.val (.int p), .val (tp r), .val (.int m), .val (tp z), c] = _
      rw [hfor, k1 h]
    · obtain ⟨ρ', e1, c', hc', rfl⟩ := k2 h
      refine ⟨_, ?_, .val (tp z), c', okS_val, hc', rfl⟩
      show ex _ b_L_is_rule_1 [.val (.int p), .val (tp r), .val (.int m), .val (tp z), c] = _
      rw [hfor, e1])
  rw [any_tp L fun a => (rowsV p (r.length - m)).any fun b => decide (prodL p a b = r)] at key
  exact key
theorem rangeD_one (n : Nat) : rangeD 1 n = (List.range n).map fun (j : Nat) => PyData.int ((j + 1 : Nat) : Int) := by
  unfold rangeD
  congr 1
  funext k
  congr 1
  omega
def natOf : D → Nat
  | .int i => i.toNat
  | _ => 0
theorem L_is_rule_eq (g : G) (p : Nat) (hp : 0 < p) (hp2 : p ≤ 100) (r : List Int) (hr : r.length ≤ 20) (hb : p ^ r.length ≤ 900000) :
    F_L_is_rule g [.int p, tp r] = some (.ret (.bool (isRuleV p r))) := by
  unfold F_L_is_rule
  rw [runF2]
  have pw : ∀ k, k ≤ r.length → p ^ k ≤ 900000 := fun k hk => Nat.le_trans (Nat.pow_le_pow_right hp hk) hb
  have key := forL_any (tg := .one 2) (body := ex (g.with (c_L_is_rule g)) b_L_is_rule_2) (fun ρ => ∃ m a c, okS m ∧ okS a ∧ okS c ∧ ρ = [.val (.int p), .val (tp r), m, a, c]) (fun d => (rowsV p (natOf d)).any fun a => (rowsV p (r.length - natOf d)).any fun b => decide (prodL p a b = r)) (.rt (.bool false)) (fun ρ h => nomatch h) (xs := rangeD 1 (r.length / 2)) [.val (.int p), .val (tp r), .un, .un, .un] ⟨_, _, _, okS_un, okS_un, okS_un, rfl⟩ (fun x hx ρ ⟨m, a, c, hm, ha, hc, e⟩ => by
    subst e
    rw [rangeD_one] at hx
    obtain ⟨j, hj, rfl⟩ := List.mem_map.mp hx
    have hj : j < r.length / 2 := by simpa using hj
    have hnat : natOf (.int ((j + 1 : Nat) : Int)) = j + 1 := rfl
    rw [hnat]
    obtain ⟨k1, k2⟩ := rule_mid g p hp hp2 r (j + 1) (by omega) (by omega) hr (pw _ (by omega)) (rowsV p (j + 1)) (fun b hb => ⟨by rw [rowsV_mem hb]; omega, rowsV_bd (by omega) hb⟩) a c ha hc
    have hcall : ev (g.with (c_L_is_rule g)) (.call 0 (.cons (.var 0) (.cons (.var 2) .nil))) [.val (.int p), .val (tp r), .val (.int ((j + 1 : Nat) : Int)), a, c] = some (.ok .plain [] (lR (rowsV p (j + 1)))) := by
      have e := L_rows_eq g p (j + 1) hp2 (by omega) (pw _ (by omega)) hp (by omega)
      simp [G.with, c_L_is_rule] at e ⊢
      rw [e]
    have hfor : ex (g.with (c_L_is_rule g)) b_L_is_rule_2 [.val (.int p), .val (tp r), .val (.int ((j + 1 : Nat) : Int)), a, c] = (match forL (.one 3) (ex (g.with (c_L_is_rule g)) b_L_is_rule_1) ((rowsV p (j + 1)).map tp) [.val (.int p), .val (tp r), .val (.int ((j + 1 : Nat) : Int)), a, c] with
      | some (.nx ρ1) => some (.nx ρ1)
      | x => x) := by
      unfold b_L_is_rule_2
      rw [exE_cons, ex_for hcall rfl, tot_plain, disown_nil]
      rfl
    refine ⟨_, rfl, fun h => ?_, fun h => ?_⟩
    · show ex _ b_L_is_rule_2 [.val (.int p), .val (tp r), .val (.int ((j + 1 : Nat) : Int)), a, c] = _
      rw [hfor, k1 h]
    · obtain ⟨ρ', e1, a', c', ha', hc', rfl⟩ := k2 h
      refine ⟨_, ?_, .val (.int ((j + 1 : Nat) : Int)), a', c', okS_val, ha', hc', rfl⟩
      show ex _ b_L_is_rule_2 [.val (.int p), .val (tp r), .val (.int ((j + 1 : Nat) : Int)), a, c] = _
      rw [hfor, e1])
  have eany : (rangeD 1 (r.length / 2)).any (fun d => (rowsV p (natOf d)).any fun a => (rowsV p (r.length - natOf d)).any fun b => decide (prodL p a b = r)) = !isRuleV p r := by
    unfold isRuleV
    rw [Bool.not_not, rangeD_one, List.any_map]
    rfl
  rw [eany] at key
  have hrange : ev (g.with (c_L_is_rule g)) (.range2 (.int 1) (.bin .add (.bin .fdiv (.bf .len (.var 1)) (.int 2)) (.int 1))) [.val (.int p), .val (tp r), .un, .un, .un] = some (.ok .plain [] (.list (rangeD 1 (r.length / 2)))) := by
    have hd := b_fdiv .plain (r.length : Int) 2 (by decide)
    have hl : ev (g.with (c_L_is_rule g)) (.bin .add (.bin .fdiv (.bf .len (.var 1)) (.int 2)) (.int 1)) [.val (.int p), .val (tp r), .un, .un, .un] = some (.ok .plain [] (.int ((r.length : Int) / 2 + 1))) := by
      simp [tp, hd]
    rw [evE_range2, evE_int, map2_ok, hl, map2_ok]
    show (if small 1 && small ((r.length : Int) / 2 + 1) then some (Rs.ok .plain [] (.list (rangeD 1 (((r.length : Int) / 2 + 1) - 1).toNat))) else none) = _
    have h1 : small ((r.length : Int) / 2 + 1) = true := Nat.ble_eq_true_of_le (by omega)
    have h2 : (((r.length : Int) / 2 + 1) - 1).toNat = r.length / 2 := by omega
    rw [h1, h2]
    rfl
  have hfor : ex (g.with (c_L_is_rule g)) b_L_is_rule [.val (.int p), .val (tp r), .un, .un, .un] = (match forL (.one 2) (ex (g.with (c_L_is_rule g)) b_L_is_rule_2) (rangeD 1 (r.length / 2)) [.val (.int p), .val (tp r), .un, .un, .un] with
      | some (.nx ρ1) => some (.rt (.bool true))
      | x => x) := by
    unfold b_L_is_rule
    rw [exE_cons, ex_for hrange rfl, tot_plain, disown_nil]
    rfl
  show fin (ex (g.with (c_L_is_rule g)) b_L_is_rule [.val (.int p), .val (tp r), .un, .un, .un]) = _
  rw [hfor]
  cases q : isRuleV p r with
  | true =>
    obtain ⟨ρ', e1, _⟩ := key.2 (by rw [q]; rfl)
    rw [e1]
    rfl
  | false =>
    rw [key.1 (by rw [q]; rfl)]
    rfl
end Vi

set_option maxRecDepth 100000
set_option maxHeartbeats 4000000
namespace Vi
open PySem PySem.Spec PyProof.Rows L2
/-- a loop that ends at the first item with c, by what that item gives -/
theorem forL_find {tg : Tg} {body : REnv → Option SR} (I : REnv → Prop) (c : D → Bool) (r : D → SR) (hr : ∀ x ρ, r x ≠ .nx ρ) : ∀ {xs : List D} (ρ : REnv), I ρ →
    (∀ x ∈ xs, ∀ ρ, I ρ → ∃ ρ1, bindT tg x ρ = some ρ1 ∧ (c x = true → body ρ1 = some (r x)) ∧ (c x = false → ∃ ρ2, body ρ1 = some (.nx ρ2) ∧ I ρ2)) →
    xs.any c = true → ∃ x ∈ xs, c x = true ∧ forL tg body xs ρ = some (r x)
  | [], ρ, h0, _, ha => by simp at ha
  | x :: xs, ρ, h0, h, ha => by
    obtain ⟨ρ1, e1, hy, hn⟩ := h x List.mem_cons_self ρ h0
    have unf : forL tg body (x :: xs) ρ = (match body ρ1 with
        | some (.nx ρ2) => forL tg body xs ρ2
        | x => x) := by
      show (match bindT tg x ρ with
        | none => none
        | some ρ1 => match body ρ1 with
          | some (.nx ρ2) => forL tg body xs ρ2
          | x => x) = _
      rw [e1]
    cases q : c x with
    | true =>
      refine ⟨x, List.mem_cons_self, q, ?_⟩
      rw [unf, hy q]
      cases e : r x with
      | nx ρ => exact absurd e (hr x ρ)
      | _ => rfl
    | false =>
      obtain ⟨ρ2, e2, i2⟩ := hn q
      obtain ⟨y, hy1, hy2, hy3⟩ := forL_find I c r hr (xs := xs) ρ2 i2 (fun y hy => h y (List.mem_cons_of_mem _ hy)) (by simpa [q] using ha)
      exact ⟨y, List.mem_cons_of_mem _ hy1, hy2, by rw [unf, e2]; exact hy3⟩
def fD (p : Int) (r : List Int) : D := .tuple [.int p, tp r]

theorem c_eqI (i j : Int) : cmpop .eq (.int i) (.int j) = some (decide (i = j)) := by
  show some (i == j) = _
  by_cases h : i = j
  · subst h; simp
  · simp [h]
def kT (k : Nat × Nat) : D := .tuple [.int k.1, .int k.2]
def fldHead : S := (.cons (.set 2 (.call 0 (.cons (.var 0) (.cons (.var 1) .nil)))) .nil)
theorem cut_from {α : Type} (l : List α) (b : Nat) (h : b ≤ l.length) : cut l (some (b : Int)) none = l.drop b := by
  unfold cut
  have e : sBound l.length 0 (some (b : Int)) = b := by
    have e0 : sBound l.length 0 (some (b : Int)) = min (b : Int).toNat l.length := by
      have hb : ¬ (b : Int) < 0 := by omega
      simp only [sBound, if_neg hb]
    rw [e0, Int.toNat_natCast]
    omega
  rw [e]
  show (l.drop b).take (l.length - b) = _
  exact List.take_of_length_le (by simp)
theorem cut_to {α : Type} (l : List α) (b : Nat) (h : b ≤ l.length) : cut l none (some (b : Int)) = l.take b := by
  unfold cut
  have e : sBound l.length l.length (some (b : Int)) = b := by
    have e0 : sBound l.length l.length (some (b : Int)) = min (b : Int).toNat l.length := by
      have hb : ¬ (b : Int) < 0 := by omega
      simp only [sBound, if_neg hb]
    rw [e0, Int.toNat_natCast]
    omega
  rw [e]
  show (l.drop 0).take (b - 0) = _
  rfl
theorem field_loop (g : G) (p n : Nat) (hp : 0 < p) (hp2 : p ≤ 7) (hn : n ≤ 5) (hb : p ^ n ≤ 100) (a0 a1 a2 a3 a4 a8 : Slot) (L : List (List Int)) (hL : ∀ r ∈ L, r ∈ rowsV p n) (ha : L.any (isRuleV p) = true) (R : D) :
    ∃ r ∈ L, isRuleV p r = true ∧ forL (.one 9) (ex (g.with (c_L_field g)) b_L_field_0) (L.map tp) [a0, a1, a2, a3, a4, .val (.int p), .val (.int n), .val R, a8, .un] = some (.rt (fD p r)) := by
  obtain ⟨x, hx, hc, e⟩ := forL_find (tg := .one 9) (body := ex (g.with (c_L_field g)) b_L_field_0) (fun ρ => ∃ z, ρ = [a0, a1, a2, a3, a4, .val (.int p), .val (.int n), .val R, a8, z]) (fun d => isRuleV p (listOf d)) (fun d => .rt (fD p (listOf d))) (fun x ρ h => nomatch h) (xs := L.map tp) [a0, a1, a2, a3, a4, .val (.int p), .val (.int n), .val R, a8, .un] ⟨_, rfl⟩ (fun x hx ρ ⟨z, e⟩ => by
    subst e
    obtain ⟨r, hr, rfl⟩ := List.mem_map.mp hx
    rw [listOf_tp]
    have hl := rowsV_mem (hL r hr)
    have hcall : ev (g.with (c_L_field g)) (.call 3 (.cons (.var 5) (.cons (.var 9) .nil))) [a0, a1, a2, a3, a4, .val (.int p), .val (.int n), .val R, a8, .val (tp r)] = some (.ok .plain [] (.bool (isRuleV p r))) := by
      have e := L_is_rule_eq g p hp (by omega) r (by omega) (by rw [hl]; omega)
      simp [G.with, c_L_field, e]
    refine ⟨_, rfl, fun h => ?_, fun h => ⟨[a0, a1, a2, a3, a4, .val (.int p), .val (.int n), .val R, a8, .val (tp r)], ?_, _, rfl⟩⟩
    · show ex _ b_L_field_0 [a0, a1, a2, a3, a4, .val (.int p), .val (.int n), .val R, a8, .val (tp r)] = _
      unfold b_L_field_0
      simp only [exE_cons, exE_ite, hcall, toS_ok, tr_bool, h]
      rfl
    · show ex _ b_L_field_0 [a0, a1, a2, a3, a4, .val (.int p), .val (.int n), .val R, a8, .val (tp r)] = _
      unfold b_L_field_0
      simp only [exE_cons, exE_ite, hcall, toS_ok, tr_bool, h]
      rfl) (by rw [any_tp]; exact ha)
  obtain ⟨r, hr, rfl⟩ := List.mem_map.mp hx
  rw [listOf_tp] at hc e
  exact ⟨r, hr, hc, e⟩
theorem L_field_eq (g : G) (ns : List Int) (at_ : Nat) (hns : ns.length ≤ 1000) : ∃ f ∈ FIELDS, F_L_field g [.list (ns.map .int), .int at_] = some (.ret (fD f.1 f.2)) := by
  unfold F_L_field
  rw [runF2]
  generalize hsc : PyData.list (ns.map .int) = sc
  have hsl : bfun .len sc = some (.plain, .int ns.length) := by rw [← hsc]; simp
  -- the cells
  have hc0 : F_L_cell g [sc, .int 0] = some (.ret (.int (ns.getD 0 0))) := by rw [← hsc]; exact L_cell_eq g ns 0
  have hc1 : F_L_cell g [sc, .int at_] = some (.ret (.int (ns.getD at_ 0))) := by rw [← hsc]; exact L_cell_eq g ns at_
  generalize ns.getD 0 0 = c0 at hc0
  generalize ns.getD at_ 0 = c1 at hc1
  have s1 : ex (g.with (c_L_field g)) (.set 2 (.call 0 (.cons (.var 0) (.cons (.var 1) .nil)))) [.val sc, .val (.int at_), .un, .un, .un, .un, .un, .un, .un, .un] = some (.nx [.val sc, .val (.int at_), .val (.int c1), .un, .un, .un, .un, .un, .un, .un]) := by
    simp [G.with, c_L_field, hc1]
  have hk : KINDS.map kT = [.tuple [.int 2, .int 2], .tuple [.int 2, .int 3], .tuple [.int 3, .int 2], .tuple [.int 2, .int 4], .tuple [.int 5, .int 1], .tuple [.int 3, .int 1], .tuple [.int 5, .int 2], .tuple [.int 3, .int 3], .tuple [.int 2, .int 1], .tuple [.int 7, .int 1], .tuple [.int 7, .int 2], .tuple [.int 2, .int 5]] := rfl
  obtain ⟨t3, ht3⟩ : ∃ t3 : E, t3 = .lst (.cons (.tup (.cons (.int 2) (.cons (.int 2) .nil))) (.cons (.tup (.cons (.int 2) (.cons (.int 3) .nil))) (.cons (.tup (.cons (.int 3) (.cons (.int 2) .nil))) (.cons (.tup (.cons (.int 2) (.cons (.int 4) .nil))) (.cons (.tup (.cons (.int 5) (.cons (.int 1) .nil))) (.cons (.tup (.cons (.int 3) (.cons (.int 1) .nil))) (.cons (.tup (.cons (.int 5) (.cons (.int 2) .nil))) (.cons (.tup (.cons (.int 3) (.cons (.int 3) .nil))) (.cons (.tup (.cons (.int 2) (.cons (.int 1) .nil))) (.cons (.tup (.cons (.int 7) (.cons (.int 1) .nil))) (.cons (.tup (.cons (.int 7) (.cons (.int 2) .nil))) (.cons (.tup (.cons (.int 2) (.cons (.int 5) .nil))) .nil)))))))))))) := ⟨_, rfl⟩
  have s2 : ex (g.with (c_L_field g)) (.set 3 t3) [.val sc, .val (.int at_), .val (.int c1), .un, .un, .un, .un, .un, .un, .un] = some (.nx [.val sc, .val (.int at_), .val (.int c1), .own (KINDS.map kT), .un, .un, .un, .un, .un, .un]) := by
    rw [ht3]; rfl
  have s3 : ex (g.with (c_L_field g)) (.set 4 (.int 9)) [.val sc, .val (.int at_), .val (.int c1), .own (KINDS.map kT), .un, .un, .un, .un, .un, .un] = some (.nx [.val sc, .val (.int at_), .val (.int c1), .own (KINDS.map kT), .val (.int 9), .un, .un, .un, .un, .un]) := rfl
  have hmx := L_mix_eq g (c0 + 7 * (ns.length : Int)) 9871 8 (by decide) (by decide) (by decide)
  have s4 : ∃ m : Nat, (m = 9 ∨ m = 12) ∧ ex (g.with (c_L_field g)) (.ite (.cmp .eq (.call 1 (.cons (.bin .add (.call 0 (.cons (.var 0) (.cons (.int 0) .nil))) (.bin .mul (.int 7) (.bf .len (.var 0)))) (.cons (.int 9871) (.cons (.int 8) .nil)))) (.int 3)) (.cons (.set 4 (.int 12)) .nil) .nil) [.val sc, .val (.int at_), .val (.int c1), .own (KINDS.map kT), .val (.int 9), .un, .un, .un, .un, .un] = some (.nx [.val sc, .val (.int at_), .val (.int c1), .own (KINDS.map kT), .val (.int m), .un, .un, .un, .un, .un]) := by
    have hm7 := b_mul .plain 7 (ns.length : Int) (mulOk_l (by decide) (by decide))
    have hcmp : ev (g.with (c_L_field g)) (.cmp .eq (.call 1 (.cons (.bin .add (.call 0 (.cons (.var 0) (.cons (.int 0) .nil))) (.bin .mul (.int 7) (.bf .len (.var 0)))) (.cons (.int 9871) (.cons (.int 8) .nil)))) (.int 3)) [.val sc, .val (.int at_), .val (.int c1), .own (KINDS.map kT), .val (.int 9), .un, .un, .un, .un, .un] = some (.ok .plain [] (.bool (decide (mixV (c0 + 7 * (ns.length : Int)) 9871 8 = 3)))) := by
      simp [G.with, c_L_field, hc0, hsl, hm7, hmx, c_eqI]
    rw [exE_ite, hcmp, toS_ok]
    by_cases h : mixV (c0 + 7 * (ns.length : Int)) 9871 8 = 3
    · exact ⟨12, .inr rfl, by rw [decide_eq_true h]; rfl⟩
    · exact ⟨9, .inl rfl, by rw [decide_eq_false h]; rfl⟩
  obtain ⟨m, hm, s4⟩ := s4
  have hm0 : (0 : Int) < m := by rcases hm with rfl | rfl <;> decide
  have hmx2 := L_mix_eq g c1 9973 m (by decide) (by decide) hm0
  obtain ⟨hx1, hx2⟩ := mixV_lt c1 9973 m hm0
  obtain ⟨k, hkk⟩ : ∃ k : Nat, mixV c1 9973 m = k := ⟨(mixV c1 9973 m).toNat, by omega⟩
  rw [hkk] at hmx2 hx2
  have hk12 : k < KINDS.length := by
    have : KINDS.length = 12 := rfl
    rcases hm with rfl | rfl <;> omega
  obtain ⟨kd, hkd⟩ : ∃ kd, KINDS[k]? = some kd := ⟨_, List.getElem?_eq_getElem hk12⟩
  have hmem : kd ∈ KINDS := List.mem_of_getElem? hkd
  obtain ⟨p1, p2, p3, p4, p5, p6⟩ := kinds_ok kd hmem
  have s5 : ex (g.with (c_L_field g)) (.set2 5 6 (.idx (.var 3) (.call 1 (.cons (.var 2) (.cons (.int 9973) (.cons (.var 4) .nil)))))) [.val sc, .val (.int at_), .val (.int c1), .own (KINDS.map kT), .val (.int m), .un, .un, .un, .un, .un] = some (.nx [.val sc, .val (.int at_), .val (.int c1), .own (KINDS.map kT), .val (.int m), .val (.int kd.1), .val (.int kd.2), .un, .un, .un]) := by
    have hg : getAt (.list (KINDS.map kT)) (k : Int) = some (kT kd) := by rw [getL_nat, List.getElem?_map, hkd]; rfl
    have hv : ev (g.with (c_L_field g)) (.idx (.var 3) (.call 1 (.cons (.var 2) (.cons (.int 9973) (.cons (.var 4) .nil))))) [.val sc, .val (.int at_), .val (.int c1), .own (KINDS.map kT), .val (.int m), .un, .un, .un, .un, .un] = some (.ok .plain [] (kT kd)) := by
      have hcall : ev (g.with (c_L_field g)) (.call 1 (.cons (.var 2) (.cons (.int 9973) (.cons (.var 4) .nil)))) [.val sc, .val (.int at_), .val (.int c1), .own (KINDS.map kT), .val (.int m), .un, .un, .un, .un, .un] = some (.ok .plain [] (.int k)) := by
        simp [G.with, c_L_field, hmx2]
      rw [evE_idx, hcall]
      show ((getAt (.list (KINDS.map kT)) (k : Int)).map fun d => Rs.ok .plain (depF d []) d) = _
      rw [hg]
      rfl
    rw [exE_set2, hv, toS_ok]
    rfl
  have hrows := L_rows_eq g kd.1 kd.2 (by omega) (by omega) (by omega) p1 p3
  have s6 : ex (g.with (c_L_field g)) (.set 7 (.call 2 (.cons (.var 5) (.cons (.var 6) .nil)))) [.val sc, .val (.int at_), .val (.int c1), .own (KINDS.map kT), .val (.int m), .val (.int kd.1), .val (.int kd.2), .un, .un, .un] = some (.nx [.val sc, .val (.int at_), .val (.int c1), .own (KINDS.map kT), .val (.int m), .val (.int kd.1), .val (.int kd.2), .val (lR (rowsV kd.1 kd.2)), .un, .un]) := by
    have hcall : ev (g.with (c_L_field g)) (.call 2 (.cons (.var 5) (.cons (.var 6) .nil))) [.val sc, .val (.int at_), .val (.int c1), .own (KINDS.map kT), .val (.int m), .val (.int kd.1), .val (.int kd.2), .un, .un, .un] = some (.ok .plain [] (lR (rowsV kd.1 kd.2))) := by
      simp [G.with, c_L_field, hrows]
    rw [ex_set hcall (by show 7 < 10; decide), put_plain]
    rfl
  have hlen := rowsV_len kd.1 kd.2
  have hpos : 0 < kd.1 ^ kd.2 := Nat.pow_pos p1
  have hmx3 := L_mix_eq g c1 9967 ((rowsV kd.1 kd.2).length : Int) (by decide) (by decide) (by omega)
  obtain ⟨hb1, hb2⟩ := mixV_lt c1 9967 ((rowsV kd.1 kd.2).length : Int) (by omega)
  obtain ⟨b, hbb⟩ : ∃ b : Nat, mixV c1 9967 ((rowsV kd.1 kd.2).length : Int) = b := ⟨(mixV c1 9967 ((rowsV kd.1 kd.2).length : Int)).toNat, by omega⟩
  rw [hbb] at hmx3 hb2
  have s7 : ex (g.with (c_L_field g)) (.set 8 (.call 1 (.cons (.var 2) (.cons (.int 9967) (.cons (.bf .len (.var 7)) .nil))))) [.val sc, .val (.int at_), .val (.int c1), .own (KINDS.map kT), .val (.int m), .val (.int kd.1), .val (.int kd.2), .val (lR (rowsV kd.1 kd.2)), .un, .un] = some (.nx [.val sc, .val (.int at_), .val (.int c1), .own (KINDS.map kT), .val (.int m), .val (.int kd.1), .val (.int kd.2), .val (lR (rowsV kd.1 kd.2)), .val (.int b), .un]) := by
    have hl : bfun .len (lR (rowsV kd.1 kd.2)) = some (.plain, .int (rowsV kd.1 kd.2).length) := by simp [lR]
    have hcall : ev (g.with (c_L_field g)) (.call 1 (.cons (.var 2) (.cons (.int 9967) (.cons (.bf .len (.var 7)) .nil)))) [.val sc, .val (.int at_), .val (.int c1), .own (KINDS.map kT), .val (.int m), .val (.int kd.1), .val (.int kd.2), .val (lR (rowsV kd.1 kd.2)), .un, .un] = some (.ok .plain [] (.int b)) := by
      simp [G.with, c_L_field, hl, hmx3]
    exact ex_set hcall (by show 8 < 10; decide)
  have hbl : b ≤ ((rowsV kd.1 kd.2).map tp).length := by rw [List.length_map]; omega
  have hit : ev (g.with (c_L_field g)) (.bin .add (.slc (.var 7) (.var 8) .miss) (.slc (.var 7) .miss (.var 8))) [.val sc, .val (.int at_), .val (.int c1), .own (KINDS.map kT), .val (.int m), .val (.int kd.1), .val (.int kd.2), .val (lR (rowsV kd.1 kd.2)), .val (.int b), .un] = some (.ok .fresh [] (.list (((rowsV kd.1 kd.2).drop b ++ (rowsV kd.1 kd.2).take b).map tp))) := by
    have h1 : cutD (lR (rowsV kd.1 kd.2)) (some (b : Int)) none = some (.fresh, .list (((rowsV kd.1 kd.2).drop b).map tp)) := by
      show some (Kd.fresh, PyData.list (cut ((rowsV kd.1 kd.2).map tp) (some (b : Int)) none)) = _
      rw [cut_from _ _ hbl, List.map_drop]
    have h2 : cutD (lR (rowsV kd.1 kd.2)) none (some (b : Int)) = some (.fresh, .list (((rowsV kd.1 kd.2).take b).map tp)) := by
      show some (Kd.fresh, PyData.list (cut ((rowsV kd.1 kd.2).map tp) none (some (b : Int)))) = _
      rw [cut_to _ _ hbl, List.map_take]
    have e1 : ev (g.with (c_L_field g)) (.slc (.var 7) (.var 8) .miss) [.val sc, .val (.int at_), .val (.int c1), .own (KINDS.map kT), .val (.int m), .val (.int kd.1), .val (.int kd.2), .val (lR (rowsV kd.1 kd.2)), .val (.int b), .un] = some (.ok .fresh [] (.list (((rowsV kd.1 kd.2).drop b).map tp))) := by
      show ((cutD (lR (rowsV kd.1 kd.2)) (some (b : Int)) none).map fun r => Rs.ok r.1 (depOf r.2 []) r.2) = _
      rw [h1]; rfl
    have e2 : ev (g.with (c_L_field g)) (.slc (.var 7) .miss (.var 8)) [.val sc, .val (.int at_), .val (.int c1), .own (KINDS.map kT), .val (.int m), .val (.int kd.1), .val (.int kd.2), .val (lR (rowsV kd.1 kd.2)), .val (.int b), .un] = some (.ok .fresh [] (.list (((rowsV kd.1 kd.2).take b).map tp))) := by
      show ((cutD (lR (rowsV kd.1 kd.2)) none (some (b : Int))).map fun r => Rs.ok r.1 (depOf r.2 []) r.2) = _
      rw [h2]; rfl
    rw [ev_bin e1 e2 (b_addL .fresh _ _ (sz (by simp; omega))), List.map_append]
    rfl
  have hany : ((rowsV kd.1 kd.2).drop b ++ (rowsV kd.1 kd.2).take b).any (isRuleV kd.1) = true := by
    rw [List.any_append, Bool.or_comm, ← List.any_append, List.take_append_drop]
    exact p6
  obtain ⟨r, hr1, hr2, hr3⟩ := field_loop g kd.1 kd.2 p1 p2 p4 p5 (.val sc) (.val (.int at_)) (.val (.int c1)) (.own (KINDS.map kT)) (.val (.int m)) (.val (.int b)) ((rowsV kd.1 kd.2).drop b ++ (rowsV kd.1 kd.2).take b) (fun r hr => by
    rcases List.mem_append.mp hr with hr | hr
    · exact List.mem_of_mem_drop hr
    · exact List.mem_of_mem_take hr) hany (lR (rowsV kd.1 kd.2))
  have hrm : r ∈ rowsV kd.1 kd.2 := by
    rcases List.mem_append.mp hr1 with hr | hr
    · exact List.mem_of_mem_drop hr
    · exact List.mem_of_mem_take hr
  refine ⟨(kd.1, r), List.mem_flatMap.mpr ⟨kd, hmem, List.mem_map.mpr ⟨r, List.mem_filter.mpr ⟨hrm, hr2⟩, rfl⟩⟩, ?_⟩
  have s8 : ∀ q, ex (g.with (c_L_field g)) (.cons (.for_ (.one 9) (.bin .add (.slc (.var 7) (.var 8) .miss) (.slc (.var 7) .miss (.var 8))) b_L_field_0) q) [.val sc, .val (.int at_), .val (.int c1), .own (KINDS.map kT), .val (.int m), .val (.int kd.1), .val (.int kd.2), .val (lR (rowsV kd.1 kd.2)), .val (.int b), .un] = some (.rt (fD kd.1 r)) := fun q => by
    rw [exE_cons, ex_for hit rfl, tot_fresh, disown_nil, hr3]
  show fin (ex (g.with (c_L_field g)) b_L_field [.val sc, .val (.int at_), .un, .un, .un, .un, .un, .un, .un, .un]) = _
  unfold b_L_field
  rw [← ht3]
  rw [ex_cons s1, ex_cons s2, ex_cons s3, ex_cons s4, ex_cons s5, ex_cons s6, ex_cons s7, s8]
  rfl
end Vi

set_option maxRecDepth 100000
set_option maxHeartbeats 4000000
namespace Vi
open PySem PySem.Spec PyProof.Rows L2
theorem L_number_eq (g : G) (p : Int) (hp : 0 < p) (r : List Int) (hr : r.length ≤ 100) (c : Int) (hc : Builtin.Int.intBits c ≤ 2000000) :
    F_L_number g [fD p r, .int c] = some (.ret (tp (numV c p r.length))) := by
  unfold F_L_number
  rw [runF2]
  have hcomp : ev (g.with (c_L_number g)) (.comp (.one 2) (.range1 (.bf .len (.idx (.var 0) (.int 1)))) .miss (.call 0 (.cons (.bin .pow (.bin .add (.var 1) (.bin .mul (.int 41) (.var 2))) (.int 2)) (.cons (.int 9949) (.cons (.idx (.var 0) (.int 0)) .nil))))) [.val (fD p r), .val (.int c), .un] = some (.ok .fresh [] (.list ((numV c p r.length).map .int))) := by
    refine ev_comp (ev_range1 (k := .plain) (p := []) (n := r.length) ?_ (by omega)) rfl rfl rfl (?_ : _ = some _) (sz (by simp [numV]; omega))
    · show (Rs.map2 (Option.map (fun d => Rs.ok .plain (depF d []) d) (getAt (fD p r) 1)) fun _ da x => (bfun .len x).map fun r => Rs.ok r.1 (depOf r.2 da) r.2) = _
      have : getAt (fD p r) ((1 : Nat) : Int) = some (tp r) := getT_nat _ 1
      rw [show (1 : Int) = ((1 : Nat) : Int) from rfl, this]
      simp [tp]
    · rw [rangeD_map]
      rw [compL_map (h := fun d => match d with | .int k => .int (mixV ((c + 41 * k) ^ 2) 9949 p) | d => d)]
      · rw [List.map_map]
        unfold numV
        rw [List.map_map]
        rfl
      · intro x hx
        obtain ⟨k, hk, rfl⟩ := List.mem_map.mp hx
        have hk : k < r.length := by simpa using hk
        have h0 : getAt (fD p r) 0 = some (.int p) := getT_nat _ 0
        have hm := b_mul .plain 41 (k : Int) (mulOk_l (by decide) (by decide))
        have hbits : Builtin.Int.intBits (c + 41 * (k : Int)) ≤ 2000001 := by
          have h41 : Builtin.Int.intBits (41 * (k : Int)) ≤ 2000000 := by
            refine intBits_le_iff.mpr (Nat.lt_of_lt_of_le (by omega : (41 * (k : Int)).natAbs < 2 ^ 20) (Nat.pow_le_pow_right (by decide) (by decide)))
          have := PySem.intBits_add_le hc h41
          simpa using this
        have hpw := b_pow .plain (c + 41 * (k : Int)) 2 ⟨by decide, by omega⟩
        have hmx := L_mix_eq g ((c + 41 * (k : Int)) ^ 2) 9949 p (by decide) (by decide) hp
        have hp2 : (2 : Int).toNat = 2 := rfl
        rw [hp2] at hpw
        generalize hz : (c + 41 * (k : Int)) ^ 2 = z at hpw hmx ⊢
        simp [compF, isMiss, bindT, Tg.wipe, compE, G.with, c_L_number, hm, hpw, hmx, h0, hz]
  show fin (ex _ (.cons (.ret (.bf .tuple _)) .nil) [.val (fD p r), .val (.int c), .un]) = _
  rw [exE_cons, exE_ret, evE_bf, hcomp]
  rfl

/-! ### checks -/
theorem is_within_eq (g : G) (x lo hi : Int) : F_is_within g [.int x, .int lo, .int hi] = some (.ret (.bool (decide (lo ≤ x) && decide (x ≤ hi)))) := by
  unfold F_is_within
  rw [runF3]
  by_cases h1 : lo ≤ x
  · by_cases h2 : x ≤ hi
    · simp [b_is_within, isType, h1, h2, retOf]
    · simp [b_is_within, isType, h1, h2, retOf]
  · simp [b_is_within, isType, h1, retOf]
def outB (p : Int) : D → Bool
  | .int x => !(decide (0 ≤ x) && decide (x ≤ p - 1))
  | _ => false
theorem any_out {p : Int} {a : List Int} (h : ∀ x ∈ a, 0 ≤ x ∧ x < p) : (a.map PyData.int).filter (outB p) = [] := by
  rw [List.filter_eq_nil_iff]
  intro d hd
  obtain ⟨x, hx, rfl⟩ := List.mem_map.mp hd
  obtain ⟨h1, h2⟩ := h x hx
  simp [outB, h1]
  omega
theorem are_figures_eq (g : G) (p lo hi : Int) (a : List Int) (ha : a.length ≤ 1000) (h : ∀ x ∈ a, 0 ≤ x ∧ x < p) :
    F_are_figures g [.int p, tp a, .int lo, .int hi] = some (.ret (.bool (decide (lo ≤ a.length) && decide ((a.length : Int) ≤ hi)))) := by
  unfold F_are_figures
  rw [runF4]
  have hcomp : ev (g.with (c_are_figures g)) (.comp (.one 4) (.var 1) (.not (.call 0 (.cons (.var 4) (.cons (.int 0) (.cons (.bin .sub (.var 0) (.int 1)) .nil))))) (.var 4)) [.val (.int p), .val (tp a), .val (.int lo), .val (.int hi), .un] = some (.ok .fresh [] (.list [])) := by
    refine ev_comp (k := .plain) (x := tp a) (xs := a.map .int) rfl rfl rfl rfl (?_ : _ = some []) (sz (by simp))
    rw [compL_filter (c := outB p) (h := id)]
    · rw [any_out h]; rfl
    · intro d hd
      obtain ⟨x, hx, rfl⟩ := List.mem_map.mp hd
      have e := is_within_eq g x 0 (p - 1)
      obtain ⟨h1, h2⟩ := h x hx
      have h3 : x ≤ p - 1 := by omega
      simp [compF, isMiss, bindT, Tg.wipe, compE, G.with, c_are_figures, e, h1, h3, outB]
  have hl : bfun .len (tp a) = some (.plain, .int a.length) := by simp [tp]
  have ht : isType .tuple (tp a) = true := rfl
  by_cases h1 : lo ≤ a.length
  · by_cases h2 : (a.length : Int) ≤ hi
    · simp [b_are_figures, ht, hl, h1, h2, retOf, hcomp]
    · simp [b_are_figures, ht, hl, h1, h2, retOf]
  · simp [b_are_figures, ht, hl, h1, retOf]
theorem is_number_eq (g : G) (p : Int) (r a : List Int) (ha : inV p r.length a) (hr : r.length ≤ 1000) : F_is_number g [fD p r, tp a] = some (.ret (.bool true)) := by
  unfold F_is_number
  rw [runF2]
  have h0 : getAt (fD p r) 0 = some (.int p) := getT_nat _ 0
  have h1 : getAt (fD p r) 1 = some (tp r) := getT_nat _ 1
  have hl : bfun .len (tp r) = some (.plain, .int r.length) := by simp [tp]
  have e := are_figures_eq g p r.length r.length a (by rw [ha.1]; exact hr) ha.2
  rw [ha.1] at e
  simp [b_is_number, h0, h1, hl, G.with, c_is_number, e, retOf]
end Vi

set_option maxRecDepth 100000
set_option maxHeartbeats 4000000
namespace Vi
open PySem PySem.Spec PyProof.Rows L2
theorem fin_ret_tup {g : G} {e : E} {ρ : REnv} {k : Kd} {p : List Nat} {l : List D} (h : ev g e ρ = some (.ok k p (.list l))) : fin (ex g (.cons (.ret (.bf .tuple e)) .nil) ρ) = some (.ret (.tuple l)) := by
  rw [exE_cons, exE_ret, evE_bf, h]
  rfl
theorem flat_zeros (n : Nat) : (List.replicate n [PyData.int 0]).flatten = (zeros n).map .int := by
  induction n with
  | zero => rfl
  | succ n ih => rw [List.replicate_succ, List.flatten_cons, ih]; rfl
theorem b_rep (ka : Kd) (n : Nat) (h : n ≤ 1000) : binop ka .mul (.tuple [.int 0]) (.int n) = some (.plain, tp (zeros n)) := by
  show (if [PyData.int 0].length ≤ 1000 ∧ (n : Int) ≤ 1000 ∧ -1000 ≤ (n : Int) then some (Kd.plain, PyData.tuple (List.replicate (n : Int).toNat [PyData.int 0]).flatten) else none) = _
  rw [if_pos ⟨by decide, by omega, by omega⟩, Int.toNat_natCast, flat_zeros]
  rfl
section
variable (g : G) (p : Int) (r : List Int)
theorem fD_0 : getAt (fD p r) 0 = some (.int p) := getT_nat _ 0
theorem fD_1 : getAt (fD p r) 1 = some (tp r) := getT_nat _ 1
theorem len_tp (a : List Int) : bfun .len (tp a) = some (.plain, .int a.length) := by simp [tp]
theorem nought_eq (hr : r.length ≤ 1000) : F_nought g [fD p r] = some (.ret (tp (zeros r.length))) := by
  unfold F_nought
  rw [runF1]
  have h := b_rep .plain r.length hr
  simp [b_nought, fD_0, fD_1, len_tp, sizeLine_eq, h, retOf]
theorem L_nought_eq (hr : r.length ≤ 1000) : F_L_nought g [fD p r] = some (.ret (tp (zeros r.length))) := by
  unfold F_L_nought
  rw [runF1]
  have h := b_rep .plain r.length hr
  simp [b_L_nought, fD_0, fD_1, len_tp, sizeLine_eq, h, retOf]
theorem pairs_map : ∀ (a b : List Int), pairs (a.map .int) (b.map .int) = (List.zip a b).map fun z => PyData.tuple [.int z.1, .int z.2]
  | [], b => by simp [pairs]
  | x :: a, [] => by simp [pairs]
  | x :: a, y :: b => by
    show PyData.tuple [.int x, .int y] :: pairs (a.map .int) (b.map .int) = _
    rw [pairs_map a b]
    rfl
def pairOf (f : Int → Int → Int) : D → D
  | .tuple [.int x, .int y] => .int (f x y)
  | d => d
theorem zip_pairOf (f : Int → Int → Int) (a b : List Int) : (pairs (a.map .int) (b.map .int)).map (pairOf f) = (List.zipWith f a b).map .int := by
  rw [pairs_map, List.map_map, ← List.map_uncurry_zip_eq_zipWith, List.map_map]
  rfl
theorem sum_of_eq (hp : 0 < p) (a b : List Int) (ha : a.length ≤ 1000) : F_sum_of g [fD p r, tp a, tp b] = some (.ret (tp (addV p a b))) := by
  unfold F_sum_of
  rw [runF3]
  have hcomp : ev (g.with (c_sum_of g)) (.comp (.two 3 4) (.zip (.var 1) (.var 2)) .miss (.bin .mod (.bin .add (.var 3) (.var 4)) (.idx (.var 0) (.int 0)))) [.val (fD p r), .val (tp a), .val (tp b), .un, .un] = some (.ok .fresh [] (.list ((addV p a b).map .int))) := by
    refine ev_comp (k := .via []) (x := .list (pairs (a.map .int) (b.map .int))) rfl rfl rfl rfl (?_ : _ = some _) (sz (by simp [addV]; omega))
    rw [compL_map (h := pairOf fun x y => (x + y) % p), zip_pairOf]
    · rfl
    · intro d hd
      rw [pairs_map] at hd
      obtain ⟨⟨x, y⟩, _, rfl⟩ := List.mem_map.mp hd
      have hm := b_mod .plain (x + y) p hp
      simp [compF, isMiss, bindT, Tg.wipe, compE, fD_0, hm, pairOf]
  exact fin_ret_tup hcomp
theorem less_eq (hp : 0 < p) (a b : List Int) (ha : a.length ≤ 1000) : F_less g [fD p r, tp a, tp b] = some (.ret (tp (subV p a b))) := by
  unfold F_less
  rw [runF3]
  have hcomp : ev (g.with (c_less g)) (.comp (.two 3 4) (.zip (.var 1) (.var 2)) .miss (.bin .mod (.bin .sub (.var 3) (.var 4)) (.idx (.var 0) (.int 0)))) [.val (fD p r), .val (tp a), .val (tp b), .un, .un] = some (.ok .fresh [] (.list ((subV p a b).map .int))) := by
    refine ev_comp (k := .via []) (x := .list (pairs (a.map .int) (b.map .int))) rfl rfl rfl rfl (?_ : _ = some _) (sz (by simp [subV]; omega))
    rw [compL_map (h := pairOf fun x y => (x - y) % p), zip_pairOf]
    · rfl
    · intro d hd
      rw [pairs_map] at hd
      obtain ⟨⟨x, y⟩, _, rfl⟩ := List.mem_map.mp hd
      have hm := b_mod .plain (x - y) p hp
      simp [compF, isMiss, bindT, Tg.wipe, compE, fD_0, hm, pairOf]
  exact fin_ret_tup hcomp
theorem L_plus_eq (hp : 0 < p) (a b : List Int) (ha : a.length ≤ 1000) (hab : a.length = b.length) : F_L_plus g [fD p r, tp a, tp b] = some (.ret (tp (addV p a b))) := by
  unfold F_L_plus
  rw [runF3]
  have hcomp : ev (g.with (c_L_plus g)) (.comp (.one 3) (.range1 (.bf .len (.var 1))) .miss (.bin .mod (.bin .add (.idx (.var 1) (.var 3)) (.idx (.var 2) (.var 3))) (.idx (.var 0) (.int 0)))) [.val (fD p r), .val (tp a), .val (tp b), .un] = some (.ok .fresh [] (.list ((addV p a b).map .int))) := by
    refine ev_comp (ev_range1 (k := .plain) (p := []) (n := a.length) (by simp [len_tp]) (by omega)) rfl rfl rfl (?_ : _ = some _) (sz (by simp [addV]; omega))
    rw [rangeD_map, compL_map (h := fun d => match d with | .int k => .int ((a.getD k.toNat 0 + b.getD k.toNat 0) % p) | d => d)]
    · rw [List.map_map, addV, ← zip_range (fun x y => (x + y) % p) a b hab, List.map_map]
      rfl
    · intro d hd
      obtain ⟨k, hk, rfl⟩ := List.mem_map.mp hd
      have hk : k < a.length := by simpa using hk
      have ga : getAt (tp a) (k : Int) = some (.int (a.getD k 0)) := by rw [show tp a = .tuple (a.map .int) from rfl, getT_nat]; simp [hk]
      have gb : getAt (tp b) (k : Int) = some (.int (b.getD k 0)) := by rw [show tp b = .tuple (b.map .int) from rfl, getT_nat]; simp [show k < b.length by omega]
      simp only [Int.toNat_natCast]
      generalize a.getD k 0 = x at ga ⊢
      generalize b.getD k 0 = y at gb ⊢
      have hm := b_mod .plain (x + y) p hp
      simp [compF, isMiss, bindT, Tg.wipe, compE, fD_0, hm, ga, gb]
  exact fin_ret_tup hcomp
end
end Vi

set_option maxRecDepth 100000
set_option maxHeartbeats 4000000
namespace Vi
open PySem PySem.Spec PyProof.Rows L2
theorem getT_tp (a : List Int) (k : Nat) (h : k < a.length) : getAt (tp a) (k : Int) = some (.int (a.getD k 0)) := by
  rw [show tp a = .tuple (a.map .int) from rfl, getT_nat]; simp [h]
theorem getT_last (a : List Int) (h : 0 < a.length) : getAt (tp a) (-1) = some (.int (a.getD (a.length - 1) 0)) := by
  show (place (a.map PyData.int).length (-1)).bind ((a.map PyData.int)[·]?) = _
  have e : place (a.map PyData.int).length (-1) = some (a.length - 1) := by
    unfold place
    rw [List.length_map, if_neg (by decide), if_pos (by omega)]
    congr 1
    omega
  rw [e]
  show (a.map PyData.int)[a.length - 1]? = _
  have hl : a.length - 1 < a.length := by omega
  simp [hl]
theorem L_step_eq (g : G) (p : Int) (hp : 0 < p) (r a : List Int) (hr : r.length ≤ 1000) (h0 : 0 < r.length) (ha : a.length = r.length) (ba : bdd a) : F_L_step g [fD p r, tp a] = some (.ret (tp (stepV p r a))) := by
  unfold F_L_step
  rw [runF2]
  have s1 : ex (g.with (c_L_step g)) (.set2 2 3 (.var 0)) [.val (fD p r), .val (tp a), .un, .un, .un, .un, .un, .un] = some (.nx [.val (fD p r), .val (tp a), .val (.int p), .val (tp r), .un, .un, .un, .un]) := rfl
  have hlast := getT_last a (by omega)
  obtain ⟨lead, hlead⟩ : ∃ l, a.getD (a.length - 1) 0 = l := ⟨_, rfl⟩
  have bl : -1000000 < lead ∧ lead < 1000000 := by
    rw [← hlead]
    exact ba _ (by simp [show a.length - 1 < a.length by omega])
  rw [hlead] at hlast
  have s2 : ex (g.with (c_L_step g)) (.set 4 (.idx (.var 1) (.neg (.int 1)))) [.val (fD p r), .val (tp a), .val (.int p), .val (tp r), .un, .un, .un, .un] = some (.nx [.val (fD p r), .val (tp a), .val (.int p), .val (tp r), .val (.int lead), .un, .un, .un]) := by
    have hv : ev (g.with (c_L_step g)) (.idx (.var 1) (.neg (.int 1))) [.val (fD p r), .val (tp a), .val (.int p), .val (tp r), .un, .un, .un, .un] = some (.ok .plain [] (.int lead)) := by
      show ((getAt (tp a) (-1)).map fun d => Rs.ok .plain (depF d []) d) = _
      rw [hlast]; rfl
    exact ex_set hv (by show 4 < 8; decide)
  have hmul : ∀ x : Int, binop .plain .mul (.int lead) (.int x) = some (.plain, .int (lead * x)) := fun x => b_mul .plain lead x (mulOk_l (by omega) (by omega))
  have hr0 : getAt (tp r) 0 = some (.int (r.getD 0 0)) := getT_tp r 0 h0
  have e0 : 0 - lead * r.getD 0 0 = stepE r a 0 := by
    unfold stepE
    rw [hlead]; rfl
  have s3 : ex (g.with (c_L_step g)) (.set 5 (.lst (.cons (.bin .sub (.int 0) (.bin .mul (.var 4) (.idx (.var 3) (.int 0)))) .nil))) [.val (fD p r), .val (tp a), .val (.int p), .val (tp r), .val (.int lead), .un, .un, .un] = some (.nx [.val (fD p r), .val (tp a), .val (.int p), .val (tp r), .val (.int lead), .own [.int (stepE r a 0)], .un, .un]) := by
    rw [← e0]
    generalize r.getD 0 0 = x at hr0 ⊢
    have hm := hmul x
    simp [hr0, hm, sizeLine_eq]
  obtain ⟨ρ', e, c, hc, rfl⟩ := forL_inv (tg := .one 6) (body := ex (g.with (c_L_step g)) b_L_step_0) (xs := rangeD 1 (r.length - 1))
    (fun i ρ => ∃ c, okS c ∧ ρ = [.val (fD p r), .val (tp a), .val (.int p), .val (tp r), .val (.int lead), .own (((List.range (i + 1)).map fun k => stepE r a k).map .int), c, .un]) 0 [.val (fD p r), .val (tp a), .val (.int p), .val (tp r), .val (.int lead), .own [.int (stepE r a 0)], .un, .un] ⟨.un, okS_un, rfl⟩ (fun i hi ρ ⟨c, hc, e⟩ => by
    subst e
    rw [Nat.zero_add]
    have hin : i < r.length - 1 := by simpa [rangeD] using hi
    have ei : (rangeD 1 (r.length - 1))[i] = .int ((i + 1 : Nat) : Int) := by simp [rangeD_one]
    rw [ei]
    refine ⟨_, _, rfl, ?_, .val (.int ((i + 1 : Nat) : Int)), okS_val, rfl⟩
    show ex _ b_L_step_0 [.val (fD p r), .val (tp a), .val (.int p), .val (tp r), .val (.int lead), .own (((List.range (i + 1)).map fun k => stepE r a k).map .int), .val (.int ((i + 1 : Nat) : Int)), .un] = _
    have h1 : getAt (tp a) (i : Int) = some (.int (a.getD i 0)) := getT_tp a i (by omega)
    have h2 : getAt (tp r) ((i + 1 : Nat) : Int) = some (.int (r.getD (i + 1) 0)) := getT_tp r (i + 1) (by omega)
    have e1 : a.getD i 0 - lead * r.getD (i + 1) 0 = stepE r a (i + 1) := by
      unfold stepE
      rw [hlead, if_neg (by omega), Nat.add_sub_cancel]
    have hv : ev (g.with (c_L_step g)) (.bin .sub (.idx (.var 1) (.bin .sub (.var 6) (.int 1))) (.bin .mul (.var 4) (.idx (.var 3) (.var 6)))) [.val (fD p r), .val (tp a), .val (.int p), .val (tp r), .val (.int lead), .own (((List.range (i + 1)).map fun k => stepE r a k).map .int), .val (.int ((i + 1 : Nat) : Int)), .un] = some (.ok .plain [] (.int (stepE r a (i + 1)))) := by
      rw [← e1]
      have e2 : ((i + 1 : Nat) : Int) - 1 = (i : Int) := by omega
      generalize r.getD (i + 1) 0 = x at h2 ⊢
      generalize a.getD i 0 = y at h1 ⊢
      generalize ((i + 1 : Nat) : Int) = j at h2 e2 ⊢
      have hm := hmul x
      simp [h1, h2, hm, e2]
    have hlt : (((List.range (i + 1)).map fun k => stepE r a k).map PyData.int).length < sizeLine := Nat.lt_of_le_of_lt (by simp; omega : _ ≤ 1000) (by decide)
    unfold b_L_step_0
    rw [exE_cons, exE_app]
    simp only [List.getElem?_cons_succ, List.getElem?_cons_zero, hv, toS_ok, tot_plain]
    rw [if_pos ⟨trivial, hlt⟩, range_map_succ (fun k => stepE r a k) (i + 1)]
    simp)
  have el : 0 + (rangeD 1 (r.length - 1)).length + 1 = r.length := by simp [rangeD]; omega
  rw [el] at e
  have hrange : ev (g.with (c_L_step g)) (.range2 (.int 1) (.bf .len (.var 3))) [.val (fD p r), .val (tp a), .val (.int p), .val (tp r), .val (.int lead), .own [.int (stepE r a 0)], .un, .un] = some (.ok .plain [] (.list (rangeD 1 (r.length - 1)))) := by
    have hl : ev (g.with (c_L_step g)) (.bf .len (.var 3)) [.val (fD p r), .val (tp a), .val (.int p), .val (tp r), .val (.int lead), .own [.int (stepE r a 0)], .un, .un] = some (.ok .plain [] (.int r.length)) := by simp [len_tp]
    rw [evE_range2, evE_int, map2_ok, hl, map2_ok]
    show (if small 1 && small (r.length : Int) then some (Rs.ok .plain [] (.list (rangeD 1 ((r.length : Int) - 1).toNat))) else none) = _
    have h1 : small (r.length : Int) = true := Nat.ble_eq_true_of_le (by omega)
    have h2 : ((r.length : Int) - 1).toNat = r.length - 1 := by omega
    rw [h1, h2]
    rfl
  have s4 : ex (g.with (c_L_step g)) (.for_ (.one 6) (.range2 (.int 1) (.bf .len (.var 3))) b_L_step_0) [.val (fD p r), .val (tp a), .val (.int p), .val (tp r), .val (.int lead), .own [.int (stepE r a 0)], .un, .un] = some (.nx [.val (fD p r), .val (tp a), .val (.int p), .val (tp r), .val (.int lead), .own (((List.range r.length).map fun k => stepE r a k).map .int), c, .un]) := by
    rw [ex_for hrange rfl, tot_plain, disown_nil, e]
  have hcomp : noExc [.val (fD p r), .val (tp a), .val (.int p), .val (tp r), .val (.int lead), .own (((List.range r.length).map fun k => stepE r a k).map .int), c, .un] = true → ev (g.with (c_L_step g)) (.comp (.one 7) (.var 5) .miss (.bin .mod (.var 7) (.var 2))) [.val (fD p r), .val (tp a), .val (.int p), .val (tp r), .val (.int lead), .own (((List.range r.length).map fun k => stepE r a k).map .int), c, .un] = some (.ok .fresh [] (.list ((stepV p r a).map .int))) := fun hne => by
    refine ev_comp (k := .own 5) (x := .list (((List.range r.length).map fun k => stepE r a k).map .int)) rfl rfl rfl hne (?_ : _ = some _) (sz (by simp [stepV]; omega))
    rw [compL_map (h := fun d => match d with | .int k => .int (k % p) | d => d)]
    · rw [List.map_map, List.map_map, stepV, List.map_map]
      rfl
    · intro d hd
      obtain ⟨k, hk, rfl⟩ := List.mem_map.mp hd
      have hm := b_mod .plain k p hp
      simp [compF, isMiss, bindT, Tg.wipe, compE, hm]
  show fin (ex (g.with (c_L_step g)) b_L_step [.val (fD p r), .val (tp a), .un, .un, .un, .un, .un, .un]) = _
  unfold b_L_step
  rw [ex_cons s1, ex_cons s2, ex_cons s3, ex_cons s4]
  exact fin_ret_tup (hcomp (by rcases hc with rfl | ⟨d, rfl⟩ <;> rfl))
end Vi

set_option maxRecDepth 100000
set_option maxHeartbeats 4000000
namespace Vi
open PySem PySem.Spec PyProof.Rows L2
theorem L_times_eq (g : G) (p : Int) (hp : 0 < p) (hp2 : p ≤ 1000) (r a b : List Int) (h0 : 0 < r.length) (hr : r.length ≤ 1000) (ha : inV p r.length a) (hb : inV p r.length b) : F_L_times g [fD p r, tp a, tp b] = some (.ret (tp (timesV p r a b))) := by
  unfold F_L_times
  rw [runF3]
  have hlr : ev (g.with (c_L_times g)) (.cmp .eq (.bf .len (.idx (.var 0) (.int 1))) (.int 1)) [.val (fD p r), .val (tp a), .val (tp b), .un, .un, .un, .un] = some (.ok .plain [] (.bool (decide ((r.length : Int) = 1)))) := by
    simp [fD_1, len_tp, c_eqI]
  by_cases h1 : r.length = 1
  · have hd : decide ((r.length : Int) = 1) = true := decide_eq_true (by omega)
    have ga : getAt (tp a) 0 = some (.int (a.getD 0 0)) := getT_tp a 0 (by rw [ha.1]; omega)
    have gb : getAt (tp b) 0 = some (.int (b.getD 0 0)) := getT_tp b 0 (by rw [hb.1]; omega)
    have hx := ha.2 _ (getD_mem (a := a) (k := 0) (by rw [ha.1]; omega))
    have hm := b_mul .plain (a.getD 0 0) (b.getD 0 0) (mulOk_l (by omega) (by omega))
    have hm2 := b_mod .plain (a.getD 0 0 * b.getD 0 0) p hp
    have et : timesV p r a b = [a.getD 0 0 * b.getD 0 0 % p] := if_pos h1
    rw [et]
    generalize a.getD 0 0 = x at ga hm hm2 ⊢
    generalize b.getD 0 0 = y at gb hm hm2 ⊢
    have hv : ev (g.with (c_L_times g)) (.tup (.cons (.bin .mod (.bin .mul (.idx (.var 1) (.int 0)) (.idx (.var 2) (.int 0))) (.idx (.var 0) (.int 0))) .nil)) [.val (fD p r), .val (tp a), .val (tp b), .un, .un, .un, .un] = some (.ok .plain [] (tp [x * y % p])) := by
      simp [ga, gb, hm, hm2, fD_0, sizeLine_eq]
      rfl
    show fin (ex _ b_L_times [.val (fD p r), .val (tp a), .val (tp b), .un, .un, .un, .un]) = _
    unfold b_L_times
    simp only [exE_cons, exE_ite, hlr, hd, toS_ok, tr_bool, exE_ret, hv]
    rfl
  · have hd : decide ((r.length : Int) = 1) = false := decide_eq_false (by omega)
    have et : timesV p r a b = (b.foldl (timesS p r) (zeros a.length, a)).1 := if_neg h1
    rw [et]
    have s1 : ex (g.with (c_L_times g)) (.ite (.cmp .eq (.bf .len (.idx (.var 0) (.int 1))) (.int 1)) (.cons (.ret (.tup (.cons (.bin .mod (.bin .mul (.idx (.var 1) (.int 0)) (.idx (.var 2) (.int 0))) (.idx (.var 0) (.int 0))) .nil))) .nil) .nil) [.val (fD p r), .val (tp a), .val (tp b), .un, .un, .un, .un] = some (.nx [.val (fD p r), .val (tp a), .val (tp b), .un, .un, .un, .un]) := by
      rw [exE_ite, hlr, hd]; rfl
    have s2 : ex (g.with (c_L_times g)) (.set 3 (.bin .mul (.tup (.cons (.int 0) .nil)) (.bf .len (.var 1)))) [.val (fD p r), .val (tp a), .val (tp b), .un, .un, .un, .un] = some (.nx [.val (fD p r), .val (tp a), .val (tp b), .val (tp (zeros a.length)), .un, .un, .un]) := by
      have h := b_rep .plain a.length (by rw [ha.1]; exact hr)
      have hv : ev (g.with (c_L_times g)) (.bin .mul (.tup (.cons (.int 0) .nil)) (.bf .len (.var 1))) [.val (fD p r), .val (tp a), .val (tp b), .un, .un, .un, .un] = some (.ok .plain [] (tp (zeros a.length))) := by
        simp [len_tp, sizeLine_eq, h]
      rw [ex_set hv (by show 3 < 7; decide), put_plain]; rfl
    have s3 : ex (g.with (c_L_times g)) (.set 4 (.var 1)) [.val (fD p r), .val (tp a), .val (tp b), .val (tp (zeros a.length)), .un, .un, .un] = some (.nx [.val (fD p r), .val (tp a), .val (tp b), .val (tp (zeros a.length)), .val (tp a), .un, .un]) := rfl
    obtain ⟨ρ', e, c, rfl⟩ := forL_inv (tg := .one 5) (body := ex (g.with (c_L_times g)) b_L_times_0) (xs := b.map .int)
      (fun i ρ => ∃ c, ρ = [.val (fD p r), .val (tp a), .val (tp b), .val (tp ((b.take i).foldl (timesS p r) (zeros a.length, a)).1), .val (tp ((b.take i).foldl (timesS p r) (zeros a.length, a)).2), c, .un]) 0 [.val (fD p r), .val (tp a), .val (tp b), .val (tp (zeros a.length)), .val (tp a), .un, .un] ⟨.un, rfl⟩ (fun i hi ρ ⟨c, e⟩ => by
      subst e
      rw [Nat.zero_add]
      have hi : i < b.length := by simpa using hi
      rw [List.getElem_map, List.take_succ_eq_append_getElem hi, List.foldl_append]
      obtain ⟨k1, k2⟩ := fold_ok hp r (b.take i) (zeros a.length, a) (by rw [zeros_len, ha.1]) ha
      generalize (b.take i).foldl (timesS p r) (zeros a.length, a) = s at k1 k2 ⊢
      have hf := hb.2 b[i] (List.getElem_mem hi)
      generalize b[i] = f at hf ⊢
      refine ⟨_, _, rfl, ?_, .val (.int f), rfl⟩
      show ex _ b_L_times_0 [.val (fD p r), .val (tp a), .val (tp b), .val (tp s.1), .val (tp s.2), .val (.int f), .un] = some (.nx [.val (fD p r), .val (tp a), .val (tp b), .val (tp (addV p s.1 (mulF p f s.2))), .val (tp (stepV p r s.2)), .val (.int f), .un])
      have hcomp : ev (g.with (c_L_times g)) (.comp (.one 6) (.var 4) .miss (.bin .mod (.bin .mul (.var 5) (.var 6)) (.idx (.var 0) (.int 0)))) [.val (fD p r), .val (tp a), .val (tp b), .val (tp s.1), .val (tp s.2), .val (.int f), .un] = some (.ok .fresh [] (.list ((mulF p f s.2).map .int))) := by
        refine ev_comp (k := .plain) (x := tp s.2) (xs := s.2.map .int) rfl rfl rfl rfl (?_ : _ = some _) (sz (by simp [mulF, k2.1]; omega))
        rw [compL_map (h := fun d => match d with | .int k => .int (f * k % p) | d => d)]
        · rw [List.map_map, mulF, List.map_map]
          rfl
        · intro d hd
          obtain ⟨k, hk, rfl⟩ := List.mem_map.mp hd
          have hm := b_mul .plain f k (mulOk_l (by omega) (by omega))
          have hm2 := b_mod .plain (f * k) p hp
          simp [compF, isMiss, bindT, Tg.wipe, compE, hm, hm2, fD_0]
      have hplus := L_plus_eq g p r hp s.1 (mulF p f s.2) (by omega) (by simp [mulF, k1, k2.1])
      have hstep := L_step_eq g p hp r s.2 hr h0 k2.1 (k2.bdd hp2)
      have t1 : ex (g.with (c_L_times g)) (.set 3 (.call 0 (.cons (.var 0) (.cons (.var 3) (.cons (.bf .tuple (.comp (.one 6) (.var 4) .miss (.bin .mod (.bin .mul (.var 5) (.var 6)) (.idx (.var 0) (.int 0))))) .nil))))) [.val (fD p r), .val (tp a), .val (tp b), .val (tp s.1), .val (tp s.2), .val (.int f), .un] = some (.nx [.val (fD p r), .val (tp a), .val (tp b), .val (tp (addV p s.1 (mulF p f s.2))), .val (tp s.2), .val (.int f), .un]) := by
        have htup : ev (g.with (c_L_times g)) (.bf .tuple (.comp (.one 6) (.var 4) .miss (.bin .mod (.bin .mul (.var 5) (.var 6)) (.idx (.var 0) (.int 0))))) [.val (fD p r), .val (tp a), .val (tp b), .val (tp s.1), .val (tp s.2), .val (.int f), .un] = some (.ok .plain [] (tp (mulF p f s.2))) := by
          rw [evE_bf, hcomp]; rfl
        have hv : ev (g.with (c_L_times g)) (.call 0 (.cons (.var 0) (.cons (.var 3) (.cons (.bf .tuple (.comp (.one 6) (.var 4) .miss (.bin .mod (.bin .mul (.var 5) (.var 6)) (.idx (.var 0) (.int 0))))) .nil)))) [.val (fD p r), .val (tp a), .val (tp b), .val (tp s.1), .val (tp s.2), .val (.int f), .un] = some (.ok .plain [] (tp (addV p s.1 (mulF p f s.2)))) := by
          rw [evE_call, evE_cons, evE_var]
          simp only [List.getElem?_cons_zero, map2_ok, evE_cons, evE_var, List.getElem?_cons_succ, htup, evE_nil]
          simp [G.with, c_L_times, hplus]
        rw [ex_set hv (by show 3 < 7; decide), put_plain]; rfl
      have t2 : ex (g.with (c_L_times g)) (.set 4 (.call 1 (.cons (.var 0) (.cons (.var 4) .nil)))) [.val (fD p r), .val (tp a), .val (tp b), .val (tp (addV p s.1 (mulF p f s.2))), .val (tp s.2), .val (.int f), .un] = some (.nx [.val (fD p r), .val (tp a), .val (tp b), .val (tp (addV p s.1 (mulF p f s.2))), .val (tp (stepV p r s.2)), .val (.int f), .un]) := by
        have hv : ev (g.with (c_L_times g)) (.call 1 (.cons (.var 0) (.cons (.var 4) .nil))) [.val (fD p r), .val (tp a), .val (tp b), .val (tp (addV p s.1 (mulF p f s.2))), .val (tp s.2), .val (.int f), .un] = some (.ok .plain [] (tp (stepV p r s.2))) := by
          simp [G.with, c_L_times, hstep]
        rw [ex_set hv (by show 4 < 7; decide), put_plain]; rfl
      unfold b_L_times_0
      rw [ex_cons t1, ex_cons t2]
      rfl)
    have el : 0 + (b.map PyData.int).length = b.length := by simp
    rw [el, List.take_length] at e
    have s4 : ex (g.with (c_L_times g)) (.for_ (.one 5) (.var 2) b_L_times_0) [.val (fD p r), .val (tp a), .val (tp b), .val (tp (zeros a.length)), .val (tp a), .un, .un] = some (.nx [.val (fD p r), .val (tp a), .val (tp b), .val (tp (b.foldl (timesS p r) (zeros a.length, a)).1), .val (tp (b.foldl (timesS p r) (zeros a.length, a)).2), c, .un]) := by
      rw [ex_for (k := .plain) (p := []) (x := tp b) (xs := b.map .int) rfl rfl, tot_plain, disown_nil, e]
    show fin (ex (g.with (c_L_times g)) b_L_times [.val (fD p r), .val (tp a), .val (tp b), .un, .un, .un, .un]) = _
    unfold b_L_times
    rw [ex_cons s1, ex_cons s2, ex_cons s3, ex_cons s4]
    rfl
end Vi

set_option maxRecDepth 100000
set_option maxHeartbeats 4000000
namespace Vi
open PySem PySem.Spec PyProof.Rows L2
theorem getL_tp (a : List Int) (k : Nat) (h : k < a.length) : getAt (.list (a.map .int)) (k : Int) = some (.int (a.getD k 0)) := by
  rw [getL_nat]; simp [h]
theorem setIx_nat (c : List Int) (k : Nat) (y : Int) (h : k < c.length) : setIx (c.map .int) (k : Int) (.int y) = some ((c.set k y).map .int) := by
  show (place (c.map PyData.int).length (k : Int)).map (fun j => (c.map PyData.int).set j (.int y)) = _
  rw [place_nat, List.length_map, if_pos h]
  simp [List.map_set]
theorem prod_turn (g : G) (p : Int) (hp : 0 < p) (x y : Int) (bx : -1000000 < x ∧ x < 1000000) (s0 s1 s2 s4 s5 s7 s12 s13 : Slot) (c : List Int) (at_ k : Nat) (hk : at_ + k < c.length) :
    ex g b_product_of_0 [s0, s1, s2, .val (.int p), s4, s5, .own (c.map .int), s7, .val (.int at_), .val (.int x), .val (.int k), .val (.int y), s12, s13] =
      some (.nx [s0, s1, s2, .val (.int p), s4, s5, .own ((c.set (at_ + k) ((c.getD (at_ + k) 0 + x * y) % p)).map .int), s7, .val (.int at_), .val (.int x), .val (.int k), .val (.int y), s12, s13]) := by
  have e1 : (at_ : Int) + (k : Int) = ((at_ + k : Nat) : Int) := by omega
  have hg := getL_tp c (at_ + k) hk
  have hs := setIx_nat c (at_ + k) ((c.getD (at_ + k) 0 + x * y) % p) hk
  have hm := b_mul .plain x y (mulOk_l (by omega) (by omega))
  have hm2 := b_mod .plain (c.getD (at_ + k) 0 + x * y) p hp
  generalize c.getD (at_ + k) 0 = z at hg hs hm2 ⊢
  rw [← e1] at hg hs
  have hv : ev g (.bin .mod (.bin .add (.idx (.var 6) (.bin .add (.var 8) (.var 10))) (.bin .mul (.var 9) (.var 11))) (.var 3)) [s0, s1, s2, .val (.int p), s4, s5, .own (c.map .int), s7, .val (.int at_), .val (.int x), .val (.int k), .val (.int y), s12, s13] = some (.ok .plain [] (.int ((z + x * y) % p))) := by
    simp [hg, hm, hm2]
  have hi : ev g (.bin .add (.var 8) (.var 10)) [s0, s1, s2, .val (.int p), s4, s5, .own (c.map .int), s7, .val (.int at_), .val (.int x), .val (.int k), .val (.int y), s12, s13] = some (.ok .plain [] (.int (at_ + k))) := by simp
  unfold b_product_of_0
  rw [exE_cons, exE_seti]
  simp only [List.getElem?_cons_succ, List.getElem?_cons_zero, hv, hi, toS_ok, tot_plain, if_true, hs, Option.map]
  rfl

theorem prod_in (g : G) (p : Int) (hp : 0 < p) (x : Int) (bx : -1000000 < x ∧ x < 1000000) (s0 s1 s2 s4 s5 s7 s12 s13 : Slot) (at_ : Nat) : ∀ (b : List Int) (k : Nat) (c : List Int) (u v : Slot), okS u → okS v → at_ + k + b.length ≤ c.length →
    ∃ u' v', okS u' ∧ okS v' ∧ forL (.two 10 11) (ex g b_product_of_0) (enumD (b.map .int) k) [s0, s1, s2, .val (.int p), s4, s5, .own (c.map .int), s7, .val (.int at_), .val (.int x), u, v, s12, s13] =
      some (.nx [s0, s1, s2, .val (.int p), s4, s5, .own ((innerC p x b (at_ + k) c).map .int), s7, .val (.int at_), .val (.int x), u', v', s12, s13])
  | [], k, c, u, v, hu, hv, _ => ⟨u, v, hu, hv, rfl⟩
  | y :: b, k, c, u, v, hu, hv, h => by
    have h : at_ + k + (b.length + 1) ≤ c.length := h
    have t := prod_turn g p hp x y bx s0 s1 s2 s4 s5 s7 s12 s13 c at_ k (by omega)
    obtain ⟨u', v', h1, h2, e⟩ := prod_in g p hp x bx s0 s1 s2 s4 s5 s7 s12 s13 at_ b (k + 1) (c.set (at_ + k) ((c.getD (at_ + k) 0 + x * y) % p)) (.val (.int k)) (.val (.int y)) okS_val okS_val (by simp; omega)
    refine ⟨u', v', h1, h2, ?_⟩
    show (match ex g b_product_of_0 [s0, s1, s2, .val (.int p), s4, s5, .own (c.map .int), s7, .val (.int at_), .val (.int x), .val (.int k), .val (.int y), s12, s13] with
        | some (.nx ρ2) => forL (.two 10 11) (ex g b_product_of_0) (enumD (b.map .int) (k + 1)) ρ2
        | x => x) = _
    rw [t]
    show forL (.two 10 11) (ex g b_product_of_0) (enumD (b.map .int) (k + 1)) _ = _
    rw [e]
    rfl
theorem prod_out (g : G) (p : Int) (hp : 0 < p) (b : List Int) (s0 s1 s4 s5 s7 s12 s13 : Slot) (n1 : okS s0) (n2 : okS s1) (n4 : okS s4) (n5 : okS s5) : ∀ (a : List Int) (k : Nat) (c : List Int) (s8 s9 u v : Slot), bdd a → okS u → okS v → k + a.length + b.length ≤ c.length + 1 →
    ∃ s8' s9' u' v', okS u' ∧ okS v' ∧ (s8 = .un ∨ okS s8 → okS s8') ∧ (okS s9 → okS s9') ∧ forL (.two 8 9) (ex g b_product_of_1) (enumD (a.map .int) k) [s0, s1, .val (tp b), .val (.int p), s4, s5, .own (c.map .int), s7, s8, s9, u, v, s12, s13] =
      some (.nx [s0, s1, .val (tp b), .val (.int p), s4, s5, .own ((outerC p b a k c).map .int), s7, s8', s9', u', v', s12, s13])
  | [], k, c, s8, s9, u, v, _, hu, hv, _ => ⟨s8, s9, u, v, hu, hv, fun h => h.elim (fun e => .inl e) id, id, rfl⟩
  | x :: a, k, c, s8, s9, u, v, ba, hu, hv, h => by
    have h : k + (a.length + 1) + b.length ≤ c.length + 1 := h
    obtain ⟨u1, v1, h1, h2, e1⟩ := prod_in g p hp x (ba x List.mem_cons_self) s0 s1 (.val (tp b)) s4 s5 s7 s12 s13 k b 0 c u v hu hv (by omega)
    have hb : ex g b_product_of_1 [s0, s1, .val (tp b), .val (.int p), s4, s5, .own (c.map .int), s7, .val (.int k), .val (.int x), u, v, s12, s13] = some (.nx [s0, s1, .val (tp b), .val (.int p), s4, s5, .own ((innerC p x b k c).map .int), s7, .val (.int k), .val (.int x), u1, v1, s12, s13]) := by
      unfold b_product_of_1
      rw [exE_cons, ex_for (k := .via []) (p := []) (x := .list (enumD (b.map .int) 0)) rfl rfl]
      show (match forL (.two 10 11) (ex g b_product_of_0) (enumD (b.map .int) 0) [s0, s1, .val (tp b), .val (.int p), s4, s5, .own (c.map .int), s7, .val (.int k), .val (.int x), u, v, s12, s13] with
        | some (.nx ρ1) => ex g .nil ρ1
        | x => x) = _
      rw [e1]
      rfl
    obtain ⟨s8', s9', u', v', k1, k2, k3, k4, e⟩ := prod_out g p hp b s0 s1 s4 s5 s7 s12 s13 n1 n2 n4 n5 a (k + 1) (innerC p x b k c) (.val (.int k)) (.val (.int x)) u1 v1 (fun z hz => ba z (List.mem_cons_of_mem _ hz)) h1 h2 (by rw [innerC_len]; omega)
    refine ⟨s8', s9', u', v', k1, k2, fun _ => k3 (.inr okS_val), fun _ => k4 okS_val, ?_⟩
    show (match ex g b_product_of_1 [s0, s1, .val (tp b), .val (.int p), s4, s5, .own (c.map .int), s7, .val (.int k), .val (.int x), u, v, s12, s13] with
        | some (.nx ρ2) => forL (.two 8 9) (ex g b_product_of_1) (enumD (a.map .int) (k + 1)) ρ2
        | x => x) = _
    rw [hb]
    exact e
end Vi

set_option maxRecDepth 100000
set_option maxHeartbeats 4000000
namespace Vi
open PySem PySem.Spec PyProof.Rows L2
theorem red_turn (g : G) (p : Int) (hp : 0 < p) (x y : Int) (bx : -1000000 < y ∧ y < 1000000) (s0 s1 s2 s4 s9 s10 s11 : Slot) (c : List Int) (n m k : Nat) (hk : m + k < c.length) :
    ex g b_product_of_2 [s0, s1, s2, .val (.int p), s4, .val (.int n), .own (c.map .int), .val (.int k), .val (.int ((n + m : Nat) : Int)), s9, s10, s11, .val (.int x), .val (.int y)] =
      some (.nx [s0, s1, s2, .val (.int p), s4, .val (.int n), .own ((c.set (m + k) ((c.getD (m + k) 0 - x * y) % p)).map .int), .val (.int k), .val (.int ((n + m : Nat) : Int)), s9, s10, s11, .val (.int x), .val (.int y)]) := by
  have e1 : ((n + m : Nat) : Int) - (n : Int) + (k : Int) = ((m + k : Nat) : Int) := by omega
  have hg := getL_tp c (m + k) hk
  have hs := setIx_nat c (m + k) ((c.getD (m + k) 0 - x * y) % p) hk
  have hm := b_mul .plain x y (mulOk_r (by omega) (by omega))
  have hm2 := b_mod .plain (c.getD (m + k) 0 - x * y) p hp
  generalize c.getD (m + k) 0 = z at hg hs hm2 ⊢
  rw [← e1] at hg hs
  generalize ((n + m : Nat) : Int) = w at hg hs ⊢
  have hv : ev g (.bin .mod (.bin .sub (.idx (.var 6) (.bin .add (.bin .sub (.var 8) (.var 5)) (.var 7))) (.bin .mul (.var 12) (.var 13))) (.var 3)) [s0, s1, s2, .val (.int p), s4, .val (.int n), .own (c.map .int), .val (.int k), .val (.int w), s9, s10, s11, .val (.int x), .val (.int y)] = some (.ok .plain [] (.int ((z - x * y) % p))) := by
    simp [hg, hm, hm2]
  have hi : ev g (.bin .add (.bin .sub (.var 8) (.var 5)) (.var 7)) [s0, s1, s2, .val (.int p), s4, .val (.int n), .own (c.map .int), .val (.int k), .val (.int w), s9, s10, s11, .val (.int x), .val (.int y)] = some (.ok .plain [] (.int (w - n + k))) := by simp
  unfold b_product_of_2
  rw [exE_cons, exE_seti]
  simp only [List.getElem?_cons_succ, List.getElem?_cons_zero, hv, hi, toS_ok, tot_plain, if_true, hs, Option.map]
  rfl
theorem red_in (g : G) (p : Int) (hp : 0 < p) (x : Int) (s0 s1 s2 s4 s9 s10 s11 : Slot) (n m : Nat) : ∀ (r : List Int) (k : Nat) (c : List Int) (u v : Slot), bdd r → okS u → okS v → m + k + r.length ≤ c.length →
    ∃ u' v', okS u' ∧ okS v' ∧ forL (.two 7 13) (ex g b_product_of_2) (enumD (r.map .int) k) [s0, s1, s2, .val (.int p), s4, .val (.int n), .own (c.map .int), u, .val (.int ((n + m : Nat) : Int)), s9, s10, s11, .val (.int x), v] =
      some (.nx [s0, s1, s2, .val (.int p), s4, .val (.int n), .own ((innerR p x r (m + k) c).map .int), u', .val (.int ((n + m : Nat) : Int)), s9, s10, s11, .val (.int x), v'])
  | [], k, c, u, v, _, hu, hv, _ => ⟨u, v, hu, hv, rfl⟩
  | y :: b, k, c, u, v, br, hu, hv, h => by
    have h : m + k + (b.length + 1) ≤ c.length := h
    have t := red_turn g p hp x y (br y List.mem_cons_self) s0 s1 s2 s4 s9 s10 s11 c n m k (by omega)
    obtain ⟨u', v', h1, h2, e⟩ := red_in g p hp x s0 s1 s2 s4 s9 s10 s11 n m b (k + 1) (c.set (m + k) ((c.getD (m + k) 0 - x * y) % p)) (.val (.int k)) (.val (.int y)) (fun z hz => br z (List.mem_cons_of_mem _ hz)) okS_val okS_val (by simp; omega)
    refine ⟨u', v', h1, h2, ?_⟩
    show (match ex g b_product_of_2 [s0, s1, s2, .val (.int p), s4, .val (.int n), .own (c.map .int), .val (.int k), .val (.int ((n + m : Nat) : Int)), s9, s10, s11, .val (.int x), .val (.int y)] with
        | some (.nx ρ2) => forL (.two 7 13) (ex g b_product_of_2) (enumD (b.map .int) (k + 1)) ρ2
        | x => x) = _
    rw [t]
    exact e
def downD (n : Nat) : Nat → List D
  | 0 => []
  | m + 1 => .int ((n + m : Nat) : Int) :: downD n m
theorem rangeDown_eq (n : Nat) : ∀ m : Nat, rangeDown (((n + m : Nat) : Int) - 1) m = downD n m
  | 0 => rfl
  | m + 1 => by
    unfold rangeDown
    rw [List.range_succ_eq_map, List.map_cons, List.map_map]
    show _ :: _ = PyData.int ((n + m : Nat) : Int) :: downD n m
    congr 1
    · congr 1
      omega
    · rw [← rangeDown_eq n m]
      unfold rangeDown
      congr 1
      funext k
      show PyData.int _ = PyData.int _
      congr 1
      show ((n + (m + 1) : Nat) : Int) - 1 - ((k + 1 : Nat) : Int) = _
      omega
theorem red_out (g : G) (p : Int) (hp : 0 < p) (r : List Int) (br : bdd r) (s0 s1 s2 s9 s10 s11 : Slot) (n0 : okS s0) (n1 : okS s1) (n2 : okS s2) (n9 : okS s9) (n10 : okS s10) (n11 : okS s11) : ∀ (m : Nat) (c : List Int) (u w x v : Slot), okS u → okS w → okS x → okS v → r.length + m ≤ c.length →
    ∃ u' w' x' v', okS u' ∧ okS w' ∧ okS x' ∧ okS v' ∧ forL (.one 8) (ex g b_product_of_3) (downD r.length m) [s0, s1, s2, .val (.int p), .val (tp r), .val (.int r.length), .own (c.map .int), u, w, s9, s10, s11, x, v] =
      some (.nx [s0, s1, s2, .val (.int p), .val (tp r), .val (.int r.length), .own ((redC p r m c).map .int), u', w', s9, s10, s11, x', v'])
  | 0, c, u, w, x, v, hu, hw, hx, hv, _ => ⟨u, w, x, v, hu, hw, hx, hv, rfl⟩
  | m + 1, c, u, w, x, v, hu, hw, hx, hv, h => by
    have hg := getL_tp c (r.length + m) (by omega)
    obtain ⟨u1, v1, h1, h2, e1⟩ := red_in g p hp (c.getD (r.length + m) 0) s0 s1 s2 (.val (tp r)) s9 s10 s11 r.length m r 0 c u v br hu hv (by omega)
    have hb : ex g b_product_of_3 [s0, s1, s2, .val (.int p), .val (tp r), .val (.int r.length), .own (c.map .int), u, .val (.int ((r.length + m : Nat) : Int)), s9, s10, s11, x, v] = some (.nx [s0, s1, s2, .val (.int p), .val (tp r), .val (.int r.length), .own ((innerR p (c.getD (r.length + m) 0) r m c).map .int), u1, .val (.int ((r.length + m : Nat) : Int)), s9, s10, s11, .val (.int (c.getD (r.length + m) 0)), v1]) := by
      have hv : ev g (.idx (.var 6) (.var 8)) [s0, s1, s2, .val (.int p), .val (tp r), .val (.int r.length), .own (c.map .int), u, .val (.int ((r.length + m : Nat) : Int)), s9, s10, s11, x, v] = some (.ok .plain [] (.int (c.getD (r.length + m) 0))) := by
        show ((getAt (.list (c.map .int)) ((r.length + m : Nat) : Int)).map fun d => Rs.ok .plain (depF d []) d) = _
        rw [hg]; rfl
      unfold b_product_of_3
      rw [ex_cons (ex_set hv (by show 12 < 14; decide)), put_int, exE_cons, ex_for (k := .via []) (p := []) (x := .list (enumD (r.map .int) 0)) (xs := enumD (r.map .int) 0) rfl rfl]
      show (match forL (.two 7 13) (ex g b_product_of_2) (enumD (r.map .int) 0) [s0, s1, s2, .val (.int p), .val (tp r), .val (.int r.length), .own (c.map .int), u, .val (.int ((r.length + m : Nat) : Int)), s9, s10, s11, .val (.int (c.getD (r.length + m) 0)), v] with
        | some (.nx ρ1) => ex g .nil ρ1
        | x => x) = _
      rw [e1]
      rfl
    obtain ⟨u', w', x', v', k1, k2, k3, k4, e⟩ := red_out g p hp r br s0 s1 s2 s9 s10 s11 n0 n1 n2 n9 n10 n11 m (innerR p (c.getD (r.length + m) 0) r m c) u1 (.val (.int ((r.length + m : Nat) : Int))) (.val (.int (c.getD (r.length + m) 0))) v1 h1 okS_val okS_val h2 (by rw [innerR_len]; omega)
    refine ⟨u', w', x', v', k1, k2, k3, k4, ?_⟩
    show (match ex g b_product_of_3 [s0, s1, s2, .val (.int p), .val (tp r), .val (.int r.length), .own (c.map .int), u, .val (.int ((r.length + m : Nat) : Int)), s9, s10, s11, x, v] with
        | some (.nx ρ2) => forL (.one 8) (ex g b_product_of_3) (downD r.length m) ρ2
        | x => x) = _
    rw [hb]
    exact e
end Vi

set_option maxRecDepth 100000
set_option maxHeartbeats 4000000
namespace Vi
open PySem PySem.Spec PyProof.Rows L2
theorem map_const_zeros (n : Nat) : ((List.range n).map fun (k : Nat) => PyData.int k).map (fun _ => PyData.int 0) = (zeros n).map .int := by
  rw [List.map_map]
  unfold zeros
  rw [List.map_replicate]
  refine List.ext_getElem (by simp) fun i h1 h2 => by simp
theorem product_of_eq (g : G) (p : Int) (hp : 0 < p) (hp2 : p ≤ 1000) (r a b : List Int) (h0 : 0 < r.length) (hr : r.length ≤ 100) (br : bdd r) (ha : a.length = r.length) (hb : b.length = r.length) (ba : bdd a) :
    F_product_of g [fD p r, tp a, tp b] = some (.ret (tp (prodV p r a b))) := by
  unfold F_product_of
  rw [runF3]
  have s1 : ex (g.with (c_product_of g)) (.set2 3 4 (.var 0)) [.val (fD p r), .val (tp a), .val (tp b), .un, .un, .un, .un, .un, .un, .un, .un, .un, .un, .un] = some (.nx [.val (fD p r), .val (tp a), .val (tp b), .val (.int p), .val (tp r), .un, .un, .un, .un, .un, .un, .un, .un, .un]) := rfl
  have s2 : ex (g.with (c_product_of g)) (.set 5 (.bf .len (.var 4))) [.val (fD p r), .val (tp a), .val (tp b), .val (.int p), .val (tp r), .un, .un, .un, .un, .un, .un, .un, .un, .un] = some (.nx [.val (fD p r), .val (tp a), .val (tp b), .val (.int p), .val (tp r), .val (.int r.length), .un, .un, .un, .un, .un, .un, .un, .un]) := by
    have hv : ev (g.with (c_product_of g)) (.bf .len (.var 4)) [.val (fD p r), .val (tp a), .val (tp b), .val (.int p), .val (tp r), .un, .un, .un, .un, .un, .un, .un, .un, .un] = some (.ok .plain [] (.int r.length)) := by simp [len_tp]
    exact ex_set hv (by show 5 < 14; decide)
  have hm2 := b_mul .plain 2 (r.length : Int) (mulOk_l (by decide) (by decide))
  have s3 : ex (g.with (c_product_of g)) (.set 6 (.comp (.one 7) (.range1 (.bin .sub (.bin .mul (.int 2) (.var 5)) (.int 1))) .miss (.int 0))) [.val (fD p r), .val (tp a), .val (tp b), .val (.int p), .val (tp r), .val (.int r.length), .un, .un, .un, .un, .un, .un, .un, .un] = some (.nx [.val (fD p r), .val (tp a), .val (tp b), .val (.int p), .val (tp r), .val (.int r.length), .own ((zeros (2 * r.length - 1)).map .int), .un, .un, .un, .un, .un, .un, .un]) := by
    have hn : ev (g.with (c_product_of g)) (.bin .sub (.bin .mul (.int 2) (.var 5)) (.int 1)) [.val (fD p r), .val (tp a), .val (tp b), .val (.int p), .val (tp r), .val (.int r.length), .un, .un, .un, .un, .un, .un, .un, .un] = some (.ok .plain [] (.int ((2 * r.length - 1 : Nat) : Int))) := by
      have e : 2 * (r.length : Int) - 1 = ((2 * r.length - 1 : Nat) : Int) := by omega
      simp [hm2, e]
    have hv := ev_comp (g := g.with (c_product_of g)) (tg := .one 7) (c := .miss) (el := .int 0) (ys := (zeros (2 * r.length - 1)).map .int) (ρ := [.val (fD p r), .val (tp a), .val (tp b), .val (.int p), .val (tp r), .val (.int r.length), .un, .un, .un, .un, .un, .un, .un, .un]) (ev_range1 hn (by omega)) rfl rfl rfl (by
      rw [rangeD_map, compL_map (h := fun _ => PyData.int 0), map_const_zeros]
      intro d hd
      simp [compF, isMiss, bindT, Tg.wipe, compE]) (sz (by simp [zeros]; omega))
    exact ex_set hv (by show 6 < 14; decide)
  obtain ⟨s8, s9, u, v, k1, k2, k3, k4, e4⟩ := prod_out (g.with (c_product_of g)) p hp b (.val (fD p r)) (.val (tp a)) (.val (tp r)) (.val (.int r.length)) .un .un .un okS_val okS_val okS_val okS_val a 0 (zeros (2 * r.length - 1)) .un .un .un .un ba okS_un okS_un (by rw [zeros_len]; omega)
  have o8 := k3 (.inl rfl)
  have o9 := k4 okS_un
  have s4 : ex (g.with (c_product_of g)) (.for_ (.two 8 9) (.enum (.var 1)) b_product_of_1) [.val (fD p r), .val (tp a), .val (tp b), .val (.int p), .val (tp r), .val (.int r.length), .own ((zeros (2 * r.length - 1)).map .int), .un, .un, .un, .un, .un, .un, .un] = some (.nx [.val (fD p r), .val (tp a), .val (tp b), .val (.int p), .val (tp r), .val (.int r.length), .own ((outerC p b a 0 (zeros (2 * r.length - 1))).map .int), .un, s8, s9, u, v, .un, .un]) := by
    refine (ex_for (k := .via []) (p := []) (x := .list (enumD (a.map .int) 0)) rfl rfl).trans ?_
    exact e4
  obtain ⟨u', w', x', v', j1, j2, j3, j4, e5⟩ := red_out (g.with (c_product_of g)) p hp r br (.val (fD p r)) (.val (tp a)) (.val (tp b)) s9 u v okS_val okS_val okS_val o9 k1 k2 (r.length - 1) (outerC p b a 0 (zeros (2 * r.length - 1))) .un s8 .un .un okS_un o8 okS_un okS_un (by rw [outerC_len, zeros_len]; omega)
  have s5 : ex (g.with (c_product_of g)) (.for_ (.one 8) (.range3 (.bin .sub (.bin .mul (.int 2) (.var 5)) (.int 2)) (.bin .sub (.var 5) (.int 1)) (.neg (.int 1))) b_product_of_3) [.val (fD p r), .val (tp a), .val (tp b), .val (.int p), .val (tp r), .val (.int r.length), .own ((outerC p b a 0 (zeros (2 * r.length - 1))).map .int), .un, s8, s9, u, v, .un, .un] = some (.nx [.val (fD p r), .val (tp a), .val (tp b), .val (.int p), .val (tp r), .val (.int r.length), .own ((redC p r (r.length - 1) (outerC p b a 0 (zeros (2 * r.length - 1)))).map .int), u', w', s9, u, v, x', v']) := by
    have hrange : ev (g.with (c_product_of g)) (.range3 (.bin .sub (.bin .mul (.int 2) (.var 5)) (.int 2)) (.bin .sub (.var 5) (.int 1)) (.neg (.int 1))) [.val (fD p r), .val (tp a), .val (tp b), .val (.int p), .val (tp r), .val (.int r.length), .own ((outerC p b a 0 (zeros (2 * r.length - 1))).map .int), .un, s8, s9, u, v, .un, .un] = some (.ok .plain [] (.list (downD r.length (r.length - 1)))) := by
      have h1 : ev (g.with (c_product_of g)) (.bin .sub (.bin .mul (.int 2) (.var 5)) (.int 2)) [.val (fD p r), .val (tp a), .val (tp b), .val (.int p), .val (tp r), .val (.int r.length), .own ((outerC p b a 0 (zeros (2 * r.length - 1))).map .int), .un, s8, s9, u, v, .un, .un] = some (.ok .plain [] (.int (2 * r.length - 2))) := by simp [hm2]
      have h2 : ev (g.with (c_product_of g)) (.bin .sub (.var 5) (.int 1)) [.val (fD p r), .val (tp a), .val (tp b), .val (.int p), .val (tp r), .val (.int r.length), .own ((outerC p b a 0 (zeros (2 * r.length - 1))).map .int), .un, s8, s9, u, v, .un, .un] = some (.ok .plain [] (.int (r.length - 1))) := by simp
      rw [evE_range3, h1, map2_ok, h2, map2_ok]
      show (if (-1 : Int) = -1 ∧ (small (2 * (r.length : Int) - 2) && small ((r.length : Int) - 1)) = true then some (Rs.ok .plain [] (.list (rangeDown (2 * (r.length : Int) - 2) ((2 * (r.length : Int) - 2) - ((r.length : Int) - 1)).toNat))) else none) = _
      have q1 : small (2 * (r.length : Int) - 2) = true := Nat.ble_eq_true_of_le (by omega)
      have q2 : small ((r.length : Int) - 1) = true := Nat.ble_eq_true_of_le (by omega)
      rw [if_pos ⟨rfl, by rw [q1, q2]; rfl⟩]
      have q3 : ((2 * (r.length : Int) - 2) - ((r.length : Int) - 1)).toNat = r.length - 1 := by omega
      have q4 : 2 * (r.length : Int) - 2 = ((r.length + (r.length - 1) : Nat) : Int) - 1 := by omega
      rw [q3, q4, rangeDown_eq]
    refine (ex_for hrange rfl).trans ?_
    exact e5
  show fin (ex (g.with (c_product_of g)) b_product_of [.val (fD p r), .val (tp a), .val (tp b), .un, .un, .un, .un, .un, .un, .un, .un, .un, .un, .un]) = _
  unfold b_product_of
  rw [ex_cons s1, ex_cons s2, ex_cons s3, ex_cons s4, ex_cons s5]
  refine fin_ret_tup (k := .fresh) (p := []) (l := (prodV p r a b).map .int) ?_
  have hl : r.length ≤ ((redC p r (r.length - 1) (outerC p b a 0 (zeros (2 * r.length - 1)))).map PyData.int).length := by
    rw [List.length_map, redC_len, outerC_len, zeros_len]
    omega
  show ((cutD (.list ((redC p r (r.length - 1) (outerC p b a 0 (zeros (2 * r.length - 1)))).map .int)) none (some (r.length : Int))).map fun r => Rs.ok r.1 (depOf r.2 []) r.2) = _
  show ((some (Kd.fresh, PyData.list (cut ((redC p r (r.length - 1) (outerC p b a 0 (zeros (2 * r.length - 1)))).map .int) none (some (r.length : Int)))) : Option (Kd × D)).map fun r => Rs.ok r.1 (depOf r.2 []) r.2) = _
  rw [cut_to _ _ hl, ← List.map_take]
  rfl
end Vi

set_option maxRecDepth 100000
set_option maxHeartbeats 4000000
namespace Vi
open PySem PySem.Spec PyProof.Rows L2
section
variable (g : G) (p : Int) (r : List Int)
theorem checked_eq (hf : F_is_field g [fD p r] = some (.ret (.bool true))) : F_checked g [fD p r] = some (.ret (fD p r)) := by
  unfold F_checked
  rw [runF1]
  have hv : ev (g.with (c_checked g)) (.not (.call 0 (.cons (.var 0) .nil))) [.val (fD p r)] = some (.ok .plain [] (.bool false)) := by
    simp [G.with, c_checked, hf]
  show fin (ex _ b_checked [.val (fD p r)]) = _
  unfold b_checked
  simp only [exE_cons, exE_ite, hv, toS_ok, tr_bool]
  rfl
theorem look_numbers_eq (hf : F_is_field g [fD p r] = some (.ret (.bool true))) (hr : r.length ≤ 1000) (L : List (List Int)) (hL : ∀ a ∈ L, inV p r.length a) : F_look_numbers g [fD p r, lR L] = some (.ret .none) := by
  unfold F_look_numbers
  rw [runF2]
  have s1 : ex (g.with (c_look_numbers g)) (.expr (.call 0 (.cons (.var 0) .nil))) [.val (fD p r), .val (lR L), .un] = some (.nx [.val (fD p r), .val (lR L), .un]) := by
    have h := checked_eq g p r hf
    simp [G.with, c_look_numbers, h]
  obtain ⟨ρ', e, c, rfl⟩ := forL_inv (tg := .one 2) (body := ex (g.with (c_look_numbers g)) b_look_numbers_0) (xs := L.map tp) (fun i ρ => ∃ c, ρ = [.val (fD p r), .val (lR L), c]) 0 [.val (fD p r), .val (lR L), .un] ⟨_, rfl⟩ (fun i hi ρ ⟨c, e⟩ => by
    subst e
    have hi : i < L.length := by simpa using hi
    rw [List.getElem_map]
    have hn := is_number_eq g p r L[i] (hL _ (List.getElem_mem hi)) hr
    generalize L[i] = a at hn ⊢
    refine ⟨_, _, rfl, ?_, .val (tp a), rfl⟩
    show ex _ b_look_numbers_0 [.val (fD p r), .val (lR L), .val (tp a)] = _
    have hv : ev (g.with (c_look_numbers g)) (.not (.call 1 (.cons (.var 0) (.cons (.var 2) .nil)))) [.val (fD p r), .val (lR L), .val (tp a)] = some (.ok .plain [] (.bool false)) := by
      simp [G.with, c_look_numbers, hn]
    unfold b_look_numbers_0
    simp only [exE_cons, exE_ite, hv, toS_ok, tr_bool]
    rfl)
  have s2 : ex (g.with (c_look_numbers g)) (.for_ (.one 2) (.var 1) b_look_numbers_0) [.val (fD p r), .val (lR L), .un] = some (.nx [.val (fD p r), .val (lR L), c]) := by
    rw [ex_for (k := .plain) (p := []) (x := lR L) (xs := L.map tp) rfl rfl, tot_plain, disown_nil, e]
  show fin (ex _ b_look_numbers [.val (fD p r), .val (lR L), .un]) = _
  unfold b_look_numbers
  rw [ex_cons s1, ex_cons s2]
  rfl
theorem lst2 {g : G} {ρ : REnv} {i j : Nat} {a b : List Int} (h1 : ρ[i]? = some (.val (tp a))) (h2 : ρ[j]? = some (.val (tp b))) : ev g (.lst (.cons (.var i) (.cons (.var j) .nil))) ρ = some (.ok .fresh [] (lR [a, b])) := by
  rw [evE_lst, evE_cons, evE_var, h1]
  simp only [map2_ok, evE_cons, evE_var, h2, evE_nil]
  simp [sizeLine_eq, lR]
theorem plus_eq (hp : 0 < p) (hf : F_is_field g [fD p r] = some (.ret (.bool true))) (hr : r.length ≤ 1000) (a b : List Int) (ha : inV p r.length a) (hb : inV p r.length b) : F_plus g [fD p r, tp a, tp b] = some (.ret (tp (addV p a b))) := by
  unfold F_plus
  rw [runF3]
  have hl := look_numbers_eq g p r hf hr [a, b] (by intro x hx; simp at hx; rcases hx with rfl | rfl <;> assumption)
  have hs := sum_of_eq g p r hp a b (by rw [ha.1]; exact hr)
  have h0 : ev (g.with (c_plus g)) (.call 0 (.cons (.var 0) (.cons (.lst (.cons (.var 1) (.cons (.var 2) .nil))) .nil))) [.val (fD p r), .val (tp a), .val (tp b)] = some (.ok .plain [] .none) := by
    rw [evE_call, evE_cons, evE_var]
    simp only [List.getElem?_cons_zero, map2_ok, evE_cons, lst2 (g := g.with (c_plus g)) (ρ := [.val (fD p r), .val (tp a), .val (tp b)]) (i := 1) (j := 2) (a := a) (b := b) rfl rfl, evE_nil]
    simp [G.with, c_plus, hl]
  have h1 : ev (g.with (c_plus g)) (.call 1 (.cons (.var 0) (.cons (.var 1) (.cons (.var 2) .nil)))) [.val (fD p r), .val (tp a), .val (tp b)] = some (.ok .plain [] (tp (addV p a b))) := by
    simp [G.with, c_plus, hs]
  show fin (ex _ b_plus [.val (fD p r), .val (tp a), .val (tp b)]) = _
  unfold b_plus
  simp only [exE_cons, exE_expr, h0, toS_ok, exE_ret, h1]
  rfl
theorem minus_eq (hp : 0 < p) (hf : F_is_field g [fD p r] = some (.ret (.bool true))) (hr : r.length ≤ 1000) (a b : List Int) (ha : inV p r.length a) (hb : inV p r.length b) : F_minus g [fD p r, tp a, tp b] = some (.ret (tp (subV p a b))) := by
  unfold F_minus
  rw [runF3]
  have hl := look_numbers_eq g p r hf hr [a, b] (by intro x hx; simp at hx; rcases hx with rfl | rfl <;> assumption)
  have hs := less_eq g p r hp a b (by rw [ha.1]; exact hr)
  have h0 : ev (g.with (c_minus g)) (.call 0 (.cons (.var 0) (.cons (.lst (.cons (.var 1) (.cons (.var 2) .nil))) .nil))) [.val (fD p r), .val (tp a), .val (tp b)] = some (.ok .plain [] .none) := by
    rw [evE_call, evE_cons, evE_var]
    simp only [List.getElem?_cons_zero, map2_ok, evE_cons, lst2 (g := g.with (c_minus g)) (ρ := [.val (fD p r), .val (tp a), .val (tp b)]) (i := 1) (j := 2) (a := a) (b := b) rfl rfl, evE_nil]
    simp [G.with, c_minus, hl]
  have h1 : ev (g.with (c_minus g)) (.call 1 (.cons (.var 0) (.cons (.var 1) (.cons (.var 2) .nil)))) [.val (fD p r), .val (tp a), .val (tp b)] = some (.ok .plain [] (tp (subV p a b))) := by
    simp [G.with, c_minus, hs]
  show fin (ex _ b_minus [.val (fD p r), .val (tp a), .val (tp b)]) = _
  unfold b_minus
  simp only [exE_cons, exE_expr, h0, toS_ok, exE_ret, h1]
  rfl
theorem times_eq (hp : 0 < p) (hp2 : p ≤ 1000) (h0 : 0 < r.length) (br : bdd r) (hf : F_is_field g [fD p r] = some (.ret (.bool true))) (hr : r.length ≤ 100) (a b : List Int) (ha : inV p r.length a) (hb : inV p r.length b) : F_times g [fD p r, tp a, tp b] = some (.ret (tp (prodV p r a b))) := by
  unfold F_times
  rw [runF3]
  have hl := look_numbers_eq g p r hf (by omega) [a, b] (by intro x hx; simp at hx; rcases hx with rfl | rfl <;> assumption)
  have hs := product_of_eq g p hp hp2 r a b h0 hr br ha.1 hb.1 (ha.bdd hp2)
  have hh0 : ev (g.with (c_times g)) (.call 0 (.cons (.var 0) (.cons (.lst (.cons (.var 1) (.cons (.var 2) .nil))) .nil))) [.val (fD p r), .val (tp a), .val (tp b)] = some (.ok .plain [] .none) := by
    rw [evE_call, evE_cons, evE_var]
    simp only [List.getElem?_cons_zero, map2_ok, evE_cons, lst2 (g := g.with (c_times g)) (ρ := [.val (fD p r), .val (tp a), .val (tp b)]) (i := 1) (j := 2) (a := a) (b := b) rfl rfl, evE_nil]
    simp [G.with, c_times, hl]
  have h1 : ev (g.with (c_times g)) (.call 1 (.cons (.var 0) (.cons (.var 1) (.cons (.var 2) .nil)))) [.val (fD p r), .val (tp a), .val (tp b)] = some (.ok .plain [] (tp (prodV p r a b))) := by
    simp [G.with, c_times, hs]
  show fin (ex _ b_times [.val (fD p r), .val (tp a), .val (tp b)]) = _
  unfold b_times
  simp only [exE_cons, exE_expr, hh0, toS_ok, exE_ret, h1]
  rfl
end
end Vi

set_option maxRecDepth 100000
set_option maxHeartbeats 4000000
namespace Vi
open PySem PySem.Spec PyProof.Rows L2
section
variable (g : G) (p : Int) (r : List Int)
theorem times_as_eq (x : Int) (n : Nat) (hx : -1000 < x ∧ x < 1000) (hn : n < 1000000) : F_times_as g [.int x, .int n] = some (.ret (.int (x ^ n))) := by
  unfold F_times_as
  rw [runF2]
  obtain ⟨ρ', e, c, rfl⟩ := forL_inv (tg := .one 3) (body := ex (g.with (c_times_as g)) b_times_as_0) (xs := rangeD 0 n) (fun i ρ => ∃ c, ρ = [.val (.int x), .val (.int n), .val (.int (x ^ i)), c]) 0 [.val (.int x), .val (.int n), .val (.int 1), .un] ⟨.un, by rw [Int.pow_zero]⟩ (fun i hi ρ ⟨c, e⟩ => by
    subst e
    rw [Nat.zero_add]
    have hm := b_mul .plain (x ^ i) x (mulOk_r (by omega) (by omega))
    refine ⟨_, _, rfl, ?_, .val ((rangeD 0 n)[i]), rfl⟩
    · rw [Int.pow_succ]
      show ex _ b_times_as_0 [.val (.int x), .val (.int n), .val (.int (x ^ i)), .val ((rangeD 0 n)[i])] = _
      generalize (rangeD 0 n)[i] = z
      generalize x ^ i = y at hm ⊢
      simp [b_times_as_0, hm])
  have el : 0 + (rangeD 0 n).length = n := by simp [rangeD]
  rw [el] at e
  have s1 : ex (g.with (c_times_as g)) (.set 2 (.int 1)) [.val (.int x), .val (.int n), .un, .un] = some (.nx [.val (.int x), .val (.int n), .val (.int 1), .un]) := rfl
  have s2 : ex (g.with (c_times_as g)) (.for_ (.one 3) (.range1 (.var 1)) b_times_as_0) [.val (.int x), .val (.int n), .val (.int 1), .un] = some (.nx [.val (.int x), .val (.int n), .val (.int (x ^ n)), c]) := by
    rw [ex_for (k := .plain) (p := []) (x := .list (rangeD 0 n)) (ev_range1 (k := .plain) (p := []) (n := n) rfl (by omega)) rfl, tot_plain, disown_nil, e]
  show fin (ex _ b_times_as [.val (.int x), .val (.int n), .un, .un]) = _
  unfold b_times_as
  rw [ex_cons s1, ex_cons s2]
  rfl
theorem size_of_eq (hp : -1000 < p ∧ p < 1000) (hr : r.length < 1000000) : F_size_of g [fD p r] = some (.ret (.int (p ^ r.length))) := by
  unfold F_size_of
  rw [runF1]
  have h := times_as_eq g p r.length hp hr
  have hv : ev (g.with (c_size_of g)) (.call 0 (.cons (.idx (.var 0) (.int 0)) (.cons (.bf .len (.idx (.var 0) (.int 1))) .nil))) [.val (fD p r)] = some (.ok .plain [] (.int (p ^ r.length))) := by
    simp [fD_0, fD_1, len_tp, G.with, c_size_of, h]
  show fin (ex _ b_size_of [.val (fD p r)]) = _
  unfold b_size_of
  simp only [exE_cons, exE_ret, hv, toS_ok]
  rfl
theorem whole_eq (hp : 0 < p) (hr : r.length ≤ 1000) (h0 : 0 < r.length) (x : Int) : F_whole g [fD p r, .int x] = some (.ret (tp (wholeV p r.length x))) := by
  unfold F_whole
  rw [runF2]
  have hm := b_mod .plain x p hp
  have hrep := b_rep .plain (r.length - 1) (by omega)
  have e : (r.length : Int) - 1 = ((r.length - 1 : Nat) : Int) := by omega
  have hadd := b_addT .plain [.int (x % p)] ((zeros (r.length - 1)).map .int) (sz (by simp [zeros]; omega))
  have hv : ev (g.with (c_whole g)) (.bin .add (.tup (.cons (.bin .mod (.var 1) (.idx (.var 0) (.int 0))) .nil)) (.bin .mul (.tup (.cons (.int 0) .nil)) (.bin .sub (.bf .len (.idx (.var 0) (.int 1))) (.int 1)))) [.val (fD p r), .val (.int x)] = some (.ok .plain [] (tp (wholeV p r.length x))) := by
    have h1 : ev (g.with (c_whole g)) (.tup (.cons (.bin .mod (.var 1) (.idx (.var 0) (.int 0))) .nil)) [.val (fD p r), .val (.int x)] = some (.ok .plain [] (.tuple [.int (x % p)])) := by
      simp [fD_0, hm, sizeLine_eq]
    have h2 : ev (g.with (c_whole g)) (.bin .mul (.tup (.cons (.int 0) .nil)) (.bin .sub (.bf .len (.idx (.var 0) (.int 1))) (.int 1))) [.val (fD p r), .val (.int x)] = some (.ok .plain [] (tp (zeros (r.length - 1)))) := by
      simp [fD_1, len_tp, sizeLine_eq, e, hrep]
    rw [ev_bin h1 h2 hadd]
    rfl
  show fin (ex _ b_whole [.val (fD p r), .val (.int x)]) = _
  unfold b_whole
  simp only [exE_cons, exE_ret, hv, toS_ok]
  rfl
theorem power_loop (hp : 0 < p) (hp2 : p ≤ 1000) (h0 : 0 < r.length) (hr : r.length ≤ 100) (br : bdd r) : ∀ (k fuel : Nat) (f x : List Int) (n : Nat), n < 2 ^ k → k < fuel → inV p r.length f → inV p r.length x →
    ∃ x' n', whileL (ev (g.with (c_power_of g)) (.cmp .gt (.var 2) (.int 0))) (ex (g.with (c_power_of g)) b_power_of_0) fuel [.val (fD p r), .val (tp x), .val (.int (n : Nat)), .val (tp f)] = some (.nx [.val (fD p r), .val (tp x'), .val (.int (n' : Nat)), .val (tp (powS p r k f x n))])
  | k, 0, f, x, n, hn, hk, _, _ => absurd hk (by omega)
  | k, fuel + 1, f, x, n, hn, hk, hf, hx => by
    have hc : ev (g.with (c_power_of g)) (.cmp .gt (.var 2) (.int 0)) [.val (fD p r), .val (tp x), .val (.int (n : Nat)), .val (tp f)] = some (.ok .plain [] (.bool (decide (0 < n)))) := by simp
    rw [whileL_succ, hc, toS_ok, tr_bool]
    by_cases h : n = 0
    · subst h
      refine ⟨x, 0, ?_⟩
      have : powS p r k f x 0 = f := by cases k <;> rfl
      rw [this]
      rfl
    · have hd : decide (0 < n) = true := decide_eq_true (by omega)
      rw [hd]
      cases k with
      | zero => exact absurd hn (by omega)
      | succ k =>
        have e : powS p r (k + 1) f x n = powS p r k (if n % 2 = 1 then prodV p r f x else f) (prodV p r x x) (n / 2) := if_neg h
        rw [e]
        have hfx := product_of_eq g p hp hp2 r f x h0 hr br hf.1 hx.1 (hf.bdd hp2)
        have hxx := product_of_eq g p hp hp2 r x x h0 hr br hx.1 hx.1 (hx.bdd hp2)
        have hm := b_mod .plain (n : Int) 2 (by decide)
        have hd2 := b_fdiv .plain (n : Int) 2 (by decide)
        have en : ((n : Int) / 2) = ((n / 2 : Nat) : Int) := by omega
        have t1 : ex (g.with (c_power_of g)) (.ite (.cmp .eq (.bin .mod (.var 2) (.int 2)) (.int 1)) (.cons (.set 3 (.call 1 (.cons (.var 0) (.cons (.var 3) (.cons (.var 1) .nil))))) .nil) .nil) [.val (fD p r), .val (tp x), .val (.int (n : Nat)), .val (tp f)] = some (.nx [.val (fD p r), .val (tp x), .val (.int (n : Nat)), .val (tp (if n % 2 = 1 then prodV p r f x else f))]) := by
          have hv : ev (g.with (c_power_of g)) (.cmp .eq (.bin .mod (.var 2) (.int 2)) (.int 1)) [.val (fD p r), .val (tp x), .val (.int (n : Nat)), .val (tp f)] = some (.ok .plain [] (.bool (decide ((n : Int) % 2 = 1)))) := by
            simp [hm, c_eqI]
          rw [exE_ite, hv, toS_ok, tr_bool]
          by_cases q : n % 2 = 1
          · rw [if_pos q, decide_eq_true (by omega)]
            have hcall : ev (g.with (c_power_of g)) (.call 1 (.cons (.var 0) (.cons (.var 3) (.cons (.var 1) .nil)))) [.val (fD p r), .val (tp x), .val (.int (n : Nat)), .val (tp f)] = some (.ok .plain [] (tp (prodV p r f x))) := by
              simp [G.with, c_power_of, hfx]
            show ex _ (.cons (.set 3 _) .nil) _ = _
            rw [ex_cons (ex_set hcall (by show 3 < 4; decide)), put_plain]
            rfl
          · rw [if_neg q, decide_eq_false (by omega)]
            rfl
        have t2 : ex (g.with (c_power_of g)) (.set 1 (.call 1 (.cons (.var 0) (.cons (.var 1) (.cons (.var 1) .nil))))) [.val (fD p r), .val (tp x), .val (.int (n : Nat)), .val (tp (if n % 2 = 1 then prodV p r f x else f))] = some (.nx [.val (fD p r), .val (tp (prodV p r x x)), .val (.int (n : Nat)), .val (tp (if n % 2 = 1 then prodV p r f x else f))]) := by
          have hcall : ev (g.with (c_power_of g)) (.call 1 (.cons (.var 0) (.cons (.var 1) (.cons (.var 1) .nil)))) [.val (fD p r), .val (tp x), .val (.int (n : Nat)), .val (tp (if n % 2 = 1 then prodV p r f x else f))] = some (.ok .plain [] (tp (prodV p r x x))) := by
            simp [G.with, c_power_of, hxx]
          rw [ex_set hcall (by show 1 < 4; decide), put_plain]
          rfl
        have t3 : ex (g.with (c_power_of g)) (.set 2 (.bin .fdiv (.var 2) (.int 2))) [.val (fD p r), .val (tp (prodV p r x x)), .val (.int (n : Nat)), .val (tp (if n % 2 = 1 then prodV p r f x else f))] = some (.nx [.val (fD p r), .val (tp (prodV p r x x)), .val (.int ((n / 2 : Nat) : Int)), .val (tp (if n % 2 = 1 then prodV p r f x else f))]) := by
          have hv : ev (g.with (c_power_of g)) (.bin .fdiv (.var 2) (.int 2)) [.val (fD p r), .val (tp (prodV p r x x)), .val (.int (n : Nat)), .val (tp (if n % 2 = 1 then prodV p r f x else f))] = some (.ok .plain [] (.int ((n / 2 : Nat) : Int))) := by
            rw [← en]
            simp [hd2]
          rw [ex_set hv (by show 2 < 4; decide), put_int]
          rfl
        have hb : ex (g.with (c_power_of g)) b_power_of_0 [.val (fD p r), .val (tp x), .val (.int (n : Nat)), .val (tp f)] = some (.nx [.val (fD p r), .val (tp (prodV p r x x)), .val (.int ((n / 2 : Nat) : Int)), .val (tp (if n % 2 = 1 then prodV p r f x else f))]) := by
          unfold b_power_of_0
          rw [ex_cons t1, ex_cons t2, ex_cons t3]
          rfl
        have hff : inV p r.length (if n % 2 = 1 then prodV p r f x else f) := by
          by_cases q : n % 2 = 1
          · rw [if_pos q]; exact prodV_in hp r f x h0
          · rw [if_neg q]; exact hf
        obtain ⟨x', n', e2⟩ := power_loop hp hp2 h0 hr br k fuel (if n % 2 = 1 then prodV p r f x else f) (prodV p r x x) (n / 2) (by rw [Nat.pow_succ] at hn; omega) (by omega) hff (prodV_in hp r x x h0)
        refine ⟨x', n', ?_⟩
        show (match ex (g.with (c_power_of g)) b_power_of_0 [.val (fD p r), .val (tp x), .val (.int (n : Nat)), .val (tp f)] with
          | some (.nx ρ2) => whileL (ev (g.with (c_power_of g)) (.cmp .gt (.var 2) (.int 0))) (ex (g.with (c_power_of g)) b_power_of_0) fuel ρ2
          | x => x) = _
        rw [hb]
        exact e2
end
end Vi

set_option maxRecDepth 100000
set_option maxHeartbeats 4000000
namespace Vi
open PySem PySem.Spec PyProof.Rows L2
section
variable (g : G) (p : Int) (r : List Int)
theorem wholeV_in (hp : 0 < p) (n : Nat) (h0 : 0 < n) (x : Int) : inV p n (wholeV p n x) := by
  refine ⟨by simp [wholeV, zeros]; omega, fun y hy => ?_⟩
  rcases List.mem_cons.mp hy with rfl | hy
  · exact ⟨Int.emod_nonneg _ (by omega), Int.emod_lt_of_pos _ hp⟩
  · exact zeros_in hp _ y hy
theorem power_of_eq (hg : 64 ≤ g.fuel) (hp : 0 < p) (hp2 : p ≤ 1000) (h0 : 0 < r.length) (hr : r.length ≤ 100) (br : bdd r) (x : List Int) (hx : inV p r.length x) (n : Nat) (hn : n < 2 ^ 24) :
    F_power_of g [fD p r, tp x, .int n] = some (.ret (tp (powV p r x n))) := by
  unfold F_power_of
  rw [runF3]
  have hw := whole_eq g p r hp (by omega) h0 1
  have s1 : ex (g.with (c_power_of g)) (.set 3 (.call 0 (.cons (.var 0) (.cons (.int 1) .nil)))) [.val (fD p r), .val (tp x), .val (.int n), .un] = some (.nx [.val (fD p r), .val (tp x), .val (.int n), .val (tp (wholeV p r.length 1))]) := by
    have hcall : ev (g.with (c_power_of g)) (.call 0 (.cons (.var 0) (.cons (.int 1) .nil))) [.val (fD p r), .val (tp x), .val (.int n), .un] = some (.ok .plain [] (tp (wholeV p r.length 1))) := by
      simp [G.with, c_power_of, hw]
    rw [ex_set hcall (by show 3 < 4; decide), put_plain]
    rfl
  obtain ⟨x', n', e⟩ := power_loop g p r hp hp2 h0 hr br 24 g.fuel (wholeV p r.length 1) x n hn (by omega) (wholeV_in p hp _ h0 1) hx
  have s2 : ex (g.with (c_power_of g)) (.whl (.cmp .gt (.var 2) (.int 0)) b_power_of_0) [.val (fD p r), .val (tp x), .val (.int n), .val (tp (wholeV p r.length 1))] = some (.nx [.val (fD p r), .val (tp x'), .val (.int (n' : Nat)), .val (tp (powV p r x n))]) := e
  show fin (ex _ b_power_of [.val (fD p r), .val (tp x), .val (.int n), .un]) = _
  unfold b_power_of
  rw [ex_cons s1, ex_cons s2]
  rfl
theorem inverse_of_eq (hg : 64 ≤ g.fuel) (P : Nat) (hP : p = P) (hp : 2 ≤ P) (hp2 : P ≤ 900) (h0 : 0 < r.length) (hr : r.length ≤ 100) (br : bdd r) (hq : P ^ r.length < 2 ^ 24) (x : List Int) (hx : inV p r.length x) :
    F_inverse_of g [fD p r, tp x] = some (.ret (tp (powV p r x (P ^ r.length - 2)))) := by
  unfold F_inverse_of
  rw [runF2]
  have hs := size_of_eq g p r (by omega) (by omega)
  have hpw : 2 ≤ P ^ r.length := Nat.le_trans hp (Nat.le_self_pow (by omega) P)
  have hn := power_of_eq g p r hg (by omega) (by omega) h0 hr br x hx (P ^ r.length - 2) (by omega)
  have e : p ^ r.length - 2 = ((P ^ r.length - 2 : Nat) : Int) := by
    rw [hP, ← Int.natCast_pow]
    omega
  have h1 : ev (g.with (c_inverse_of g)) (.bin .sub (.call 0 (.cons (.var 0) .nil)) (.int 2)) [.val (fD p r), .val (tp x)] = some (.ok .plain [] (.int ((P ^ r.length - 2 : Nat) : Int))) := by
    rw [← e]
    simp [G.with, c_inverse_of, hs]
  have hv : ev (g.with (c_inverse_of g)) (.call 1 (.cons (.var 0) (.cons (.var 1) (.cons (.bin .sub (.call 0 (.cons (.var 0) .nil)) (.int 2)) .nil)))) [.val (fD p r), .val (tp x)] = some (.ok .plain [] (tp (powV p r x (P ^ r.length - 2)))) := by
    generalize ((P ^ r.length - 2 : Nat) : Int) = j at h1 hn
    rw [evE_call, evE_cons, evE_var]
    simp only [List.getElem?_cons_zero, map2_ok, evE_cons, evE_var, List.getElem?_cons_succ, h1, evE_nil]
    simp [G.with, c_inverse_of, hn]
  show fin (ex _ b_inverse_of [.val (fD p r), .val (tp x)]) = _
  unfold b_inverse_of
  simp only [exE_cons, exE_ret, hv, toS_ok]
  rfl
end
end Vi

set_option maxRecDepth 100000
set_option maxHeartbeats 4000000
namespace Vi
open PySem PySem.Spec PyProof.Rows L2
section
variable (g : G) (p : Int) (r : List Int)
theorem powS_in (hp : 0 < p) (h0 : 0 < r.length) : ∀ (k : Nat) (f x : List Int) (n : Nat), inV p r.length f → inV p r.length x → inV p r.length (powS p r k f x n)
  | 0, f, _, _, hf, _ => hf
  | k + 1, f, x, n, hf, hx => by
    unfold powS
    by_cases h : n = 0
    · rw [if_pos h]; exact hf
    · rw [if_neg h]
      refine powS_in hp h0 k _ _ _ ?_ (prodV_in hp r x x h0)
      by_cases q : n % 2 = 1
      · rw [if_pos q]; exact prodV_in hp r f x h0
      · rw [if_neg q]; exact hf
theorem powV_in (hp : 0 < p) (h0 : 0 < r.length) (x : List Int) (n : Nat) (hx : inV p r.length x) : inV p r.length (powV p r x n) := powS_in p r hp h0 24 _ x n (wholeV_in p hp _ h0 1) hx
theorem over_eq (hg : 64 ≤ g.fuel) (P : Nat) (hP : p = P) (hp : 2 ≤ P) (hp2 : P ≤ 900) (h0 : 0 < r.length) (hr : r.length ≤ 100) (br : bdd r) (hq : P ^ r.length < 2 ^ 24) (hf : F_is_field g [fD p r] = some (.ret (.bool true)))
    (a b : List Int) (ha : inV p r.length a) (hb : inV p r.length b) :
    F_over g [fD p r, tp a, tp b] = if b = zeros r.length then some (.ex "Zero") else some (.ret (tp (prodV p r a (powV p r b (P ^ r.length - 2))))) := by
  unfold F_over
  rw [runF3]
  have hl := look_numbers_eq g p r hf (by omega) [a, b] (by intro x hx; simp at hx; rcases hx with rfl | rfl <;> assumption)
  have hz := nought_eq g p r (by omega)
  have hi := inverse_of_eq g p r hg P hP hp hp2 h0 hr br hq b hb
  have hpr := product_of_eq g p (by omega) (by omega) r a (powV p r b (P ^ r.length - 2)) h0 hr br ha.1
  have hh0 : ev (g.with (c_over g)) (.call 0 (.cons (.var 0) (.cons (.lst (.cons (.var 1) (.cons (.var 2) .nil))) .nil))) [.val (fD p r), .val (tp a), .val (tp b)] = some (.ok .plain [] .none) := by
    rw [evE_call, evE_cons, evE_var]
    simp only [List.getElem?_cons_zero, map2_ok, evE_cons, lst2 (g := g.with (c_over g)) (ρ := [.val (fD p r), .val (tp a), .val (tp b)]) (i := 1) (j := 2) (a := a) (b := b) rfl rfl, evE_nil]
    simp [G.with, c_over, hl]
  have hc : ev (g.with (c_over g)) (.cmp .eq (.var 2) (.call 1 (.cons (.var 0) .nil))) [.val (fD p r), .val (tp a), .val (tp b)] = some (.ok .plain [] (.bool (decide (b = zeros r.length)))) := by
    simp [G.with, c_over, hz, c_eqT]
  show fin (ex _ b_over [.val (fD p r), .val (tp a), .val (tp b)]) = _
  unfold b_over
  by_cases h : b = zeros r.length
  · rw [if_pos h]
    simp only [exE_cons, exE_expr, hh0, toS_ok, exE_ite, hc, decide_eq_true h, tr_bool, exE_raise]
    rfl
  · rw [if_neg h]
    have hlen : (powV p r b (P ^ r.length - 2)).length = r.length := (powV_in p r (by omega) h0 b _ hb).1
    have hv : ev (g.with (c_over g)) (.call 3 (.cons (.var 0) (.cons (.var 1) (.cons (.call 2 (.cons (.var 0) (.cons (.var 2) .nil))) .nil)))) [.val (fD p r), .val (tp a), .val (tp b)] = some (.ok .plain [] (tp (prodV p r a (powV p r b (P ^ r.length - 2))))) := by
      have hpr := hpr hlen (ha.bdd (by omega))
      simp [G.with, c_over, hi, hpr]
    simp only [exE_cons, exE_expr, hh0, toS_ok, exE_ite, hc, decide_eq_false h, tr_bool, exE_nil, exE_ret, hv]
    rfl
end
end Vi

set_option maxRecDepth 100000
set_option maxHeartbeats 4000000
namespace Vi
open PySem PySem.Spec PyProof.Rows L2
section
variable (g : G) (p : Int) (r : List Int)
theorem L_over_ok (a b : List Int) (d : List Int) (h : F_over g [fD p r, tp a, tp b] = some (.ret (tp d))) : F_L_over g [fD p r, tp a, tp b] = some (.ret (tp d)) := by
  unfold F_L_over
  rw [runF3]
  have hv : ev (g.with (c_L_over g)) (.call 0 (.cons (.var 0) (.cons (.var 1) (.cons (.var 2) .nil)))) [.val (fD p r), .val (tp a), .val (tp b), .un] = some (.ok .plain [] (tp d)) := by
    simp [G.with, c_L_over, h]
  show fin (ex _ b_L_over [.val (fD p r), .val (tp a), .val (tp b), .un]) = _
  unfold b_L_over
  rw [exE_cons, exE_tryx, exE_cons, exE_ret, hv]
  rfl
theorem L_over_zero (hx : g.exm.lookup ((Str.ofString "Zero"), (Str.ofString "Zero")) = some true) (hi : g.isx.lookup ((Str.ofString "Zero"), (Str.ofString "FieldError")) = some true) (a b : List Int) (h : F_over g [fD p r, tp a, tp b] = some (.ex "Zero")) : F_L_over g [fD p r, tp a, tp b] = some (.lst [.bool true]) := by
  unfold F_L_over
  rw [runF3]
  have hv : ev (g.with (c_L_over g)) (.call 0 (.cons (.var 0) (.cons (.var 1) (.cons (.var 2) .nil)))) [.val (fD p r), .val (tp a), .val (tp b), .un] = some (.ex "Zero") := by
    simp [G.with, c_L_over, h]
  have hx' : (g.with (c_L_over g)).exm.lookup ((Str.ofString "Zero"), (Str.ofString "Zero")) = some true := hx
  have hi' : (g.with (c_L_over g)).isx.lookup ((Str.ofString "Zero"), (Str.ofString "FieldError")) = some true := hi
  have hl : ev (g.with (c_L_over g)) (.lst (.cons (.isx 3 "FieldError") .nil)) [.val (fD p r), .val (tp a), .val (tp b), .exc "Zero"] = some (.ok .fresh [] (.list [.bool true])) := by
    rw [evE_lst, evE_cons, evE_isx]
    simp only [List.getElem?_cons_succ, List.getElem?_cons_zero, hi', Option.map, map2_ok, evE_nil]
    simp [sizeLine_eq, depF, flat]
  show fin (ex _ b_L_over [.val (fD p r), .val (tp a), .val (tp b), .un]) = _
  unfold b_L_over
  have hbody : ex (g.with (c_L_over g)) (.cons (.ret (.call 0 (.cons (.var 0) (.cons (.var 1) (.cons (.var 2) .nil))))) .nil) [.val (fD p r), .val (tp a), .val (tp b), .un] = some (.ex "Zero" [.val (fD p r), .val (tp a), .val (tp b), .un]) := by
    rw [exE_cons, exE_ret, hv]
    rfl
  have hsu : ex (g.with (c_L_over g)) (.cons (.ret (.lst (.cons (.isx 3 "FieldError") .nil))) .nil) [.val (fD p r), .val (tp a), .val (tp b), .exc "Zero"] = some (.rl [.bool true]) := by
    rw [exE_cons, exE_ret, hl]
    rfl
  rw [exE_cons, exE_tryx, hbody]
  show fin (match (match (g.with (c_L_over g)).exm.lookup ((Str.ofString "Zero"), (Str.ofString "Zero")) with
      | some true => if 3 < 4 then (match ex (g.with (c_L_over g)) (.cons (.ret (.lst (.cons (.isx 3 "FieldError") .nil))) .nil) [.val (fD p r), .val (tp a), .val (tp b), .exc "Zero"] with
          | some (.nx ρ2) => if noExc (ρ2.set 3 .un) = true ∧ 3 < ρ2.length then some (SR.nx (ρ2.set 3 .un)) else none
          | some (.rt d) => some (SR.rt d)
          | some (.rl d) => some (SR.rl d)
          | _ => none) else none
      | some false => some (SR.ex "Zero" [.val (fD p r), .val (tp a), .val (tp b), .un])
      | none => none) with
    | some (SR.nx ρ1) => ex (g.with (c_L_over g)) .nil ρ1
    | x => x) = _
  rw [hx', hsu]
  rfl
end
end Vi

set_option maxRecDepth 100000
set_option maxHeartbeats 4000000
namespace Vi
/-! ### sums, and steps by x, over whole numbers -/
def sumN : Nat → (Nat → Int) → Int
  | 0, _ => 0
  | m + 1, f => sumN m f + f m
theorem sumN_congr {f h : Nat → Int} : ∀ (m : Nat), (∀ k, k < m → f k = h k) → sumN m f = sumN m h
  | 0, _ => rfl
  | m + 1, e => by
    unfold sumN
    rw [sumN_congr m fun k hk => e k (by omega), e m (by omega)]
theorem sumN_add (f h : Nat → Int) : ∀ m, sumN m (fun k => f k + h k) = sumN m f + sumN m h
  | 0 => rfl
  | m + 1 => by
    simp only [sumN]
    rw [sumN_add f h m]
    omega
theorem sumN_mul (c : Int) (f : Nat → Int) : ∀ m, sumN m (fun k => c * f k) = c * sumN m f
  | 0 => by simp [sumN]
  | m + 1 => by
    unfold sumN
    rw [sumN_mul c f m, Int.mul_add]
theorem sumN_zero : ∀ m, sumN m (fun _ => 0) = 0
  | 0 => rfl
  | m + 1 => by
    unfold sumN
    rw [sumN_zero m]; rfl
theorem sumN_swap (f : Nat → Nat → Int) : ∀ m n, sumN m (fun i => sumN n (f i)) = sumN n (fun j => sumN m (fun i => f i j))
  | 0, n => by
    show 0 = sumN n (fun _ => 0)
    rw [sumN_zero]
  | m + 1, n => by
    show sumN m (fun i => sumN n (f i)) + sumN n (f m) = sumN n (fun j => sumN m (fun i => f i j) + f m j)
    rw [sumN_swap f m n, sumN_add]
/-- only one place counts -/
theorem sumN_one (c : Int) (i : Nat) : ∀ m, i < m → sumN m (fun k => if k = i then c else 0) = c
  | 0, h => by omega
  | m + 1, h => by
    simp only [sumN]
    by_cases e : i = m
    · subst e
      rw [if_pos rfl, sumN_congr (h := fun _ => 0) i (fun k hk => if_neg (by omega)), sumN_zero]
      omega
    · rw [sumN_one c i m (by omega), if_neg (by omega)]
      omega
theorem sumN_neg (f : Nat → Int) (m : Nat) : sumN m (fun k => - f k) = - sumN m f := by
  have := sumN_mul (-1) f m
  rw [show (fun k => - f k) = fun k => -1 * f k from funext fun k => by omega, this]
  omega
abbrev Vec := Nat → Int
section
variable (n : Nat) (r : Vec)
/-- the step by x -/
def stepF (v : Vec) : Vec := fun j => (if j = 0 then 0 else v (j - 1)) - v (n - 1) * r j
def stepI : Nat → Vec → Vec
  | 0, v => v
  | k + 1, v => stepF n r (stepI k v)
theorem stepF_add (u v : Vec) : stepF n r (fun j => u j + v j) = fun j => stepF n r u j + stepF n r v j := by
  funext j
  unfold stepF
  by_cases h : j = 0
  · simp only [if_pos h, Int.add_mul]; omega
  · simp only [if_neg h, Int.add_mul]; omega
theorem stepF_mul (c : Int) (v : Vec) : stepF n r (fun j => c * v j) = fun j => c * stepF n r v j := by
  funext j
  unfold stepF
  by_cases h : j = 0
  · simp only [if_pos h, Int.mul_assoc, Int.mul_sub]; omega
  · simp only [if_neg h, Int.mul_assoc, Int.mul_sub]
theorem stepF_zero : stepF n r (fun _ => 0) = fun _ => 0 := by
  funext j
  unfold stepF
  simp
theorem stepF_sum (c : Nat → Int) (v : Nat → Vec) : ∀ m, stepF n r (fun j => sumN m fun k => c k * v k j) = fun j => sumN m fun k => c k * stepF n r (v k) j
  | 0 => stepF_zero n r
  | m + 1 => by
    show stepF n r (fun j => sumN m (fun k => c k * v k j) + c m * v m j) = fun j => sumN m (fun k => c k * stepF n r (v k) j) + c m * stepF n r (v m) j
    rw [stepF_add, stepF_sum c v m, stepF_mul]
theorem stepI_sum (c : Nat → Int) (v : Nat → Vec) (m : Nat) : ∀ t, stepI n r t (fun j => sumN m fun k => c k * v k j) = fun j => sumN m fun k => c k * stepI n r t (v k) j
  | 0 => rfl
  | t + 1 => by
    show stepF n r (stepI n r t _) = _
    rw [stepI_sum c v m t, stepF_sum]
    rfl
theorem stepI_add (a b : Nat) (v : Vec) : stepI n r (a + b) v = stepI n r a (stepI n r b v) := by
  induction a with
  | zero => rw [Nat.zero_add]; rfl
  | succ a ih =>
    rw [show a + 1 + b = (a + b) + 1 by omega]
    show stepF n r (stepI n r (a + b) v) = stepF n r (stepI n r a (stepI n r b v))
    rw [ih]
def dl (i : Nat) : Vec := fun j => if j = i then 1 else 0
/-- x raised k times -/
def eV (k : Nat) : Vec := stepI n r k (dl 0)
theorem eV_small : ∀ k, k < n → ∀ j, j < n → eV n r k j = dl k j
  | 0, _, j, _ => rfl
  | k + 1, hk, j, hj => by
    have ih := eV_small k (by omega)
    show (if j = 0 then 0 else eV n r k (j - 1)) - eV n r k (n - 1) * r j = _
    rw [ih (n - 1) (by omega)]
    have e : dl k (n - 1) = 0 := if_neg (by omega)
    rw [e, Int.zero_mul]
    unfold dl
    by_cases h : j = 0
    · rw [if_pos h, if_neg (by omega)]; rfl
    · rw [if_neg h, ih (j - 1) (by omega)]
      unfold dl
      by_cases h2 : j - 1 = k
      · rw [if_pos h2, if_pos (by omega)]; rfl
      · rw [if_neg h2, if_neg (by omega)]; rfl
end
end Vi

set_option maxRecDepth 100000
set_option maxHeartbeats 4000000
namespace Vi
/-- the figures of a number -/
def vf (a : List Int) : Vec := fun j => a.getD j 0
/-- alike by p at the first n places -/
def cg (p : Int) (n : Nat) (u v : Vec) : Prop := ∀ j, j < n → u j % p = v j % p
theorem cg.refl {p : Int} {n : Nat} (u : Vec) : cg p n u u := fun _ _ => rfl
theorem cg.symm {p : Int} {n : Nat} {u v : Vec} (h : cg p n u v) : cg p n v u := fun j hj => (h j hj).symm
theorem cg.trans {p : Int} {n : Nat} {u v w : Vec} (h : cg p n u v) (k : cg p n v w) : cg p n u w := fun j hj => (h j hj).trans (k j hj)
theorem cg.of_eq {p : Int} {n : Nat} {u v : Vec} (h : ∀ j, j < n → u j = v j) : cg p n u v := fun j hj => by rw [h j hj]
theorem md {p a b : Int} : a % p = b % p ↔ p ∣ a - b := by
  constructor
  · intro h
    exact Int.dvd_of_emod_eq_zero (Int.emod_eq_emod_iff_emod_sub_eq_zero.mp h)
  · intro h
    exact Int.emod_eq_emod_iff_emod_sub_eq_zero.mpr (Int.emod_eq_zero_of_dvd h)
theorem cg.add {p : Int} {n : Nat} {u v u' v' : Vec} (h : cg p n u v) (k : cg p n u' v') : cg p n (fun j => u j + u' j) (fun j => v j + v' j) := fun j hj => by
  show (u j + u' j) % p = (v j + v' j) % p
  rw [Int.add_emod, h j hj, k j hj, ← Int.add_emod]
theorem cg.mul {p : Int} {n : Nat} {u v : Vec} (c : Int) (h : cg p n u v) : cg p n (fun j => c * u j) (fun j => c * v j) := fun j hj => by
  show (c * u j) % p = (c * v j) % p
  rw [Int.mul_emod, h j hj, ← Int.mul_emod]
theorem cg.sum {p : Int} {n : Nat} {u v : Nat → Vec} : ∀ (m : Nat), (∀ k, k < m → cg p n (u k) (v k)) → cg p n (fun j => sumN m fun k => u k j) (fun j => sumN m fun k => v k j)
  | 0, _ => .refl _
  | m + 1, h => (cg.sum m fun k hk => h k (by omega)).add (h m (by omega))
theorem cg.step {p : Int} {n : Nat} (r : Vec) {u v : Vec} (h : cg p n u v) : cg p n (stepF n r u) (stepF n r v) := fun j hj => by
  have h1 := h (n - 1) (by omega)
  show ((if j = 0 then 0 else u (j - 1)) - u (n - 1) * r j) % p = ((if j = 0 then 0 else v (j - 1)) - v (n - 1) * r j) % p
  have h2 : (u (n - 1) * r j) % p = (v (n - 1) * r j) % p := by rw [Int.mul_emod, h1, ← Int.mul_emod]
  by_cases e : j = 0
  · rw [if_pos e, if_pos e, Int.sub_emod, h2, ← Int.sub_emod]
  · rw [if_neg e, if_neg e, Int.sub_emod, h (j - 1) (by omega), h2, ← Int.sub_emod]
theorem cg.stepI {p : Int} {n : Nat} (r : Vec) {u v : Vec} (h : cg p n u v) : ∀ t, cg p n (Vi.stepI n r t u) (Vi.stepI n r t v)
  | 0 => h
  | t + 1 => (h.stepI r t).step r
theorem list_eq {p : Int} {n : Nat} {a b : List Int} (ha : inV p n a) (hb : inV p n b) (h : cg p n (vf a) (vf b)) : a = b := by
  refine List.ext_getElem (by rw [ha.1, hb.1]) fun i h1 h2 => ?_
  have e := h i (by rw [← ha.1]; exact h1)
  unfold vf at e
  have ea : a.getD i 0 = a[i] := by simp [h1]
  have eb : b.getD i 0 = b[i] := by simp [h2]
  rw [ea, eb] at e
  have ka := ha.2 a[i] (List.getElem_mem h1)
  have kb := hb.2 b[i] (List.getElem_mem h2)
  rwa [Int.emod_eq_of_lt ka.1 ka.2, Int.emod_eq_of_lt kb.1 kb.2] at e
theorem vf_map_range (f : Nat → Int) (n j : Nat) (h : j < n) : vf ((List.range n).map f) j = f j := by
  unfold vf
  simp [h]
theorem vf_step {p : Int} (r a : List Int) (ha : a.length = r.length) : cg p r.length (vf (stepV p r a)) (stepF r.length (vf r) (vf a)) := fun j hj => by
  unfold stepV
  rw [vf_map_range _ _ _ hj, Int.emod_emod]
  unfold stepE stepF vf
  rw [ha]
theorem vf_add {p : Int} (a b : List Int) (n : Nat) (ha : a.length = n) (hb : b.length = n) : cg p n (vf (addV p a b)) (fun j => vf a j + vf b j) := fun j hj => by
  unfold addV vf
  have h1 : j < a.length := by omega
  have h2 : j < b.length := by omega
  simp [h1, h2, List.getElem?_zipWith]
theorem vf_mulF {p f : Int} (a : List Int) (n : Nat) (ha : a.length = n) : cg p n (vf (mulF p f a)) (fun j => f * vf a j) := fun j hj => by
  unfold mulF vf
  have h1 : j < a.length := by omega
  simp [h1]
theorem vf_zeros (n j : Nat) : vf (zeros n) j = 0 := by
  unfold vf zeros
  by_cases h : j < n
  · simp [h]
  · simp [h]
end Vi

set_option maxRecDepth 100000
set_option maxHeartbeats 4000000
namespace Vi
theorem sumN_shift (f : Nat → Int) : ∀ m, sumN (m + 1) f = f 0 + sumN m fun k => f (k + 1)
  | 0 => by simp [sumN]
  | m + 1 => by
    show sumN (m + 1) f + f (m + 1) = f 0 + (sumN m (fun k => f (k + 1)) + f (m + 1))
    rw [sumN_shift f m]
    omega
theorem stepI_succ (n : Nat) (r v : Vec) (k : Nat) : stepI n r k (stepF n r v) = stepI n r (k + 1) v := by
  have := stepI_add n r k 1 v
  rw [this]
  rfl
theorem stepV_len (p : Int) (r a : List Int) : (stepV p r a).length = r.length := by simp [stepV]
theorem mulF_len (p f : Int) (a : List Int) : (mulF p f a).length = a.length := by simp [mulF]
theorem fold_vf (p : Int) (r : List Int) : ∀ (b : List Int) (s : List Int × List Int), s.1.length = r.length → s.2.length = r.length →
    cg p r.length (vf (b.foldl (timesS p r) s).1) (fun j => vf s.1 j + sumN b.length fun k => vf b k * stepI r.length (vf r) k (vf s.2) j)
  | [], s, h1, h2 => .of_eq fun j hj => by
    show vf s.1 j = vf s.1 j + 0
    omega
  | f :: b, s, h1, h2 => by
    have hm : (mulF p f s.2).length = r.length := by rw [mulF_len, h2]
    have ih := fold_vf p r b (timesS p r s f) (by show (addV p s.1 (mulF p f s.2)).length = _; rw [addV_len p _ _ (by omega), h1]) (stepV_len p r s.2)
    refine cg.trans ih ?_
    have e1 : cg p r.length (vf (timesS p r s f).1) (fun j => vf s.1 j + f * vf s.2 j) := (vf_add s.1 (mulF p f s.2) r.length h1 hm).trans ((cg.refl _).add (vf_mulF s.2 r.length h2))
    have e2 : ∀ k, cg p r.length (stepI r.length (vf r) k (vf (timesS p r s f).2)) (stepI r.length (vf r) (k + 1) (vf s.2)) := fun k => by
      have := (vf_step (p := p) r s.2 h2).stepI (vf r) k
      rw [stepI_succ] at this
      exact this
    refine (e1.add (cg.sum b.length fun k _ => (e2 k).mul (vf b k))).trans (.of_eq fun j hj => ?_)
    show vf s.1 j + f * vf s.2 j + sumN b.length (fun k => vf b k * stepI r.length (vf r) (k + 1) (vf s.2) j) = vf s.1 j + sumN (b.length + 1) (fun k => vf (f :: b) k * stepI r.length (vf r) k (vf s.2) j)
    rw [sumN_shift]
    have e3 : vf (f :: b) 0 = f := rfl
    have e4 : ∀ k, vf (f :: b) (k + 1) = vf b k := fun k => by unfold vf; simp
    rw [e3]
    simp only [e4]
    show _ = vf s.1 j + (f * vf s.2 j + _)
    omega
theorem vec_sum (n : Nat) (v : Vec) (j : Nat) (h : j < n) : (sumN n fun i => v i * dl i j) = v j := by
  rw [sumN_congr (h := fun k => if k = j then v j else 0), sumN_one _ _ _ h]
  intro k hk
  unfold dl
  by_cases e : k = j
  · subst e; rw [if_pos rfl, if_pos rfl, Int.mul_one]
  · rw [if_neg (fun z => e z.symm), if_neg e, Int.mul_zero]
/-- the product of figures, by powers of x -/
def mulN (n : Nat) (r a b : Vec) : Vec := fun j => sumN n fun k => b k * sumN n fun i => a i * eV n r (k + i) j
theorem stepI_vec (p : Int) (n : Nat) (r v : Vec) (k : Nat) : cg p n (stepI n r k v) (fun j => sumN n fun i => v i * eV n r (k + i) j) := by
  have h1 : cg p n v (fun j => sumN n fun i => v i * eV n r i j) := .of_eq fun j hj => by
    rw [← vec_sum n v j hj]
    exact sumN_congr n fun i hi => by rw [eV_small n r i hi j hj]
  refine (h1.stepI r k).trans (.of_eq fun j hj => ?_)
  rw [stepI_sum]
  refine sumN_congr n fun i hi => ?_
  unfold eV
  rw [stepI_add]
theorem timesV_vf (p : Int) (r a b : List Int) (h0 : 1 < r.length) (ha : a.length = r.length) (hb : b.length = r.length) : cg p r.length (vf (timesV p r a b)) (mulN r.length (vf r) (vf a) (vf b)) := by
  unfold timesV
  rw [if_neg (by omega)]
  refine (fold_vf p r b (zeros a.length, a) (by rw [zeros_len, ha]) ha).trans ?_
  rw [hb]
  refine cg.trans ?_ (cg.sum r.length fun k _ => (stepI_vec p r.length (vf r) (vf a) k).mul (vf b k))
  exact .of_eq fun j hj => by
    show vf (zeros a.length) j + sumN r.length (fun k => vf b k * stepI r.length (vf r) k (vf a) j) = sumN r.length (fun k => vf b k * stepI r.length (vf r) k (vf a) j)
    rw [vf_zeros]
    omega
end Vi

set_option maxRecDepth 100000
set_option maxHeartbeats 4000000
namespace Vi
/-- the worth of the first u figures -/
def valU (n : Nat) (r : Vec) (u : Nat) (c : List Int) : Vec := fun j => sumN u fun t => vf c t * eV n r t j
theorem vf_set (c : List Int) (t : Nat) (y : Int) (h : t < c.length) (k : Nat) : vf (c.set t y) k = if k = t then y else vf c k := by
  unfold vf
  by_cases e : k = t
  · subst e; simp [h]
  · rw [if_neg e]
    simp [List.getElem?_set_ne (fun z => e z.symm)]
theorem sumN_set (f : Nat → Int) (t : Nat) (z : Int) : ∀ m, t < m → sumN m (fun k => if k = t then z else f k) = sumN m f + (z - f t)
  | 0, h => by omega
  | m + 1, h => by
    simp only [sumN]
    by_cases e : t = m
    · subst e
      rw [if_pos rfl, sumN_congr (h := f) t fun k hk => if_neg (by omega)]
      omega
    · rw [sumN_set f t z m (by omega), if_neg (fun q => e q.symm)]
      omega
theorem val_set (p : Int) (n : Nat) (r : Vec) (u : Nat) (c : List Int) (t : Nat) (y : Int) (hu : t < u) (hc : t < c.length) : cg p n (valU n r u (c.set t (y % p))) (fun j => valU n r u c j + (y - vf c t) * eV n r t j) := fun j hj => by
  have e : valU n r u (c.set t (y % p)) j = valU n r u c j + (y % p - vf c t) * eV n r t j := by
    unfold valU
    rw [sumN_congr (h := fun k => if k = t then y % p * eV n r t j else vf c k * eV n r k j) u fun k hk => by
      rw [vf_set c t _ hc]
      by_cases q : k = t
      · subst q; rw [if_pos rfl, if_pos rfl]
      · rw [if_neg q, if_neg q], sumN_set (fun k => vf c k * eV n r k j) t _ u hu, Int.sub_mul]
  rw [e]
  refine md.mpr ?_
  have : valU n r u c j + (y % p - vf c t) * eV n r t j - (valU n r u c j + (y - vf c t) * eV n r t j) = (y % p - y) * eV n r t j := by
    rw [Int.sub_mul, Int.sub_mul, Int.sub_mul]
    omega
  rw [this]
  obtain ⟨q, hq⟩ := md.mp (Int.emod_emod_of_dvd y (Int.dvd_refl p))
  exact ⟨q * eV n r t j, by rw [hq, Int.mul_assoc]⟩
theorem innerC_val (p x : Int) (n : Nat) (r : Vec) (u : Nat) : ∀ (b : List Int) (k : Nat) (c : List Int), k + b.length ≤ u → u ≤ c.length →
    cg p n (valU n r u (innerC p x b k c)) (fun j => valU n r u c j + sumN b.length fun l => x * vf b l * eV n r (k + l) j)
  | [], k, c, _, _ => .of_eq fun j hj => by
    show valU n r u c j = valU n r u c j + 0
    omega
  | y :: b, k, c, h1, h2 => by
    have h1 : k + (b.length + 1) ≤ u := h1
    have ih := innerC_val p x n r u b (k + 1) (c.set k ((c.getD k 0 + x * y) % p)) (by omega) (by simp; omega)
    refine cg.trans ih ?_
    refine ((val_set p n r u c k (c.getD k 0 + x * y) (by omega) (by omega)).add (cg.refl _)).trans (.of_eq fun j hj => ?_)
    show valU n r u c j + (c.getD k 0 + x * y - vf c k) * eV n r k j + sumN b.length (fun l => x * vf b l * eV n r (k + 1 + l) j) = valU n r u c j + sumN (b.length + 1) (fun l => x * vf (y :: b) l * eV n r (k + l) j)
    rw [sumN_shift]
    have e3 : vf (y :: b) 0 = y := rfl
    have e4 : ∀ k, vf (y :: b) (k + 1) = vf b k := fun k => by unfold vf; simp
    have e5 : c.getD k 0 + x * y - vf c k = x * y := by unfold vf; omega
    rw [e3, e5, sumN_congr (f := fun l => x * vf (y :: b) (l + 1) * eV n r (k + (l + 1)) j) (h := fun l => x * vf b l * eV n r (k + 1 + l) j) b.length fun l _ => by rw [e4, show k + (l + 1) = k + 1 + l by omega], show k + 0 = k from rfl]
    omega
theorem innerR_val (p x : Int) (n : Nat) (r : Vec) (u : Nat) : ∀ (b : List Int) (k : Nat) (c : List Int), k + b.length ≤ u → u ≤ c.length →
    cg p n (valU n r u (innerR p x b k c)) (fun j => valU n r u c j - sumN b.length fun l => x * vf b l * eV n r (k + l) j)
  | [], k, c, _, _ => .of_eq fun j hj => by
    show valU n r u c j = valU n r u c j - 0
    omega
  | y :: b, k, c, h1, h2 => by
    have h1 : k + (b.length + 1) ≤ u := h1
    have ih := innerR_val p x n r u b (k + 1) (c.set k ((c.getD k 0 - x * y) % p)) (by omega) (by simp; omega)
    refine cg.trans ih ?_
    have hs := val_set p n r u c k (c.getD k 0 - x * y) (by omega) (by omega)
    have e4 : ∀ k, vf (y :: b) (k + 1) = vf b k := fun k => by unfold vf; simp
    have e5 : c.getD k 0 - x * y - vf c k = -(x * y) := by unfold vf; omega
    rw [e5] at hs
    have hn : (fun j => valU n r u (c.set k ((c.getD k 0 - x * y) % p)) j - sumN b.length fun l => x * vf b l * eV n r (k + 1 + l) j) = fun j => valU n r u (c.set k ((c.getD k 0 - x * y) % p)) j + -(sumN b.length fun l => x * vf b l * eV n r (k + 1 + l) j) := funext fun j => by omega
    rw [hn]
    refine (hs.add (cg.refl _)).trans (.of_eq fun j hj => ?_)
    show valU n r u c j + -(x * y) * eV n r k j + -(sumN b.length fun l => x * vf b l * eV n r (k + 1 + l) j) = valU n r u c j - sumN (b.length + 1) (fun l => x * vf (y :: b) l * eV n r (k + l) j)
    rw [sumN_shift]
    have e3 : vf (y :: b) 0 = y := rfl
    rw [e3, sumN_congr (f := fun l => x * vf (y :: b) (l + 1) * eV n r (k + (l + 1)) j) (h := fun l => x * vf b l * eV n r (k + 1 + l) j) b.length fun l _ => by rw [e4, show k + (l + 1) = k + 1 + l by omega], show k + 0 = k from rfl, Int.neg_mul]
    omega
theorem outerC_val (p : Int) (b : List Int) (n : Nat) (r : Vec) (u : Nat) : ∀ (a : List Int) (k : Nat) (c : List Int), k + a.length + b.length ≤ u + 1 → u ≤ c.length → 0 < b.length →
    cg p n (valU n r u (outerC p b a k c)) (fun j => valU n r u c j + sumN a.length fun i => sumN b.length fun l => vf a i * vf b l * eV n r (k + i + l) j)
  | [], k, c, _, _, _ => .of_eq fun j hj => by
    show valU n r u c j = valU n r u c j + 0
    omega
  | x :: a, k, c, h1, h2, h3 => by
    have h1 : k + (a.length + 1) + b.length ≤ u + 1 := h1
    have ih := outerC_val p b n r u a (k + 1) (innerC p x b k c) (by omega) (by rw [innerC_len]; exact h2) h3
    refine cg.trans ih ?_
    refine ((innerC_val p x n r u b k c (by omega) h2).add (cg.refl _)).trans (.of_eq fun j hj => ?_)
    show valU n r u c j + sumN b.length (fun l => x * vf b l * eV n r (k + l) j) + sumN a.length (fun i => sumN b.length fun l => vf a i * vf b l * eV n r (k + 1 + i + l) j) = valU n r u c j + sumN (a.length + 1) (fun i => sumN b.length fun l => vf (x :: a) i * vf b l * eV n r (k + i + l) j)
    rw [sumN_shift]
    have e3 : vf (x :: a) 0 = x := rfl
    have e4 : ∀ k, vf (x :: a) (k + 1) = vf a k := fun k => by unfold vf; simp
    rw [e3, sumN_congr (f := fun i => sumN b.length fun l => vf (x :: a) (i + 1) * vf b l * eV n r (k + (i + 1) + l) j) (h := fun i => sumN b.length fun l => vf a i * vf b l * eV n r (k + 1 + i + l) j) a.length fun i _ => sumN_congr b.length fun l _ => by rw [e4, show k + (i + 1) + l = k + 1 + i + l by omega], show k + 0 = k from rfl]
    omega
end Vi

set_option maxRecDepth 100000
set_option maxHeartbeats 4000000
namespace Vi
theorem valU_congr {n : Nat} {r : Vec} {u : Nat} {c d : List Int} (h : ∀ k, k < u → vf c k = vf d k) (j : Nat) : valU n r u c j = valU n r u d j :=
  sumN_congr u fun k hk => by rw [h k hk]
/-- x raised n + m times, by the rule -/
theorem eV_top (n : Nat) (r : Vec) (hn : 0 < n) (m : Nat) : ∀ j, j < n → eV n r (n + m) j = - sumN n fun l => r l * eV n r (m + l) j := by
  have e0 : ∀ j, j < n → eV n r n j = - r j := fun j hj => by
    obtain ⟨k, rfl⟩ : ∃ k, n = k + 1 := ⟨n - 1, by omega⟩
    show (if j = 0 then 0 else eV (k + 1) r k (j - 1)) - eV (k + 1) r k (k + 1 - 1) * r j = _
    rw [eV_small _ _ k (by omega) (k + 1 - 1) (by omega)]
    have e1 : dl k (k + 1 - 1) = 1 := if_pos (by omega)
    rw [e1, Int.one_mul]
    by_cases h : j = 0
    · rw [if_pos h]; omega
    · rw [if_neg h, eV_small _ _ k (by omega) (j - 1) (by omega)]
      have e2 : dl k (j - 1) = 0 := if_neg (by omega)
      rw [e2]; omega
  have e1 : cg 0 n (eV n r n) (fun j => sumN n fun l => (- r l) * eV n r l j) := .of_eq fun j hj => by
    rw [e0 j hj, sumN_congr (h := fun l => (- r l) * dl l j) n fun l hl => by rw [eV_small n r l hl j hj], vec_sum n (fun l => - r l) j hj]
  have e2 := e1.stepI r m
  intro j hj
  have e3 := e2 j hj
  rw [Int.emod_zero, Int.emod_zero] at e3
  have e4 : eV n r (n + m) = stepI n r m (eV n r n) := by
    unfold eV
    rw [Nat.add_comm, stepI_add]
  rw [e4, e3, stepI_sum, ← sumN_neg]
  refine sumN_congr n fun l hl => ?_
  have e5 : stepI n r m (eV n r l) = eV n r (m + l) := by
    unfold eV
    rw [stepI_add]
  rw [e5, Int.neg_mul]
theorem innerR_far (p x : Int) (t : Nat) : ∀ (b : List Int) (k : Nat) (c : List Int), k + b.length ≤ t → vf (innerR p x b k c) t = vf c t
  | [], _, _, _ => rfl
  | y :: b, k, c, h => by
    have h : k + (b.length + 1) ≤ t := h
    show vf (innerR p x b (k + 1) (c.set k _)) t = _
    rw [innerR_far p x t b (k + 1) _ (by omega)]
    unfold vf
    rw [List.getD_eq_getElem?_getD, List.getElem?_set_ne (by omega), ← List.getD_eq_getElem?_getD]
theorem redC_val (p : Int) (r : List Int) (h0 : 0 < r.length) : ∀ (m : Nat) (c : List Int), r.length + m ≤ c.length → cg p r.length (valU r.length (vf r) r.length (redC p r m c)) (valU r.length (vf r) (r.length + m) c)
  | 0, c, _ => cg.refl _
  | m + 1, c, h => by
    have h : r.length + (m + 1) ≤ c.length := h
    have ih := redC_val p r h0 m (innerR p (c.getD (r.length + m) 0) r m c) (by rw [innerR_len]; omega)
    refine cg.trans ih ?_
    have hv := innerR_val p (c.getD (r.length + m) 0) r.length (vf r) (r.length + m) r m c (by omega) (by omega)
    refine hv.trans (.of_eq fun j hj => ?_)
    have e : valU r.length (vf r) (r.length + (m + 1)) c j = valU r.length (vf r) (r.length + m) c j + vf c (r.length + m) * eV r.length (vf r) (r.length + m) j := rfl
    rw [e, eV_top r.length (vf r) h0 m j hj, Int.mul_neg, ← sumN_mul]
    have e2 : (sumN r.length fun l => c.getD (r.length + m) 0 * vf r l * eV r.length (vf r) (m + l) j) = sumN r.length fun k => vf c (r.length + m) * (vf r k * eV r.length (vf r) (m + k) j) := sumN_congr _ fun l _ => by
      rw [Int.mul_assoc]; rfl
    rw [e2]
    omega
theorem vf_take (c : List Int) (n j : Nat) (h : j < n) : vf (c.take n) j = vf c j := by
  unfold vf
  rw [List.getD_eq_getElem?_getD, List.getElem?_take_of_lt h, ← List.getD_eq_getElem?_getD]
theorem val_low (n : Nat) (r : Vec) (c : List Int) (j : Nat) (h : j < n) : valU n r n c j = vf c j := by
  unfold valU
  rw [sumN_congr (h := fun t => vf c t * dl t j) n fun t ht => by rw [eV_small n r t ht j h], vec_sum n (vf c) j h]
theorem val_zero (n : Nat) (r : Vec) (u k j : Nat) : valU n r u (zeros k) j = 0 := by
  unfold valU
  rw [sumN_congr (h := fun _ => 0) u fun t _ => by rw [vf_zeros, Int.zero_mul], sumN_zero]
theorem prodV_vf (p : Int) (r a b : List Int) (h0 : 0 < r.length) (ha : a.length = r.length) (hb : b.length = r.length) : cg p r.length (vf (prodV p r a b)) (mulN r.length (vf r) (vf a) (vf b)) := by
  unfold prodV
  have hl : (outerC p b a 0 (zeros (2 * r.length - 1))).length = 2 * r.length - 1 := by rw [outerC_len, zeros_len]
  have e1 : cg p r.length (vf ((redC p r (r.length - 1) (outerC p b a 0 (zeros (2 * r.length - 1)))).take r.length)) (valU r.length (vf r) r.length (redC p r (r.length - 1) (outerC p b a 0 (zeros (2 * r.length - 1))))) := .of_eq fun j hj => by
    rw [vf_take _ _ _ hj, val_low _ _ _ _ hj]
  refine e1.trans ((redC_val p r h0 (r.length - 1) _ (by rw [hl]; omega)).trans ?_)
  refine (outerC_val p b r.length (vf r) (r.length + (r.length - 1)) a 0 (zeros (2 * r.length - 1)) (by omega) (by rw [zeros_len]; omega) (by omega)).trans (.of_eq fun j hj => ?_)
  rw [val_zero, ha, hb, Int.zero_add]
  unfold mulN
  rw [sumN_swap]
  refine sumN_congr _ fun l _ => ?_
  rw [← sumN_mul]
  refine sumN_congr _ fun i _ => ?_
  rw [show 0 + i + l = l + i by omega, ← Int.mul_assoc, Int.mul_comm (vf b l)]
/-- the product as a sum -/
theorem mulN_comm (n : Nat) (r a b : Vec) (j : Nat) : mulN n r a b j = mulN n r b a j := by
  unfold mulN
  rw [sumN_congr (h := fun k => sumN n fun i => b k * (a i * eV n r (k + i) j)) n fun k _ => by rw [sumN_mul], sumN_swap]
  refine sumN_congr n fun k _ => ?_
  rw [← sumN_mul]
  refine sumN_congr n fun i _ => ?_
  rw [Int.mul_left_comm, Nat.add_comm]
theorem mulN_cg {p : Int} {n : Nat} {r a a' b b' : Vec} (h : cg p n a a') (k : cg p n b b') : cg p n (mulN n r a b) (mulN n r a' b') := by
  have h1 : cg p n (mulN n r a b) (mulN n r a b') := fun j hj => by
    unfold mulN
    refine md.mpr ?_
    have : ∀ m, (∀ i, i < m → b i % p = b' i % p) → p ∣ sumN m (fun k => b k * sumN n fun i => a i * eV n r (k + i) j) - sumN m (fun k => b' k * sumN n fun i => a i * eV n r (k + i) j) := by
      intro m
      induction m with
      | zero => intro _; exact ⟨0, by simp [sumN]⟩
      | succ m ih =>
        intro hh
        obtain ⟨x, hx⟩ := ih fun i hi => hh i (by omega)
        obtain ⟨y, hy⟩ := md.mp (hh m (by omega))
        refine ⟨x + y * sumN n (fun i => a i * eV n r (m + i) j), ?_⟩
        simp only [sumN]
        rw [Int.mul_add, ← hx, ← Int.mul_assoc, ← hy, Int.sub_mul]
        omega
    exact this n fun i hi => k i hi
  have h2 : cg p n (mulN n r a b') (mulN n r a' b') := fun j hj => by
    rw [mulN_comm n r a b' j, mulN_comm n r a' b' j]
    unfold mulN
    refine md.mpr ?_
    have : ∀ m, (∀ i, i < m → a i % p = a' i % p) → p ∣ sumN m (fun k => a k * sumN n fun i => b' i * eV n r (k + i) j) - sumN m (fun k => a' k * sumN n fun i => b' i * eV n r (k + i) j) := by
      intro m
      induction m with
      | zero => intro _; exact ⟨0, by simp [sumN]⟩
      | succ m ih =>
        intro hh
        obtain ⟨x, hx⟩ := ih fun i hi => hh i (by omega)
        obtain ⟨y, hy⟩ := md.mp (hh m (by omega))
        refine ⟨x + y * sumN n (fun i => b' i * eV n r (m + i) j), ?_⟩
        simp only [sumN]
        rw [Int.mul_add, ← hx, ← Int.mul_assoc, ← hy, Int.sub_mul]
        omega
    exact this n fun i hi => h i hi
  exact h1.trans h2
/-- a product times a third one: a sum over all three -/
theorem mulN_three (n : Nat) (r a b c : Vec) (j : Nat) (hj : j < n) : mulN n r (mulN n r a b) c j = sumN n fun k => c k * sumN n fun l => b l * sumN n fun i => a i * eV n r (k + (l + i)) j := by
  unfold mulN
  refine sumN_congr n fun k _ => ?_
  congr 1
  have e1 : cg 0 n (fun j => sumN n fun l => b l * sumN n fun i => a i * eV n r (l + i) j) (fun j => sumN n fun i => (sumN n fun l => b l * sumN n fun i' => a i' * eV n r (l + i') i) * eV n r i j) := .of_eq fun j hj => by
    rw [← vec_sum n (fun j => sumN n fun l => b l * sumN n fun i => a i * eV n r (l + i) j) j hj]
    exact sumN_congr n fun i hi => by rw [eV_small n r i hi j hj]
  have e2 := e1.stepI r k
  have e3 := e2 j hj
  rw [Int.emod_zero, Int.emod_zero, stepI_sum, stepI_sum] at e3
  have e4 : ∀ t, stepI n r k (eV n r t) = eV n r (k + t) := fun t => by
    unfold eV
    rw [stepI_add]
  simp only [e4] at e3
  rw [← e3]
  refine sumN_congr n fun l _ => ?_
  congr 1
  rw [stepI_sum]
  simp only [e4]
theorem mulN_assoc (n : Nat) (r a b c : Vec) (j : Nat) (hj : j < n) : mulN n r (mulN n r a b) c j = mulN n r a (mulN n r b c) j := by
  rw [mulN_comm n r a (mulN n r b c) j, mulN_three n r a b c j hj, mulN_three n r b c a j hj]
  have s : ∀ (x y z : Vec) (e : Nat → Nat → Nat → Int), (sumN n fun k => x k * sumN n fun l => y l * sumN n fun i => z i * e k l i) = sumN n fun k => sumN n fun l => sumN n fun i => x k * (y l * (z i * e k l i)) := fun x y z e => by
    refine sumN_congr n fun k _ => ?_
    rw [← sumN_mul]
    refine sumN_congr n fun l _ => ?_
    rw [← sumN_mul, ← sumN_mul]
  rw [s, s, sumN_swap]
  have t : ∀ F : Nat → Nat → Nat → Int, (sumN n fun j => sumN n fun i => F j i j) = (sumN n fun j => sumN n fun i => F j i j) := fun _ => rfl
  -- c b a  to  a c b
  have e1 : ∀ l, (sumN n fun k => sumN n fun i => c k * (b l * (a i * eV n r (k + (l + i)) j))) = sumN n fun i => sumN n fun k => c k * (b l * (a i * eV n r (k + (l + i)) j)) := fun l => sumN_swap _ _ _
  rw [sumN_congr n fun l _ => e1 l, sumN_swap]
  refine sumN_congr n fun i _ => ?_
  rw [sumN_swap]
  refine sumN_congr n fun k _ => sumN_congr n fun l _ => ?_
  rw [show k + (l + i) = i + (k + l) by omega, Int.mul_left_comm (a i), Int.mul_left_comm (a i)]
theorem mulN_add (n : Nat) (r a b c : Vec) (j : Nat) : mulN n r a (fun i => b i + c i) j = mulN n r a b j + mulN n r a c j := by
  unfold mulN
  rw [← sumN_add]
  refine sumN_congr n fun k _ => ?_
  rw [Int.add_mul]
theorem mulN_one (n : Nat) (r a : Vec) (j : Nat) (hj : j < n) : mulN n r a (dl 0) j = a j := by
  unfold mulN
  have e0 : (sumN n fun k => dl 0 k * sumN n fun i => a i * eV n r (k + i) j) = sumN n fun k => if k = 0 then (sumN n fun i => a i * eV n r i j) else 0 := sumN_congr n fun k _ => by
    unfold dl
    by_cases h : k = 0
    · subst h; rw [if_pos rfl, if_pos rfl, Int.one_mul]; simp
    · rw [if_neg h, if_neg h, Int.zero_mul]
  rw [e0, sumN_one _ _ _ (by omega)]
  rw [sumN_congr (h := fun i => a i * dl i j) n fun i hi => by rw [eV_small n r i hi j hj], vec_sum n a j hj]
end Vi

set_option maxRecDepth 100000
set_option maxHeartbeats 4000000
namespace Vi
/-! ### fields as a type, their numbers as a ring -/
/-- the fields that the laws draw: prime, rule, and c, d: d x + c is a maker -/
def TABLE : List (Nat × List Int × Nat × Nat) := [
  (2, [1, 1], 0, 1),
  (2, [1, 0, 1], 0, 1),
  (2, [1, 1, 0], 0, 1),
  (3, [1, 0], 1, 1),
  (3, [2, 1], 0, 1),
  (3, [2, 2], 0, 1),
  (2, [1, 0, 0, 1], 0, 1),
  (2, [1, 1, 0, 0], 0, 1),
  (2, [1, 1, 1, 1], 1, 1),
  (5, [0], 2, 1),
  (5, [1], 3, 1),
  (5, [2], 0, 1),
  (5, [3], 0, 1),
  (5, [4], 1, 1),
  (3, [0], 2, 1),
  (3, [1], 0, 1),
  (3, [2], 1, 1),
  (5, [1, 1], 2, 1),
  (5, [1, 4], 1, 1),
  (5, [2, 0], 1, 1),
  (5, [2, 1], 0, 1),
  (5, [2, 4], 0, 1),
  (5, [3, 0], 2, 1),
  (5, [3, 2], 0, 1),
  (5, [3, 3], 0, 1),
  (5, [4, 2], 3, 1),
  (5, [4, 3], 1, 1),
  (3, [1, 0, 2], 0, 1),
  (3, [1, 1, 2], 0, 1),
  (3, [1, 2, 0], 0, 1),
  (3, [1, 2, 1], 0, 1),
  (3, [2, 0, 1], 2, 1),
  (3, [2, 1, 1], 1, 1),
  (3, [2, 2, 0], 0, 2),
  (3, [2, 2, 2], 1, 1),
  (2, [0], 1, 1),
  (2, [1], 0, 1),
  (7, [0], 3, 1),
  (7, [1], 4, 1),
  (7, [2], 0, 1),
  (7, [3], 1, 1),
  (7, [4], 0, 1),
  (7, [5], 1, 1),
  (7, [6], 2, 1),
  (7, [1, 0], 2, 1),
  (7, [1, 3], 4, 1),
  (7, [1, 4], 1, 1),
  (7, [2, 0], 1, 1),
  (7, [2, 2], 3, 1),
  (7, [2, 5], 1, 1),
  (7, [3, 1], 0, 1),
  (7, [3, 2], 0, 1),
  (7, [3, 5], 0, 1),
  (7, [3, 6], 0, 1),
  (7, [4, 0], 1, 1),
  (7, [4, 1], 3, 1),
  (7, [4, 6], 2, 1),
  (7, [5, 2], 0, 1),
  (7, [5, 3], 0, 1),
  (7, [5, 4], 0, 1),
  (7, [5, 5], 0, 1),
  (7, [6, 1], 3, 1),
  (7, [6, 3], 4, 1),
  (7, [6, 4], 1, 1),
  (7, [6, 6], 2, 1),
  (2, [1, 0, 0, 1, 0], 0, 1),
  (2, [1, 0, 1, 0, 0], 0, 1),
  (2, [1, 0, 1, 1, 1], 0, 1),
  (2, [1, 1, 0, 1, 1], 0, 1),
  (2, [1, 1, 1, 0, 1], 0, 1),
  (2, [1, 1, 1, 1, 0], 0, 1),
  (2, [1, 1, 0, 0, 0, 0], 0, 1),
  (3, [2, 1, 0, 0], 0, 1)]
structure Fld where
  p : Nat
  r : List Int
  c : Nat
  d : Nat
  ok : (p, r, c, d) ∈ TABLE
def okF (t : Nat × List Int × Nat × Nat) : Bool := (t.1 == 2 || t.1 == 3 || t.1 == 5 || t.1 == 7) && (Nat.ble 1 t.2.1.length && (Nat.ble t.2.1.length 6 && (Nat.ble (t.1 ^ t.2.1.length) 81 && (t.2.1.all fun x => decide (0 ≤ x) && decide (x < t.1)))))
theorem table_ok : TABLE.all okF = true := by decide +kernel
namespace Fld
variable (f : Fld)
def n : Nat := f.r.length
def q : Nat := f.p ^ f.n
theorem okF : okF (f.p, f.r, f.c, f.d) = true := List.all_eq_true.mp table_ok _ f.ok
theorem p_cases : f.p = 2 ∨ f.p = 3 ∨ f.p = 5 ∨ f.p = 7 := by
  have := f.okF
  simp [Vi.okF] at this
  omega
theorem n_pos : 0 < f.n := by
  have := f.okF
  simp [Vi.okF] at this
  have h := this.2.1
  show 0 < f.r.length
  exact List.length_pos_iff.mpr (by intro e; simp [e] at h)
theorem n_le : f.n ≤ 6 := by
  have := f.okF
  simp [Vi.okF] at this
  exact this.2.2.1
theorem q_le : f.q ≤ 81 := by
  have := f.okF
  simp [Vi.okF] at this
  exact this.2.2.2.1
theorem r_in : inV f.p f.n f.r := by
  have := f.okF
  simp [Vi.okF] at this
  exact ⟨rfl, fun x hx => this.2.2.2.2 x hx⟩
theorem p_pos : (0 : Int) < f.p := by
  have := f.p_cases
  omega
theorem p_two : 2 ≤ f.p := by
  have := f.p_cases
  omega
theorem p_le : f.p ≤ 7 := by
  have := f.p_cases
  omega
end Fld
structure Num (f : Fld) where
  v : List Int
  ok : inV f.p f.n v
namespace Num
variable {f : Fld}
theorem ext_v {a b : Num f} (h : a.v = b.v) : a = b := by
  cases a; cases b; cases h; rfl
instance : DecidableEq (Num f) := fun a b => if h : a.v = b.v then isTrue (ext_v h) else isFalse fun e => h (congrArg v e)
theorem len (a : Num f) : a.v.length = f.n := a.ok.1
theorem ext_cg {a b : Num f} (h : cg f.p f.n (vf a.v) (vf b.v)) : a = b := ext_v (list_eq a.ok b.ok h)
theorem whole_in (f : Fld) (x : Int) : inV f.p f.n (wholeV f.p f.n x) := by
  have h0 := f.n_pos
  refine ⟨by simp [wholeV, zeros]; omega, fun y hy => ?_⟩
  rcases List.mem_cons.mp hy with rfl | hy
  · exact ⟨Int.emod_nonneg _ (by have := f.p_pos; omega), Int.emod_lt_of_pos _ f.p_pos⟩
  · rw [List.eq_of_mem_replicate hy]; exact ⟨by decide, f.p_pos⟩
theorem zip_in {f : Fld} (g : Int → Int → Int) (a b : Num f) : inV f.p f.n (List.zipWith (fun x y => (g x y) % f.p) a.v b.v) := by
  refine ⟨by simp [a.len, b.len], fun y hy => ?_⟩
  obtain ⟨i, hi, rfl⟩ := List.mem_iff_getElem.mp hy
  simp only [List.getElem_zipWith]
  exact ⟨Int.emod_nonneg _ (by have := f.p_pos; omega), Int.emod_lt_of_pos _ f.p_pos⟩
def wh (f : Fld) (x : Int) : Num f := ⟨wholeV f.p f.n x, whole_in f x⟩
instance : Add (Num f) := ⟨fun a b => ⟨addV f.p a.v b.v, zip_in (· + ·) a b⟩⟩
instance : Sub (Num f) := ⟨fun a b => ⟨subV f.p a.v b.v, zip_in (· - ·) a b⟩⟩
instance : Neg (Num f) := ⟨fun a => wh f 0 - a⟩
instance : Mul (Num f) := ⟨fun a b => ⟨prodV f.p f.r a.v b.v, prodV_in f.p_pos f.r a.v b.v f.n_pos⟩⟩
instance : NatCast (Num f) := ⟨fun k => wh f k⟩
instance : IntCast (Num f) := ⟨fun k => wh f k⟩
instance {k : Nat} : OfNat (Num f) k := ⟨wh f k⟩
def npow (a : Num f) : Nat → Num f
  | 0 => 1
  | k + 1 => npow a k * a
instance : HPow (Num f) Nat (Num f) := ⟨npow⟩
instance : SMul Nat (Num f) := ⟨fun k a => (k : Num f) * a⟩
instance : SMul Int (Num f) := ⟨fun k a => (k : Num f) * a⟩
theorem add_v (a b : Num f) : (a + b).v = addV f.p a.v b.v := rfl
theorem sub_v (a b : Num f) : (a - b).v = subV f.p a.v b.v := rfl
theorem mul_v (a b : Num f) : (a * b).v = prodV f.p f.r a.v b.v := rfl
theorem cast_v (k : Int) : ((k : Int) : Num f).v = wholeV f.p f.n k := rfl
theorem ncast_v (k : Nat) : ((k : Nat) : Num f).v = wholeV f.p f.n k := rfl
theorem one_v : (1 : Num f).v = wholeV f.p f.n 1 := rfl
theorem zero_v : (0 : Num f).v = zeros f.n := by
  show wholeV f.p f.n 0 = _
  have h0 := f.n_pos
  unfold wholeV zeros
  rw [Int.zero_emod, ← List.replicate_succ, Nat.sub_add_cancel h0]
theorem neg_def (a : Num f) : -a = 0 - a := rfl
/-! figures alike by p -/
theorem add_cg (a b : Num f) : cg f.p f.n (vf (a + b).v) (fun j => vf a.v j + vf b.v j) := vf_add a.v b.v f.n a.len b.len
theorem sub_cg (a b : Num f) : cg f.p f.n (vf (a - b).v) (fun j => vf a.v j - vf b.v j) := fun j hj => by
  rw [sub_v]
  unfold subV vf
  have h1 : j < a.v.length := by rw [a.len]; exact hj
  have h2 : j < b.v.length := by rw [b.len]; exact hj
  simp [h1, h2, List.getElem?_zipWith]
theorem mul_cg (a b : Num f) : cg f.p f.n (vf (a * b).v) (mulN f.n (vf f.r) (vf a.v) (vf b.v)) := prodV_vf f.p f.r a.v b.v f.n_pos a.len b.len
theorem wh_cg (x : Int) : cg f.p f.n (vf (wh f x).v) (fun j => x * dl 0 j) := fun j hj => by
  show (wholeV f.p f.n x).getD j 0 % (f.p : Int) = x * dl 0 j % f.p
  unfold wholeV dl
  cases j with
  | zero => simp
  | succ j =>
    have := vf_zeros (f.n - 1) j
    unfold vf at this
    rw [List.getD_cons_succ, this, if_neg (by omega), Int.mul_zero]
theorem zero_cg : cg f.p f.n (vf (0 : Num f).v) (fun _ => 0) := (wh_cg (0 : Int)).trans (.of_eq fun j _ => Int.zero_mul _)
theorem one_cg : cg f.p f.n (vf (1 : Num f).v) (dl 0) := (wh_cg (1 : Int)).trans (.of_eq fun j _ => Int.one_mul _)
theorem add_comm' (a b : Num f) : a + b = b + a := ext_cg ((add_cg a b).trans ((cg.of_eq fun j _ => Int.add_comm _ _).trans (add_cg b a).symm))
theorem add_assoc' (a b c : Num f) : a + b + c = a + (b + c) := ext_cg ((add_cg _ c).trans (((add_cg a b).add (cg.refl _)).trans ((cg.of_eq fun j _ => Int.add_assoc _ _ _).trans (((cg.refl _).add (add_cg b c)).symm.trans (add_cg a _).symm))))
theorem add_zero' (a : Num f) : a + 0 = a := ext_cg ((add_cg a 0).trans (((cg.refl _).add zero_cg).trans (cg.of_eq fun j _ => Int.add_zero _)))
theorem mul_comm' (a b : Num f) : a * b = b * a := ext_cg ((mul_cg a b).trans ((cg.of_eq fun j _ => mulN_comm _ _ _ _ j).trans (mul_cg b a).symm))
theorem mul_assoc' (a b c : Num f) : a * b * c = a * (b * c) := ext_cg ((mul_cg _ c).trans ((mulN_cg (mul_cg a b) (cg.refl _)).trans ((cg.of_eq fun j hj => mulN_assoc _ _ _ _ _ j hj).trans ((mulN_cg (cg.refl _) (mul_cg b c)).symm.trans (mul_cg a _).symm))))
theorem mul_one' (a : Num f) : a * 1 = a := ext_cg ((mul_cg a 1).trans ((mulN_cg (cg.refl _) one_cg).trans (cg.of_eq fun j hj => mulN_one _ _ _ j hj)))
theorem distrib' (a b c : Num f) : a * (b + c) = a * b + a * c := ext_cg ((mul_cg a _).trans ((mulN_cg (cg.refl _) (add_cg b c)).trans ((cg.of_eq fun j _ => mulN_add _ _ _ _ _ j).trans (((mul_cg a b).add (mul_cg a c)).symm.trans (add_cg _ _).symm))))
theorem zero_mul' (a : Num f) : 0 * a = 0 := by
  rw [mul_comm']
  refine ext_cg ((mul_cg a 0).trans ((mulN_cg (cg.refl _) zero_cg).trans ((cg.of_eq fun j _ => ?_).trans zero_cg.symm)))
  unfold mulN
  rw [sumN_congr (h := fun _ => 0) _ fun k _ => Int.zero_mul _, sumN_zero]
theorem cast_add' (x y : Int) : wh f (x + y) = wh f x + wh f y := ext_cg ((wh_cg _).trans ((cg.of_eq fun j _ => Int.add_mul _ _ _).trans (((wh_cg x).add (wh_cg y)).symm.trans (add_cg _ _).symm)))
theorem sub_eq' (a b : Num f) : a - b = a + -b := by
  rw [neg_def]
  refine ext_cg ((sub_cg a b).trans ?_)
  refine ((cg.refl _).add (((sub_cg 0 b).trans ?_))).symm.trans (add_cg _ _).symm |> fun h => (cg.of_eq (v := fun j => vf a.v j + -(vf b.v j)) fun j _ => by omega).trans h
  intro j hj
  have := zero_cg (f := f) j hj
  show (vf (0 : Num f).v j - vf b.v j) % (f.p : Int) = (-(vf b.v j)) % f.p
  rw [Int.sub_emod, this]
  show (0 % (f.p : Int) - vf b.v j % f.p) % f.p = _
  rw [← Int.sub_emod]
  congr 1
  omega
theorem neg_add' (a : Num f) : -a + a = 0 := by
  rw [neg_def]
  refine ext_cg ((add_cg _ a).trans (((sub_cg 0 a).add (cg.refl _)).trans ?_))
  exact cg.of_eq fun j _ => by
    show vf (0 : Num f).v j - vf a.v j + vf a.v j = vf (0 : Num f).v j
    omega
theorem cast_neg' (x : Int) : wh f (-x) = - wh f x := by
  have h := cast_add' (f := f) (-x) x
  rw [show -x + x = 0 by omega] at h
  have h2 := neg_add' (wh f x)
  have h3 : wh f (-x) + wh f x + - wh f x = -wh f x + wh f x + - wh f x := by rw [← h, h2]; rfl
  rwa [add_assoc', add_assoc', add_comm' (wh f x), h2, add_zero', add_zero'] at h3
instance ring (f : Fld) : Lean.Grind.CommRing (Num f) where
  add_zero := add_zero'
  add_comm := add_comm'
  add_assoc := add_assoc'
  mul_assoc := mul_assoc'
  mul_one := mul_one'
  one_mul := fun a => by rw [mul_comm', mul_one']
  left_distrib := distrib'
  right_distrib := fun a b c => by rw [mul_comm', distrib', mul_comm' c, mul_comm' c]
  zero_mul := zero_mul'
  mul_zero := fun a => by rw [mul_comm', zero_mul']
  pow_zero := fun _ => rfl
  pow_succ := fun _ _ => rfl
  ofNat_succ := fun a => cast_add' (f := f) a 1
  ofNat_eq_natCast := fun _ => rfl
  nsmul_eq_natCast_mul := fun _ _ => rfl
  neg_add_cancel := neg_add'
  sub_eq_add_neg := sub_eq'
  neg_zsmul := fun i a => by
    show wh f (-i) * a = -(wh f i * a)
    have h : wh f (-i) * a + wh f i * a = 0 := by
      have e : (wh f (-i) + wh f i) * a = 0 := by rw [← cast_add', show -i + i = 0 by omega]; exact zero_mul' a
      rw [mul_comm', distrib', mul_comm' a, mul_comm' a] at e
      exact e
    have h3 : wh f (-i) * a + wh f i * a + -(wh f i * a) = -(wh f i * a) := by rw [h, add_comm', add_zero']
    rwa [add_assoc', add_comm' (wh f i * a), neg_add', add_zero'] at h3
  zsmul_natCast_eq_nsmul := fun _ _ => rfl
  intCast_ofNat := fun _ => rfl
  intCast_neg := cast_neg'
  mul_comm := mul_comm'
example (a b c : Num f) : a * (b + c) - c * a = b * a := by grind
end Num
end Vi

set_option maxRecDepth 100000
set_option maxHeartbeats 4000000
namespace Vi
/-! ### a maker's powers -/
/-- a row times d x + c -/
def stpN (p l c d : Nat) : List Nat → List Nat → Nat → List Nat
  | [], _, _ => []
  | _ :: _, [], _ => []
  | x :: xs, s :: ss, prev => Nat.mod (Nat.add (Nat.mul d (Nat.add prev (Nat.mul l s))) (Nat.mul c x)) p :: stpN p l c d xs ss x
def lastN : List Nat → Nat
  | [] => 0
  | x :: xs => match xs with
    | [] => x
    | _ :: _ => lastN xs
def eqN : List Nat → List Nat → Bool
  | [], [] => true
  | x :: a, y :: b => match Nat.beq x y with
    | true => eqN a b
    | false => false
  | _, _ => false
theorem eqN_iff : ∀ {a b : List Nat}, eqN a b = true ↔ a = b
  | [], [] => by simp [eqN]
  | [], _ :: _ => by simp [eqN]
  | _ :: _, [] => by simp [eqN]
  | x :: a, y :: b => by
    rw [eqN]
    cases h : Nat.beq x y with
    | true =>
      have := Nat.eq_of_beq_eq_true h
      subst this
      simp [eqN_iff]
    | false =>
      have : x ≠ y := fun e => by subst e; simp at h
      simp [this]
/-- not back at o in the first k turns, then back -/
def turnN (p c d : Nat) (s o : List Nat) : Nat → List Nat → Bool
  | 0, x => eqN x o
  | k + 1, x => match eqN x o with
    | true => false
    | false => turnN p c d s o k (stpN p (lastN x) c d x s 0)
def negN (p : Nat) (r : List Int) : List Nat := r.map fun x => Nat.mod (Nat.sub p x.toNat) p
def oneN (n : Nat) : List Nat := 1 :: List.replicate (n - 1) 0
def chkF (t : Nat × List Int × Nat × Nat) : Bool :=
  let s := negN t.1 t.2.1
  let o := oneN t.2.1.length
  turnN t.1 t.2.2.1 t.2.2.2 s o (t.1 ^ t.2.1.length - 2) (stpN t.1 (lastN o) t.2.2.1 t.2.2.2 o s 0)
theorem table_chk : TABLE.all chkF = true := by decide +kernel
end Vi

set_option maxRecDepth 100000
set_option maxHeartbeats 4000000
namespace Vi
def toV (x : List Nat) : List Int := x.map Int.ofNat
theorem stpN_len (p l c d : Nat) : ∀ (x s : List Nat) (prev : Nat), x.length = s.length → (stpN p l c d x s prev).length = x.length
  | [], _, _, _ => rfl
  | _ :: _, [], _, h => by simp at h
  | x :: xs, s :: ss, prev, h => by
    show (stpN p l c d xs ss x).length + 1 = xs.length + 1
    rw [stpN_len p l c d xs ss x (by simpa using h)]
theorem stpN_get (p l c d : Nat) : ∀ (x s : List Nat) (prev j : Nat), x.length = s.length → j < x.length → (stpN p l c d x s prev).getD j 0 = (d * ((if j = 0 then prev else x.getD (j - 1) 0) + l * s.getD j 0) + c * x.getD j 0) % p
  | [], _, _, _, _, h => by simp at h
  | _ :: _, [], _, _, h, _ => by simp at h
  | x :: xs, s :: ss, prev, 0, h, _ => by simp [stpN]; rfl
  | x :: xs, s :: ss, prev, j + 1, h, h2 => by
    have ih := stpN_get p l c d xs ss x j (by simpa using h) (by simpa using h2)
    have e : stpN p l c d (x :: xs) (s :: ss) prev = Nat.mod (Nat.add (Nat.mul d (Nat.add prev (Nat.mul l s))) (Nat.mul c x)) p :: stpN p l c d xs ss x := rfl
    rw [e, List.getD_cons_succ, ih]
    cases j with
    | zero => simp
    | succ j => simp
theorem lastN_eq : ∀ (x : List Nat), x ≠ [] → lastN x = x.getD (x.length - 1) 0
  | [], h => absurd rfl h
  | [x], _ => rfl
  | x :: y :: r, _ => by
    have e : lastN (x :: y :: r) = lastN (y :: r) := rfl
    rw [e, lastN_eq (y :: r) (by simp)]
    simp
theorem vf_toV (x : List Nat) (j : Nat) : vf (toV x) j = (x.getD j 0 : Nat) := by
  unfold vf toV
  simp only [List.getD_eq_getElem?_getD, List.getElem?_map]
  cases x[j]? <;> rfl
namespace Fld
variable (f : Fld)
/-- the number x -/
def X : Num f := ⟨stepV f.p f.r (wholeV f.p f.n 1), stepV_in f.p_pos f.r _⟩
/-- a maker -/
def gen : Num f := (f.d : Num f) * f.X + (f.c : Num f)
end Fld
namespace Num
variable {f : Fld}
theorem X_cg : cg f.p f.n (vf f.X.v) (eV f.n (vf f.r) 1) := by
  have h := vf_step (p := f.p) f.r (wholeV f.p f.n 1) ((whole_in f 1).1)
  exact h.trans ((one_cg (f := f)).step (vf f.r))
theorem mul_X_cg (a : Num f) : cg f.p f.n (vf (a * f.X).v) (stepF f.n (vf f.r) (vf a.v)) := by
  rw [Num.mul_comm']
  refine (mul_cg _ a).trans ((mulN_cg X_cg (cg.refl _)).trans ?_)
  have h1 := stepI_vec f.p f.n (vf f.r) (vf a.v) 1
  refine cg.trans (.of_eq fun j hj => ?_) h1.symm
  unfold mulN
  refine sumN_congr _ fun k _ => ?_
  congr 1
  have e2 := (stepI_vec 0 f.n (vf f.r) (eV f.n (vf f.r) 1) k) j hj
  rw [Int.emod_zero, Int.emod_zero] at e2
  refine e2.symm.trans ?_
  unfold eV
  rw [← stepI_add, Nat.add_comm]
theorem cast_mul_cg (k : Int) (a : Num f) : cg f.p f.n (vf ((wh f k) * a).v) (fun j => k * vf a.v j) := by
  rw [Num.mul_comm']
  refine (mul_cg a _).trans ((mulN_cg (cg.refl _) (wh_cg k)).trans (.of_eq fun j hj => ?_))
  have e : mulN f.n (vf f.r) (vf a.v) (fun j => k * dl 0 j) j = k * mulN f.n (vf f.r) (vf a.v) (dl 0) j := by
    unfold mulN
    rw [← sumN_mul]
    exact sumN_congr _ fun i _ => by rw [Int.mul_assoc]
  rw [e, mulN_one _ _ _ _ hj]
theorem gen_step (a : Num f) (x : List Nat) (hx : a.v = toV x) : (a * f.gen).v = toV (stpN f.p (lastN x) f.c f.d x (negN f.p f.r) 0) := by
  have hxl : x.length = f.n := by have := a.len; rw [hx] at this; simpa [toV] using this
  have hsl : (negN f.p f.r).length = f.n := by simp [negN, Fld.n]
  have h0 := f.n_pos
  have hl := stpN_len f.p (lastN x) f.c f.d x (negN f.p f.r) 0 (by omega)
  have hin : inV f.p f.n (toV (stpN f.p (lastN x) f.c f.d x (negN f.p f.r) 0)) := by
    refine ⟨by simp [toV, hl, hxl], fun y hy => ?_⟩
    obtain ⟨z, hz, rfl⟩ := List.mem_map.mp hy
    obtain ⟨j, hj, rfl⟩ := List.mem_iff_getElem.mp hz
    have := stpN_get f.p (lastN x) f.c f.d x (negN f.p f.r) 0 j (by omega) (by omega)
    have e : (stpN f.p (lastN x) f.c f.d x (negN f.p f.r) 0)[j] = (stpN f.p (lastN x) f.c f.d x (negN f.p f.r) 0).getD j 0 := by simp [hj]
    rw [e, this]
    have := f.p_two
    have := Nat.mod_lt (f.d * ((if j = 0 then 0 else x.getD (j - 1) 0) + lastN x * (negN f.p f.r).getD j 0) + f.c * x.getD j 0) (show 0 < f.p by omega)
    exact ⟨Int.natCast_nonneg _, by show ((_ : Nat) : Int) < _; omega⟩
  refine list_eq (a * f.gen).ok hin ?_
  have e1 : a * f.gen = wh f f.d * (a * f.X) + wh f f.c * a := by
    show a * (wh f f.d * f.X + wh f f.c) = _
    rw [distrib', ← mul_assoc', mul_comm' a (wh f f.d), mul_assoc', mul_comm' a (wh f f.c)]
  rw [e1]
  refine (add_cg _ _).trans (((cast_mul_cg _ _).add (cast_mul_cg _ _)).trans ?_)
  refine cg.trans (((mul_X_cg a).mul (f.d : Int)).add (cg.refl _)) ?_
  intro j hj
  rw [vf_toV, stpN_get _ _ _ _ _ _ _ _ (by omega) (by omega)]
  have va : ∀ k, vf a.v k = (x.getD k 0 : Nat) := fun k => by rw [hx, vf_toV]
  have hlast : lastN x = x.getD (f.n - 1) 0 := by rw [lastN_eq x (by intro e; rw [e] at hxl; simp at hxl; omega), hxl]
  have hs : ∃ k : Int, (((negN f.p f.r).getD j 0 : Nat) : Int) = - vf f.r j + k * f.p := by
    have hrj := f.r_in.2 (f.r.getD j 0) (getD_mem hj)
    have e : (negN f.p f.r).getD j 0 = (f.p - (f.r.getD j 0).toNat) % f.p := by
      unfold negN
      have : j < f.r.length := hj
      simp [this]
      rfl
    rw [e]
    unfold vf
    by_cases hz : f.r.getD j 0 = 0
    · rw [hz]; exact ⟨0, by simp⟩
    · refine ⟨1, ?_⟩
      rw [Nat.mod_eq_of_lt (by omega)]
      omega
  obtain ⟨k, hk⟩ := hs
  show ((f.d : Int) * stepF f.n (vf f.r) (vf a.v) j + (f.c : Int) * vf a.v j) % (f.p : Int) = (((_ : Nat) % f.p : Nat) : Int) % f.p
  rw [Int.natCast_emod, Int.emod_emod]
  unfold stepF
  rw [va (f.n - 1), va (j - 1), va j, ← hlast]
  push_cast
  rw [hk]
  have e3 : (((if j = 0 then 0 else x.getD (j - 1) 0 : Nat)) : Int) = if j = 0 then 0 else ((x.getD (j - 1) 0 : Nat) : Int) := by split <;> rfl
  rw [e3]
  refine md.mpr ?_
  refine ⟨- (f.d * lastN x * k), ?_⟩
  generalize (if j = 0 then 0 else ((x.getD (j - 1) 0 : Nat) : Int)) = y
  generalize vf f.r j = z
  grind
end Num
end Vi

set_option maxRecDepth 100000
set_option maxHeartbeats 4000000
namespace Vi
/-! ### all numbers, rising -/
theorem rowsV_iff (p : Nat) : ∀ (n : Nat) (r : List Int), r ∈ rowsV p n ↔ inV p n r
  | 0, r => by
    unfold rowsV inV
    rw [List.mem_singleton, List.length_eq_zero_iff]
    exact ⟨fun h => ⟨h, fun x hx => by rw [h] at hx; cases hx⟩, fun h => h.1⟩
  | n + 1, r => by
    unfold rowsV
    simp only [List.mem_flatMap, List.mem_map, List.mem_range]
    constructor
    · rintro ⟨s, hs, k, hk, rfl⟩
      have ih := (rowsV_iff p n s).mp hs
      refine ⟨by simp [ih.1], fun x hx => ?_⟩
      rcases List.mem_append.mp hx with hx | hx
      · exact ih.2 x hx
      · rw [List.mem_singleton] at hx
        subst hx
        exact ⟨Int.natCast_nonneg _, by omega⟩
    · intro h
      have hne : r ≠ [] := fun e => by rw [e] at h; exact absurd h.1 (by simp)
      have hlast := h.2 (r.getLast hne) (List.getLast_mem hne)
      refine ⟨r.dropLast, (rowsV_iff p n _).mpr ⟨by simp [h.1], fun x hx => h.2 x ((List.dropLast_sublist r).subset hx)⟩, (r.getLast hne).toNat, by omega, ?_⟩
      rw [Int.toNat_of_nonneg hlast.1]
      exact List.dropLast_concat_getLast hne
theorem rowsV_nodup (p : Nat) : ∀ n, (rowsV p n).Nodup
  | 0 => by simp [rowsV]
  | n + 1 => by
    unfold rowsV
    rw [List.nodup_iff_pairwise_ne, List.pairwise_flatMap]
    refine ⟨fun s _ => ?_, ?_⟩
    · rw [List.pairwise_map]
      refine List.Pairwise.imp ?_ (List.nodup_iff_pairwise_ne.mp (List.nodup_range (n := p)))
      intro a b hab e
      have e := List.append_cancel_left e
      simp at e
      omega
    · refine List.Pairwise.imp ?_ (List.nodup_iff_pairwise_ne.mp (rowsV_nodup p n))
      intro a b hab x hx y hy e
      obtain ⟨i, _, rfl⟩ := List.mem_map.mp hx
      obtain ⟨j, _, rfl⟩ := List.mem_map.mp hy
      exact hab (List.append_inj_left' e rfl)
/-- a list without doubles, as long as another one that holds it, holds all -/
theorem pigeon {α : Type} [DecidableEq α] : ∀ (a b : List α), a.Nodup → (∀ x ∈ a, x ∈ b) → b.length ≤ a.length → ∀ x ∈ b, x ∈ a
  | [], b, _, _, h, x, hx => by
    have : b = [] := List.length_eq_zero_iff.mp (by simpa using h)
    rw [this] at hx; cases hx
  | y :: a, b, hn, hs, hl, x, hx => by
    rw [List.nodup_cons] at hn
    by_cases e : x = y
    · rw [e]; exact List.mem_cons_self
    · refine List.mem_cons_of_mem _ (pigeon a (b.erase y) hn.2 (fun z hz => ?_) ?_ x ?_)
      · have : z ≠ y := fun e => by rw [e] at hz; exact hn.1 hz
        exact (List.mem_erase_of_ne this).mpr (hs z (List.mem_cons_of_mem _ hz))
      · rw [List.length_erase_of_mem (hs y List.mem_cons_self)]
        simp at hl
        omega
      · exact (List.mem_erase_of_ne e).mpr hx
namespace Num
variable {f : Fld}
instance (p : Int) (n : Nat) (a : List Int) : Decidable (inV p n a) := inferInstanceAs (Decidable (_ ∧ _))
def ofV (f : Fld) (v : List Int) : Num f := if h : inV f.p f.n v then ⟨v, h⟩ else 0
theorem ofV_v {v : List Int} (h : inV f.p f.n v) : (ofV f v).v = v := by unfold ofV; rw [dif_pos h]
theorem ofV_self (a : Num f) : ofV f a.v = a := ext_v (ofV_v a.ok)
end Num
namespace Fld
variable (f : Fld)
def all : List (Num f) := (rowsV f.p f.n).map (Num.ofV f)
theorem all_v : f.all.map Num.v = rowsV f.p f.n := by
  unfold all
  rw [List.map_map]
  conv => rhs; rw [← List.map_id (rowsV f.p f.n)]
  exact List.map_congr_left fun v hv => Num.ofV_v ((rowsV_iff _ _ _).mp hv)
theorem mem_all (a : Num f) : a ∈ f.all := List.mem_map.mpr ⟨a.v, (rowsV_iff _ _ _).mpr a.ok, Num.ofV_self a⟩
theorem all_nodup : f.all.Nodup := by
  have h := rowsV_nodup f.p f.n
  rw [← f.all_v] at h
  exact (List.pairwise_map.mp h).imp fun {a b} hab e => hab (by rw [e])
theorem all_len : f.all.length = f.q := by
  unfold all
  rw [List.length_map, rowsV_len]; rfl
/-! ### the maker -/
theorem chk : chkF (f.p, f.r, f.c, f.d) = true := List.all_eq_true.mp table_chk _ f.ok
theorem q_two : 2 ≤ f.q := by
  unfold q
  have h1 := f.p_two
  have h2 := f.n_pos
  calc 2 ≤ f.p := h1
    _ = f.p ^ 1 := (Nat.pow_one _).symm
    _ ≤ f.p ^ f.n := Nat.pow_le_pow_right (by omega) h2
end Fld
namespace Num
variable {f : Fld}
open Lean.Grind
theorem one_toV : (1 : Num f).v = toV (oneN f.n) := by
  rw [one_v]
  unfold wholeV toV oneN zeros
  rw [Int.emod_eq_of_lt (by decide) (by have := f.p_two; omega)]
  simp
theorem toV_inj {x y : List Nat} (h : toV x = toV y) : x = y := by
  unfold toV at h
  exact List.map_inj_right (fun a b e => Int.ofNat.inj e) |>.mp h
theorem turnN_ok : ∀ (k m : Nat) (x : List Nat), (f.gen ^ m : Num f).v = toV x → turnN f.p f.c f.d (negN f.p f.r) (oneN f.n) k x = true → (f.gen ^ (m + k) : Num f) = 1 ∧ ∀ i, i < k → (f.gen ^ (m + i) : Num f) ≠ 1
  | 0, m, x, hx, h => by
    have h : eqN x (oneN f.n) = true := h
    have h := eqN_iff.mp h
    refine ⟨ext_v ?_, fun i hi => by omega⟩
    rw [Nat.add_zero, hx, h, one_toV]
  | k + 1, m, x, hx, h => by
    have h : (match eqN x (oneN f.n) with
      | true => false
      | false => turnN f.p f.c f.d (negN f.p f.r) (oneN f.n) k (stpN f.p (lastN x) f.c f.d x (negN f.p f.r) 0)) = true := h
    cases e : eqN x (oneN f.n) with
    | true => rw [e] at h; cases h
    | false =>
      rw [e] at h
      have hs := gen_step (f.gen ^ m) x hx
      rw [← Semiring.pow_succ] at hs
      obtain ⟨h1, h2⟩ := turnN_ok k (m + 1) _ hs h
      refine ⟨by rw [show m + (k + 1) = m + 1 + k by omega]; exact h1, fun i hi => ?_⟩
      cases i with
      | zero =>
        intro e2
        rw [Nat.add_zero] at e2
        have : x = oneN f.n := toV_inj (by rw [← hx, e2, one_toV])
        rw [this, eqN_iff.mpr rfl] at e
        cases e
      | succ i =>
        have := h2 i (by omega)
        rw [show m + 1 + i = m + (i + 1) by omega] at this
        exact this
theorem gen_turns : (f.gen ^ (f.q - 1) : Num f) = 1 ∧ ∀ i, 0 < i → i < f.q - 1 → (f.gen ^ i : Num f) ≠ 1 := by
  have hc := f.chk
  have hs := gen_step (1 : Num f) _ one_toV
  rw [show (1 : Num f) * f.gen = f.gen ^ 1 by grind] at hs
  have hc : turnN f.p f.c f.d (negN f.p f.r) (oneN f.n) (f.q - 2) (stpN f.p (lastN (oneN f.n)) f.c f.d (oneN f.n) (negN f.p f.r) 0) = true := hc
  obtain ⟨h1, h2⟩ := turnN_ok _ 1 _ hs hc
  have := f.q_two
  refine ⟨by rw [show f.q - 1 = 1 + (f.q - 2) by omega]; exact h1, fun i h3 h4 => ?_⟩
  have := h2 (i - 1) (by omega)
  rwa [show 1 + (i - 1) = i by omega] at this
theorem zero_ne_one' : (0 : Num f) ≠ 1 := fun h => by
  have h : (0 : Num f).v = (1 : Num f).v := congrArg Num.v h
  rw [zero_v, one_v] at h
  have h0 := f.n_pos
  unfold zeros wholeV at h
  have h2 := f.p_two
  rw [show f.n = (f.n - 1) + 1 by omega, List.replicate_succ] at h
  have := (List.cons.inj h).1
  rw [Int.emod_eq_of_lt (by decide) (by omega)] at this
  exact absurd this (by decide)
theorem pow_add' (a : Num f) (i j : Nat) : a ^ (i + j) = a ^ i * a ^ j := Semiring.pow_add a i j
theorem gen_ne (i : Nat) : (f.gen ^ i : Num f) ≠ 0 := fun h => by
  have h1 := (gen_turns (f := f)).1
  have h2 : (f.gen ^ ((f.q - 1) * (i + 1)) : Num f) = 1 := by
    generalize i + 1 = k
    induction k with
    | zero => rfl
    | succ k ih => rw [Nat.mul_succ, pow_add', ih, h1]; grind
  have hq := f.q_two
  have h3 : (f.q - 1) * (i + 1) = i + ((f.q - 1) * (i + 1) - i) := by
    have : 1 * (i + 1) ≤ (f.q - 1) * (i + 1) := Nat.mul_le_mul_right _ (by omega)
    omega
  rw [h3, pow_add', h] at h2
  exact zero_ne_one' (by rw [← h2]; grind)
theorem gen_inj {i j : Nat} (hi : i < f.q - 1) (hj : j < f.q - 1) (h : (f.gen ^ i : Num f) = f.gen ^ j) : i = j := by
  have key : ∀ i j : Nat, i < j → j < f.q - 1 → (f.gen ^ i : Num f) = f.gen ^ j → False := fun i j hij hj h => by
    have e := (gen_turns (f := f)).1
    -- multiply by gen^(q-1-i)
    have h2 : (f.gen ^ i : Num f) * f.gen ^ (f.q - 1 - i) = f.gen ^ j * f.gen ^ (f.q - 1 - i) := by rw [h]
    rw [← pow_add', ← pow_add', show i + (f.q - 1 - i) = f.q - 1 by omega, e, show j + (f.q - 1 - i) = (j - i) + (f.q - 1) by omega, pow_add', e] at h2
    exact (gen_turns (f := f)).2 (j - i) (by omega) (by omega) (by rw [h2]; grind)
  rcases Nat.lt_trichotomy i j with q | q | q
  · exact (key i j q hj h).elim
  · exact q
  · exact (key j i q hi h.symm).elim
theorem log_ex (a : Num f) (ha : a ≠ 0) : ∃ k, k < f.q - 1 ∧ a = f.gen ^ k := by
  have hp := pigeon ((List.range (f.q - 1)).map fun k => (f.gen ^ k : Num f)) (f.all.erase 0) ?_ ?_ ?_ a ((List.mem_erase_of_ne ha).mpr (f.mem_all a))
  · obtain ⟨k, hk, e⟩ := List.mem_map.mp hp
    exact ⟨k, List.mem_range.mp hk, e.symm⟩
  · rw [List.nodup_iff_pairwise_ne, List.pairwise_map]
    refine (List.Pairwise.and_mem.mp (List.nodup_iff_pairwise_ne.mp (List.nodup_range (n := f.q - 1)))).imp ?_
    rintro i j ⟨hi, hj, hij⟩ e
    exact hij (gen_inj (List.mem_range.mp hi) (List.mem_range.mp hj) e)
  · intro x hx
    obtain ⟨k, _, rfl⟩ := List.mem_map.mp hx
    exact (List.mem_erase_of_ne (gen_ne k)).mpr (f.mem_all _)
  · rw [List.length_erase_of_mem (f.mem_all 0), f.all_len]
    simp
/-- each number but nought, raised by the size less 1, is 1 -/
theorem fermat (a : Num f) (ha : a ≠ 0) : a ^ (f.q - 1) = 1 := by
  obtain ⟨k, _, rfl⟩ := log_ex a ha
  have h1 := (gen_turns (f := f)).1
  have : ∀ (x : Num f) (i j : Nat), (x ^ i) ^ j = x ^ (i * j) := fun x i j => by
    induction j with
    | zero => rfl
    | succ j ih => rw [Semiring.pow_succ, ih, Nat.mul_succ, pow_add']
  rw [this, Nat.mul_comm, ← this, h1, Semiring.one_pow]
end Num
end Vi

set_option maxRecDepth 100000
set_option maxHeartbeats 4000000
namespace Vi
open Lean.Grind
namespace Num
variable {f : Fld}
instance : Inv (Num f) := ⟨fun a => if a = 0 then 0 else a ^ (f.q - 2)⟩
instance : Div (Num f) := ⟨fun a b => a * b⁻¹⟩
def zpow (a : Num f) : Int → Num f
  | .ofNat k => a ^ k
  | .negSucc k => (a ^ (k + 1))⁻¹
instance : HPow (Num f) Int (Num f) := ⟨zpow⟩
theorem inv_def (a : Num f) (h : a ≠ 0) : a⁻¹ = a ^ (f.q - 2) := if_neg h
theorem inv_zero' : (0 : Num f)⁻¹ = 0 := if_pos rfl
theorem mul_inv' {a : Num f} (h : a ≠ 0) : a * a⁻¹ = 1 := by
  rw [inv_def a h, mul_comm']
  have e := fermat a h
  have := f.q_two
  rw [show f.q - 1 = f.q - 2 + 1 by omega, Semiring.pow_succ] at e
  exact e
theorem eq_inv' {a b : Num f} (h : a * b = 1) : a = b⁻¹ := by
  by_cases hb : b = 0
  · subst hb
    exact absurd (by rw [← h]; grind) (zero_ne_one' (f := f))
  · have e := mul_inv' hb
    have : a * (b * b⁻¹) = a := by rw [e]; grind
    grind
theorem inv_inv' (a : Num f) : a⁻¹⁻¹ = a := by
  by_cases h : a = 0
  · subst h; rw [inv_zero', inv_zero']
  · exact (eq_inv' (mul_inv' h)).symm
instance field (f : Fld) : Lean.Grind.Field (Num f) where
  div_eq_mul_inv := fun _ _ => rfl
  zero_ne_one := zero_ne_one'
  inv_zero := inv_zero'
  mul_inv_cancel := mul_inv'
  zpow_zero := fun _ => rfl
  zpow_succ := fun _ _ => rfl
  zpow_neg := fun a k => by
    match k with
    | .ofNat 0 =>
      show (1 : Num f) = (1 : Num f)⁻¹
      exact eq_inv' (by grind)
    | .ofNat (k + 1) => rfl
    | .negSucc k =>
      show a ^ (k + 1) = ((a ^ (k + 1))⁻¹)⁻¹
      rw [inv_inv']
theorem mul_ne {a b : Num f} (ha : a ≠ 0) (hb : b ≠ 0) : a * b ≠ 0 := by grind
theorem mul_eq_zero {a b : Num f} : a * b = 0 ↔ a = 0 ∨ b = 0 := by grind
theorem pow_mul' (a : Num f) (i j : Nat) : a ^ (i * j) = (a ^ i) ^ j := by
  induction j with
  | zero => rfl
  | succ j ih => rw [Semiring.pow_succ, ← ih, Nat.mul_succ, pow_add']
theorem mul_pow' (a b : Num f) (i : Nat) : (a * b) ^ i = a ^ i * b ^ i := by
  induction i with
  | zero => show (1 : Num f) = 1 * 1; grind
  | succ i ih => rw [Semiring.pow_succ, ih, Semiring.pow_succ, Semiring.pow_succ]; grind
theorem pow_ne {a : Num f} (h : a ≠ 0) (i : Nat) : a ^ i ≠ 0 := by
  induction i with
  | zero => exact fun e => zero_ne_one' e.symm
  | succ i ih => rw [Semiring.pow_succ]; exact mul_ne ih h
theorem zero_pow' {i : Nat} (h : 0 < i) : (0 : Num f) ^ i = 0 := by
  obtain ⟨k, rfl⟩ : ∃ k, i = k + 1 := ⟨i - 1, by omega⟩
  rw [Semiring.pow_succ]; grind
theorem one_pow' (i : Nat) : (1 : Num f) ^ i = 1 := Semiring.one_pow i
/-- the power by the rest of how often -/
theorem pow_mod {a : Num f} (h : a ≠ 0) (i : Nat) : a ^ (i % (f.q - 1)) = a ^ i := by
  have e : i = (f.q - 1) * (i / (f.q - 1)) + i % (f.q - 1) := (Nat.div_add_mod ..).symm
  conv => rhs; rw [e, pow_add', pow_mul', fermat a h, one_pow']
  grind
theorem p_zero : ((f.p : Nat) : Num f) = 0 := by
  show wh f f.p = wh f 0
  refine ext_v ?_
  show wholeV f.p f.n f.p = wholeV f.p f.n 0
  unfold wholeV
  rw [Int.emod_self, Int.zero_emod]
/-- raising by the prime goes with sums -/
theorem frob_add (a b : Num f) : (a + b) ^ f.p = a ^ f.p + b ^ f.p := by
  have h := p_zero (f := f)
  rcases f.p_cases with e | e | e | e <;> rw [e] at h ⊢ <;> simp only [← Semiring.ofNat_eq_natCast] at h <;> grind
theorem frob_q (a : Num f) : a ^ f.q = a := by
  by_cases h : a = 0
  · subst h
    exact zero_pow' (by have := f.q_two; omega)
  · have := f.q_two
    rw [show f.q = (f.q - 1) + 1 by omega, Semiring.pow_succ, fermat a h]
    grind
end Num
end Vi

set_option maxRecDepth 100000
set_option maxHeartbeats 4000000
namespace Vi
open Lean.Grind
@[reducible] local instance natK {K : Type} [Semiring K] : NatCast K := Semiring.natCast
@[reducible] local instance intK {K : Type} [Ring K] : IntCast K := Ring.intCast
/-! ### sums, and rows without end -/
section
variable {K : Type} [CommRing K]
def sm : Nat → (Nat → K) → K
  | 0, _ => 0
  | m + 1, f => sm m f + f m
theorem sm_congr {f h : Nat → K} : ∀ (m : Nat), (∀ k, k < m → f k = h k) → sm m f = sm m h
  | 0, _ => rfl
  | m + 1, e => by
    unfold sm
    rw [sm_congr m fun k hk => e k (by omega), e m (by omega)]
theorem sm_add (f h : Nat → K) : ∀ m, sm m (fun k => f k + h k) = sm m f + sm m h
  | 0 => by simp only [sm]; grind
  | m + 1 => by
    simp only [sm]
    rw [sm_add f h m]
    grind
theorem sm_mul (c : K) (f : Nat → K) : ∀ m, sm m (fun k => c * f k) = c * sm m f
  | 0 => by simp only [sm]; grind
  | m + 1 => by
    simp only [sm]
    rw [sm_mul c f m]; grind
theorem sm_mulr (c : K) (f : Nat → K) (m : Nat) : sm m (fun k => f k * c) = sm m f * c := by
  rw [CommSemiring.mul_comm, ← sm_mul]
  exact sm_congr m fun k _ => CommSemiring.mul_comm _ _
theorem sm_zero : ∀ m, sm m (fun _ => (0 : K)) = 0
  | 0 => rfl
  | m + 1 => by
    simp only [sm]
    rw [sm_zero m]; grind
theorem sm_swap (f : Nat → Nat → K) : ∀ m n, sm m (fun i => sm n (f i)) = sm n (fun j => sm m (fun i => f i j))
  | 0, n => by
    show 0 = sm n (fun _ => 0)
    rw [sm_zero]
  | m + 1, n => by
    show sm m (fun i => sm n (f i)) + sm n (f m) = sm n (fun j => sm m (fun i => f i j) + f m j)
    rw [sm_swap f m n, sm_add]
theorem sm_one (c : K) (i : Nat) : ∀ m, i < m → sm m (fun k => if k = i then c else 0) = c
  | 0, h => by omega
  | m + 1, h => by
    simp only [sm]
    by_cases e : i = m
    · subst e
      rw [if_pos rfl, sm_congr (h := fun _ => 0) i (fun k hk => if_neg (by omega)), sm_zero]
      grind
    · rw [sm_one c i m (by omega), if_neg (by omega)]
      grind
theorem sm_shift (f : Nat → K) : ∀ m, sm (m + 1) f = f 0 + sm m fun k => f (k + 1)
  | 0 => by simp only [sm]; grind
  | m + 1 => by
    show sm (m + 1) f + f (m + 1) = f 0 + (sm m (fun k => f (k + 1)) + f (m + 1))
    rw [sm_shift f m]
    grind
theorem sm_rev (f : Nat → K) : ∀ m, sm (m + 1) (fun i => f (m - i)) = sm (m + 1) f
  | 0 => rfl
  | m + 1 => by
    rw [sm_shift]
    show f (m + 1 - 0) + sm (m + 1) (fun k => f (m + 1 - (k + 1))) = sm (m + 1) f + f (m + 1)
    rw [sm_congr (h := fun i => f (m - i)) (m + 1) fun k _ => by rw [show m + 1 - (k + 1) = m - k by omega], sm_rev f m]
    grind
theorem sm_more (f : Nat → K) (m : Nat) : ∀ k, (∀ i, m ≤ i → f i = 0) → sm (m + k) f = sm m f
  | 0, _ => rfl
  | k + 1, h => by
    show sm (m + k) f + f (m + k) = _
    rw [sm_more f m k h, h (m + k) (by omega)]
    grind
/-- a sum over a triangle, by the other side -/
theorem sm_tri (F : Nat → Nat → K) : ∀ n, sm (n + 1) (fun i => sm (i + 1) (fun j => F j (i - j))) = sm (n + 1) (fun j => sm (n - j + 1) (fun k => F j k))
  | 0 => rfl
  | n + 1 => by
    show sm (n + 1) (fun i => sm (i + 1) (fun j => F j (i - j))) + sm (n + 1 + 1) (fun j => F j (n + 1 - j)) = sm (n + 1) (fun j => sm (n + 1 - j + 1) (fun k => F j k)) + sm (n + 1 - (n + 1) + 1) (fun k => F (n + 1) k)
    rw [sm_tri F n]
    have e : sm (n + 1) (fun j => sm (n + 1 - j + 1) (fun k => F j k)) = sm (n + 1) (fun j => sm (n - j + 1) (fun k => F j k) + F j (n + 1 - j)) := sm_congr _ fun j hj => by
      rw [show n + 1 - j = n - j + 1 by omega]
      rfl
    rw [e, sm_add]
    show _ + (sm (n + 1) (fun j => F j (n + 1 - j)) + F (n + 1) (n + 1 - (n + 1))) = _
    rw [show n + 1 - (n + 1) = 0 by omega]
    show _ = _ + (0 + F (n + 1) 0)
    grind
end
/-- rows without end -/
structure PS (K : Type) where
  co : Nat → K
namespace PS
variable {K : Type} [CommRing K]
theorem ext {a b : PS K} (h : ∀ n, a.co n = b.co n) : a = b := by
  cases a; cases b
  congr
  exact funext h
def C (c : K) : PS K := ⟨fun n => if n = 0 then c else 0⟩
instance : Add (PS K) := ⟨fun a b => ⟨fun n => a.co n + b.co n⟩⟩
instance : Neg (PS K) := ⟨fun a => ⟨fun n => - a.co n⟩⟩
instance : Sub (PS K) := ⟨fun a b => ⟨fun n => a.co n - b.co n⟩⟩
instance : Mul (PS K) := ⟨fun a b => ⟨fun n => sm (n + 1) fun i => a.co i * b.co (n - i)⟩⟩
instance : NatCast (PS K) := ⟨fun k => C (k : K)⟩
instance : IntCast (PS K) := ⟨fun k => C (k : K)⟩
instance {k : Nat} : OfNat (PS K) k := ⟨C (k : K)⟩
def npow (a : PS K) : Nat → PS K
  | 0 => 1
  | k + 1 => npow a k * a
instance : HPow (PS K) Nat (PS K) := ⟨npow⟩
instance : SMul Nat (PS K) := ⟨fun k a => (k : PS K) * a⟩
instance : SMul Int (PS K) := ⟨fun k a => (k : PS K) * a⟩
theorem add_co (a b : PS K) (n : Nat) : (a + b).co n = a.co n + b.co n := rfl
theorem sub_co (a b : PS K) (n : Nat) : (a - b).co n = a.co n - b.co n := rfl
theorem neg_co (a : PS K) (n : Nat) : (-a).co n = - a.co n := rfl
theorem mul_co (a b : PS K) (n : Nat) : (a * b).co n = sm (n + 1) fun i => a.co i * b.co (n - i) := rfl
theorem C_co (c : K) (n : Nat) : (C c).co n = if n = 0 then c else 0 := rfl
theorem zero_eq : (0 : PS K) = C 0 := by
  show C ((0 : Nat) : K) = C 0
  rw [Semiring.natCast_zero]
theorem one_eq : (1 : PS K) = C 1 := by
  show C ((1 : Nat) : K) = C 1
  rw [Semiring.natCast_one]
theorem zero_co (n : Nat) : (0 : PS K).co n = 0 := by rw [zero_eq, C_co]; split <;> rfl
theorem mul_comm' (a b : PS K) : a * b = b * a := ext fun n => by
  rw [mul_co, mul_co, ← sm_rev]
  refine sm_congr _ fun i hi => ?_
  rw [show n - (n - i) = i by omega, CommSemiring.mul_comm]
theorem C_mul_co (c : K) (a : PS K) (n : Nat) : (C c * a).co n = c * a.co n := by
  rw [mul_co, sm_shift, C_co, if_pos rfl, sm_congr (h := fun _ => 0) n fun k hk => by rw [C_co, if_neg (by omega)]; grind, sm_zero, Nat.sub_zero]
  grind
theorem mul_assoc' (a b c : PS K) : a * b * c = a * (b * c) := ext fun n => by
  rw [mul_co, mul_co]
  have e1 : sm (n + 1) (fun i => (a * b).co i * c.co (n - i)) = sm (n + 1) (fun i => sm (i + 1) (fun j => a.co j * b.co (i - j) * c.co (n - j - (i - j)))) := sm_congr _ fun i hi => by
    rw [mul_co, ← sm_mulr]
    exact sm_congr _ fun j hj => by rw [show n - j - (i - j) = n - i by omega]
  rw [e1, sm_tri fun j k => a.co j * b.co k * c.co (n - j - k)]
  refine sm_congr _ fun j hj => ?_
  rw [mul_co, ← sm_mul]
  exact sm_congr _ fun k hk => Semiring.mul_assoc _ _ _
theorem C_add (x y : K) : C (x + y) = C x + C y := ext fun n => by
  rw [add_co, C_co, C_co, C_co]
  split
  · rfl
  · grind
theorem C_neg (x : K) : C (-x) = - C x := ext fun n => by
  rw [neg_co, C_co, C_co]
  split
  · rfl
  · grind
instance ring : CommRing (PS K) where
  add_zero := fun a => ext fun n => by rw [add_co, zero_co]; grind
  add_comm := fun a b => ext fun n => by rw [add_co, add_co]; grind
  add_assoc := fun a b c => ext fun n => by simp only [add_co]; grind
  mul_assoc := mul_assoc'
  mul_one := fun a => ext fun n => by rw [mul_comm', one_eq, C_mul_co]; grind
  one_mul := fun a => ext fun n => by rw [one_eq, C_mul_co]; grind
  left_distrib := fun a b c => ext fun n => by
    rw [add_co, mul_co, mul_co, mul_co, ← sm_add]
    exact sm_congr _ fun i _ => by rw [add_co]; grind
  right_distrib := fun a b c => ext fun n => by
    rw [add_co, mul_co, mul_co, mul_co, ← sm_add]
    exact sm_congr _ fun i _ => by rw [add_co]; grind
  zero_mul := fun a => ext fun n => by rw [zero_eq, C_mul_co, ← zero_eq, zero_co]; grind
  mul_zero := fun a => ext fun n => by rw [mul_comm', zero_eq, C_mul_co, ← zero_eq, zero_co]; grind
  pow_zero := fun _ => rfl
  pow_succ := fun _ _ => rfl
  ofNat_succ := fun k => by
    show C ((k + 1 : Nat) : K) = C (k : K) + C ((1 : Nat) : K)
    rw [← C_add, Semiring.natCast_succ, Semiring.natCast_one]
  ofNat_eq_natCast := fun _ => rfl
  nsmul_eq_natCast_mul := fun _ _ => rfl
  neg_add_cancel := fun a => ext fun n => by rw [add_co, neg_co, zero_co]; grind
  sub_eq_add_neg := fun a b => ext fun n => by rw [add_co, sub_co, neg_co]; grind
  neg_zsmul := fun i a => by
    show C ((-i : Int) : K) * a = -(C (i : K) * a)
    refine ext fun n => ?_
    rw [C_mul_co, neg_co, C_mul_co, Ring.intCast_neg]; grind
  zsmul_natCast_eq_nsmul := fun k a => by
    show C (((k : Nat) : Int) : K) * a = C (k : K) * a
    rw [Ring.intCast_natCast]
  intCast_ofNat := fun k => by
    show C ((OfNat.ofNat k : Int) : K) = C ((k : Nat) : K)
    rw [Ring.intCast_ofNat, Semiring.ofNat_eq_natCast]
  intCast_neg := fun i => by
    show C ((-i : Int) : K) = -(C (i : K))
    rw [Ring.intCast_neg, C_neg]
  mul_comm := mul_comm'
/-- x -/
def X : PS K := ⟨fun n => if n = 1 then 1 else 0⟩
theorem X_mul_co (a : PS K) (n : Nat) : (X * a).co (n + 1) = a.co n := by
  rw [mul_co, sm_shift, sm_shift, sm_congr (h := fun _ => 0) n fun k hk => by
    show (if k + 1 + 1 = 1 then (1 : K) else 0) * _ = 0
    rw [if_neg (by omega)]; grind, sm_zero]
  show (if 0 = 1 then (1 : K) else 0) * _ + ((if 0 + 1 = 1 then (1 : K) else 0) * a.co (n + 1 - (0 + 1)) + 0) = _
  rw [if_neg (by omega), if_pos rfl, show n + 1 - (0 + 1) = n by omega]
  grind
theorem X_mul_zero (a : PS K) : (X * a).co 0 = 0 := by
  show (0 : K) + (if 0 = 1 then (1 : K) else 0) * a.co 0 = 0
  rw [if_neg (by omega)]
  grind
end PS
/-- a list as a row without end -/
def ps {K : Type} [CommRing K] (l : List K) : PS K := ⟨fun n => l.getD n 0⟩
section
variable {K : Type} [CommRing K]
theorem ps_co (l : List K) (n : Nat) : (ps l).co n = l.getD n 0 := rfl
theorem ps_nil : ps ([] : List K) = 0 := PS.ext fun n => by rw [PS.zero_co]; rfl
theorem ps_cons (c : K) (l : List K) : ps (c :: l) = PS.C c + PS.X * ps l := PS.ext fun n => by
  cases n with
  | zero =>
    rw [PS.add_co, PS.X_mul_zero, PS.C_co, if_pos rfl]
    show c = c + 0
    grind
  | succ n =>
    rw [PS.add_co, PS.X_mul_co, PS.C_co, if_neg (by omega)]
    show l.getD n 0 = 0 + l.getD n 0
    grind
end
end Vi

set_option maxRecDepth 100000
set_option maxHeartbeats 4000000
namespace Vi
open Lean.Grind
/-! ### rows of numbers -/
section
variable {f : Fld}
/-- what a row comes to at a number -/
def evR (R : List (Num f)) (x : Num f) : Num f := R.foldr (fun c s => s * x + c) 0
/-- a row without noughts at its end -/
def cutR (R : List (Num f)) : List (Num f) := (R.reverse.dropWhile fun c => decide (c = 0)).reverse
def cutC (R : List (Num f)) : Bool := decide (R.getLast? = some 0)
/-- no nought at the end -/
def nf (R : List (Num f)) : Prop := R.getLast? ≠ some 0
def mulIn (x : Num f) (at_ : Nat) (S : List (Num f)) (s : List (Num f)) : List (Num f) := S.zipIdx.foldl (fun s y => s.set (at_ + y.2) (s.getD (at_ + y.2) 0 + x * y.1)) s
/-- the product of two rows -/
def mulR (R S : List (Num f)) : List (Num f) := if R = [] ∨ S = [] then [] else R.zipIdx.foldl (fun s x => mulIn x.1 x.2 S s) (List.replicate (R.length + S.length - 1) 0)
/-- the difference of two rows -/
def subR (R S : List (Num f)) : List (Num f) :=
  cutR (List.zipWith (· - ·) (R ++ List.replicate (max R.length S.length - R.length) 0) (S ++ List.replicate (max R.length S.length - S.length) 0))
theorem fold_len {α β : Type} {F : List β → α → List β} (h : ∀ s x, (F s x).length = s.length) (xs : List α) (s : List β) : (xs.foldl F s).length = s.length := by
  induction xs generalizing s with
  | nil => rfl
  | cons x xs ih => rw [List.foldl_cons, ih, h]
theorem mulIn_len (x : Num f) (k : Nat) (S s : List (Num f)) : (mulIn x k S s).length = s.length := fold_len (by intro s y; simp) _ _
theorem mulR_len (R S : List (Num f)) (hR : R ≠ []) (hS : S ≠ []) : (mulR R S).length = R.length + S.length - 1 := by
  unfold mulR
  rw [if_neg (by simp [hR, hS]), fold_len (fun s x => mulIn_len _ _ _ _)]
  simp
theorem mulR_le (R S : List (Num f)) : (mulR R S).length ≤ R.length + S.length := by
  by_cases h : R = [] ∨ S = []
  · unfold mulR; rw [if_pos h]; simp
  · rw [mulR_len R S (fun e => h (.inl e)) (fun e => h (.inr e))]; omega
theorem cutR_len (R : List (Num f)) : (cutR R).length ≤ R.length := by
  unfold cutR
  rw [List.length_reverse]
  have := (List.dropWhile_sublist (fun c : Num f => decide (c = 0)) (l := R.reverse)).length_le
  rwa [List.length_reverse] at this
theorem subR_len (R S : List (Num f)) : (subR R S).length ≤ max R.length S.length := by
  unfold subR
  refine Nat.le_trans (cutR_len _) ?_
  simp
  omega
theorem cut_nf (R : List (Num f)) : nf (cutR R) := by
  unfold nf cutR
  rw [List.getLast?_reverse]
  have : ∀ S : List (Num f), (S.dropWhile fun c => decide (c = 0)).head? ≠ some 0 := fun S => by
    induction S with
    | nil => simp
    | cons c S ih =>
      by_cases h : c = 0
      · simpa [h] using ih
      · simp [h]
  exact this _
/-! #### as rows without end -/
theorem X_pow_co (k n : Nat) : ((PS.X : PS (Num f)) ^ k).co n = if n = k then 1 else 0 := by
  induction k generalizing n with
  | zero =>
    rw [Semiring.pow_zero, PS.one_eq, PS.C_co]
  | succ k ih =>
    rw [Semiring.pow_succ, CommSemiring.mul_comm]
    cases n with
    | zero => rw [PS.X_mul_zero, if_neg (by omega)]
    | succ n => rw [PS.X_mul_co, ih]; simp
theorem CX_co (c : Num f) (k n : Nat) : (PS.C c * (PS.X : PS (Num f)) ^ k).co n = if n = k then c else 0 := by
  rw [PS.C_mul_co, X_pow_co]
  split <;> grind
theorem ps_set (l : List (Num f)) (k : Nat) (y : Num f) (h : k < l.length) : ps (l.set k y) = ps l + PS.C (y - l.getD k 0) * (PS.X : PS (Num f)) ^ k := PS.ext fun n => by
  rw [PS.add_co, CX_co, ps_co, ps_co]
  by_cases e : n = k
  · subst e
    rw [if_pos rfl]
    have : (l.set n y).getD n 0 = y := by simp [h]
    rw [this]; grind
  · rw [if_neg e]
    have : (l.set k y).getD n 0 = l.getD n 0 := by simp [List.getElem?_set_ne (fun z => e z.symm)]
    rw [this]; grind
theorem ps_mulIn (x : Num f) (at_ : Nat) : ∀ (S : List (Num f)) (j : Nat) (s : List (Num f)), at_ + j + S.length ≤ s.length →
    ps ((S.zipIdx j).foldl (fun s y => s.set (at_ + y.2) (s.getD (at_ + y.2) 0 + x * y.1)) s) = ps s + PS.C x * (PS.X : PS (Num f)) ^ (at_ + j) * ps S
  | [], j, s, _ => by
    show ps s = _
    rw [ps_nil]; grind
  | c :: S, j, s, h => by
    have h : at_ + j + (S.length + 1) ≤ s.length := h
    rw [List.zipIdx_cons, List.foldl_cons, ps_mulIn x at_ S (j + 1) _ (by simp; omega)]
    show ps (s.set (at_ + j) (s.getD (at_ + j) 0 + x * c)) + _ = _
    rw [ps_set s (at_ + j) _ (by omega), ps_cons, show at_ + (j + 1) = at_ + j + 1 by omega, Semiring.pow_succ]
    have e : s.getD (at_ + j) 0 + x * c - s.getD (at_ + j) 0 = x * c := by grind
    rw [e]
    have e2 : PS.C (x * c) = PS.C x * PS.C c := PS.ext fun n => by
      rw [PS.C_mul_co, PS.C_co, PS.C_co]
      split <;> grind
    rw [e2]
    grind
theorem ps_zero (n : Nat) : ps (List.replicate n (0 : Num f)) = 0 := PS.ext fun k => by
  rw [PS.zero_co, ps_co]
  by_cases h : k < n <;> simp [h]
theorem ps_mul_fold (S : List (Num f)) : ∀ (R : List (Num f)) (j : Nat) (s : List (Num f)), j + R.length + S.length ≤ s.length + 1 → S ≠ [] →
    ps ((R.zipIdx j).foldl (fun s x => mulIn x.1 x.2 S s) s) = ps s + (PS.X : PS (Num f)) ^ j * ps R * ps S
  | [], j, s, _, _ => by
    show ps s = _
    rw [ps_nil]; grind
  | c :: R, j, s, h, hS => by
    have h : j + (R.length + 1) + S.length ≤ s.length + 1 := h
    have hS' : 0 < S.length := List.length_pos_iff.mpr hS
    rw [List.zipIdx_cons, List.foldl_cons, ps_mul_fold S R (j + 1) _ (by rw [mulIn_len]; omega) hS]
    show ps (mulIn c j S s) + _ = _
    have e := ps_mulIn c j S 0 s (by omega)
    rw [show ps (mulIn c j S s) = _ from e, ps_cons, Semiring.pow_succ, Nat.add_zero]
    grind
/-- the product as it should be -/
theorem ps_mulR (R S : List (Num f)) : ps (mulR R S) = ps R * ps S := by
  unfold mulR
  by_cases h : R = [] ∨ S = []
  · rw [if_pos h]
    rcases h with rfl | rfl
    · rw [ps_nil]; grind
    · rw [ps_nil]; grind
  · rw [if_neg h]
    have hR : R ≠ [] := fun e => h (.inl e)
    have hS : S ≠ [] := fun e => h (.inr e)
    have h1 : 0 < R.length := List.length_pos_iff.mpr hR
    have e := ps_mul_fold S R 0 (List.replicate (R.length + S.length - 1) 0) (by simp; omega) hS
    rw [e, ps_zero, Semiring.pow_zero]
    grind
theorem ps_append_zero (R : List (Num f)) (n : Nat) : ps (R ++ List.replicate n 0) = ps R := PS.ext fun k => by
  rw [ps_co, ps_co]
  by_cases h : k < R.length
  · simp [h, List.getElem?_append_left h]
  · rw [List.getD_eq_getElem?_getD, List.getElem?_append_right (by omega), List.getD_eq_getElem?_getD, List.getElem?_eq_none (l := R) (by omega)]
    by_cases h2 : k - R.length < n <;> simp [h2]
theorem ps_cut (R : List (Num f)) : ps (cutR R) = ps R := by
  have : ∀ S : List (Num f), ∃ n, S.reverse = (S.dropWhile fun c => decide (c = 0)).reverse ++ List.replicate n 0 := fun S => by
    induction S with
    | nil => exact ⟨0, rfl⟩
    | cons c S ih =>
      obtain ⟨n, ih⟩ := ih
      by_cases h : c = 0
      · refine ⟨n + 1, ?_⟩
        simp only [List.reverse_cons, h, List.dropWhile_cons, decide_true, if_true]
        rw [ih, List.append_assoc, List.replicate_succ']
      · refine ⟨0, ?_⟩
        simp [h]
  obtain ⟨n, e⟩ := this R.reverse
  rw [List.reverse_reverse] at e
  conv => rhs; rw [e]
  rw [ps_append_zero]
  rfl
theorem ps_sub_zip : ∀ (A B : List (Num f)), A.length = B.length → ps (List.zipWith (· - ·) A B) = ps A - ps B := fun A B h => PS.ext fun n => by
  rw [PS.sub_co, ps_co, ps_co, ps_co]
  by_cases h1 : n < A.length
  · have h2 : n < B.length := by omega
    simp [h1, h2, List.getElem?_zipWith]
  · have e1 : A[n]? = none := List.getElem?_eq_none (by omega)
    have e2 : B[n]? = none := List.getElem?_eq_none (by omega)
    simp only [List.getD_eq_getElem?_getD, e1, e2, List.getElem?_zipWith]
    show (0 : Num f) = 0 - 0
    grind
theorem ps_subR (R S : List (Num f)) : ps (subR R S) = ps R - ps S := by
  unfold subR
  rw [ps_cut, ps_sub_zip _ _ (by simp; omega), ps_append_zero, ps_append_zero]
theorem sub_nf (R S : List (Num f)) : nf (subR R S) := cut_nf _
/-- rows without noughts at the end are told by their figures -/
theorem nf_ext {R S : List (Num f)} (hR : nf R) (hS : nf S) (h : ps R = ps S) : R = S := by
  have hc : ∀ n, R.getD n 0 = S.getD n 0 := fun n => by
    have := congrArg (fun a => PS.co a n) h
    exact this
  have key : ∀ R S : List (Num f), nf S → (∀ n, R.getD n 0 = S.getD n 0) → S.length ≤ R.length := fun R S hS h => by
    rcases Nat.lt_or_ge R.length S.length with q | q
    · have e := h (S.length - 1)
      have e2 : R.getD (S.length - 1) 0 = 0 := by simp [List.getElem?_eq_none (l := R) (i := S.length - 1) (by omega)]
      have e3 : S.getLast? = some (S.getD (S.length - 1) 0) := by
        rw [List.getLast?_eq_getElem?]
        simp [show S.length - 1 < S.length by omega]
      rw [← e, e2] at e3
      exact absurd e3 hS
    · exact q
  have hl : R.length = S.length := Nat.le_antisymm (key S R hR fun n => (hc n).symm) (key R S hS hc)
  refine List.ext_getElem hl fun i h1 h2 => ?_
  have := hc i
  simpa [h1, h2] using this
theorem nf_nil : nf ([] : List (Num f)) := by simp [nf]
theorem ps_eq_zero {R : List (Num f)} (hR : nf R) (h : ps R = 0) : R = [] := nf_ext hR nf_nil (by rw [h, ps_nil])
/-! #### what a row comes to -/
theorem evR_cons (c : Num f) (R : List (Num f)) (x : Num f) : evR (c :: R) x = evR R x * x + c := rfl
theorem evR_nil (x : Num f) : evR [] x = 0 := rfl
theorem evR_zero (R : List (Num f)) (x : Num f) (h : ps R = 0) : evR R x = 0 := by
  induction R with
  | nil => rfl
  | cons c R ih =>
    have h0 := congrArg (fun a => PS.co a 0) h
    have h0 : c = (0 : PS (Num f)).co 0 := h0
    rw [PS.zero_co] at h0
    have hR : ps R = 0 := PS.ext fun n => by
      have := congrArg (fun a => PS.co a (n + 1)) h
      have : R.getD n 0 = (0 : PS (Num f)).co (n + 1) := this
      rw [PS.zero_co] at this
      rw [PS.zero_co]; exact this
    rw [evR_cons, ih hR, h0]; grind
theorem evR_ps : ∀ (R S : List (Num f)) (x : Num f), ps R = ps S → evR R x = evR S x
  | [], S, x, h => by
    rw [evR_nil, evR_zero S x (by rw [← h, ps_nil])]
  | c :: R, [], x, h => by
    rw [evR_nil, evR_zero _ x (by rw [h, ps_nil])]
  | c :: R, d :: S, x, h => by
    have h0 : c = d := congrArg (fun a => PS.co a 0) h
    have hR : ps R = ps S := PS.ext fun n => congrArg (fun a => PS.co a (n + 1)) h
    rw [evR_cons, evR_cons, evR_ps R S x hR, h0]
/-- sums and products of rows, plainly -/
def addP : List (Num f) → List (Num f) → List (Num f)
  | [], S => S
  | c :: R, [] => c :: R
  | c :: R, d :: S => (c + d) :: addP R S
def mulP : List (Num f) → List (Num f) → List (Num f)
  | [], _ => []
  | c :: R, S => addP (S.map (c * ·)) (0 :: mulP R S)
theorem ps_addP : ∀ (R S : List (Num f)), ps (addP R S) = ps R + ps S
  | [], S => by show ps S = _; rw [ps_nil]; grind
  | c :: R, [] => by show ps (c :: R) = _; rw [ps_nil]; grind
  | c :: R, d :: S => by
    show ps ((c + d) :: addP R S) = _
    rw [ps_cons, ps_addP R S, ps_cons, ps_cons, PS.C_add]; grind
theorem ps_smul (c : Num f) : ∀ S : List (Num f), ps (S.map (c * ·)) = PS.C c * ps S
  | [] => by show ps [] = _; rw [ps_nil]; grind
  | d :: S => by
    show ps (c * d :: S.map (c * ·)) = _
    rw [ps_cons, ps_smul c S, ps_cons]
    have e2 : PS.C (c * d) = PS.C c * PS.C d := PS.ext fun n => by
      rw [PS.C_mul_co, PS.C_co, PS.C_co]
      split <;> grind
    rw [e2]; grind
theorem ps_mulP : ∀ (R S : List (Num f)), ps (mulP R S) = ps R * ps S
  | [], S => by show ps [] = _; rw [ps_nil]; grind
  | c :: R, S => by
    show ps (addP (S.map (c * ·)) (0 :: mulP R S)) = _
    rw [ps_addP, ps_smul, ps_cons, ps_mulP R S, ps_cons, ← PS.zero_eq]; grind
theorem ev_addP : ∀ (R S : List (Num f)) (x : Num f), evR (addP R S) x = evR R x + evR S x
  | [], S, x => by show evR S x = _; rw [evR_nil]; grind
  | c :: R, [], x => by show evR (c :: R) x = _; rw [evR_nil]; grind
  | c :: R, d :: S, x => by
    show evR ((c + d) :: addP R S) x = _
    rw [evR_cons, ev_addP R S x, evR_cons, evR_cons]; grind
theorem ev_smul (c x : Num f) : ∀ S : List (Num f), evR (S.map (c * ·)) x = c * evR S x
  | [] => by show (0 : Num f) = c * 0; grind
  | d :: S => by
    show evR (c * d :: S.map (c * ·)) x = _
    rw [evR_cons, ev_smul c x S, evR_cons]; grind
theorem ev_mulP : ∀ (R S : List (Num f)) (x : Num f), evR (mulP R S) x = evR R x * evR S x
  | [], S, x => by show (0 : Num f) = 0 * _; grind
  | c :: R, S, x => by
    show evR (addP (S.map (c * ·)) (0 :: mulP R S)) x = _
    rw [ev_addP, ev_smul, evR_cons, ev_mulP R S x, evR_cons]; grind
/-- what a product comes to -/
theorem ev_mul {R S T : List (Num f)} (h : ps T = ps R * ps S) (x : Num f) : evR T x = evR R x * evR S x := by
  rw [← ev_mulP, evR_ps T (mulP R S) x (by rw [h, ps_mulP])]
theorem ev_add {R S T : List (Num f)} (h : ps T = ps R + ps S) (x : Num f) : evR T x = evR R x + evR S x := by
  rw [← ev_addP, evR_ps T (addP R S) x (by rw [h, ps_addP])]
theorem ev_mulR (R S : List (Num f)) (x : Num f) : evR (mulR R S) x = evR R x * evR S x := ev_mul (ps_mulR R S) x
end
end Vi

set_option maxRecDepth 100000
set_option maxHeartbeats 4000000
namespace Vi
open Lean.Grind
/-- while, as so many turns -/
def itW {β : Type} (C : β → Bool) (F : β → β) : Nat → β → β
  | 0, s => s
  | k + 1, s => if C s then itW C F k (F s) else s
section
variable {f : Fld}
theorem X_pow_mul_co (a : PS (Num f)) (k n : Nat) : ((PS.X : PS (Num f)) ^ k * a).co (k + n) = a.co n := by
  induction k with
  | zero =>
    rw [Semiring.pow_zero, Semiring.one_mul, Nat.zero_add]
  | succ k ih =>
    rw [Semiring.pow_succ, CommSemiring.mul_comm ((PS.X : PS (Num f)) ^ k), Semiring.mul_assoc, show k + 1 + n = k + n + 1 by omega, PS.X_mul_co, ih]
theorem getD_len (l : List (Num f)) (n : Nat) (h : l.length ≤ n) : l.getD n 0 = 0 := by
  rw [List.getD_eq_getElem?_getD, List.getElem?_eq_none h]; rfl
theorem len_le {A : List (Num f)} (hA : nf A) (m : Nat) (h : ∀ n, m ≤ n → (ps A).co n = 0) : A.length ≤ m := by
  rcases Nat.lt_or_ge m A.length with q | q
  · have e := h (A.length - 1) (by omega)
    rw [ps_co] at e
    have e3 : A.getLast? = some (A.getD (A.length - 1) 0) := by
      rw [List.getLast?_eq_getElem?]
      simp [show A.length - 1 < A.length by omega]
    rw [e] at e3
    exact absurd e3 hA
  · exact q
theorem ps_single (k : Nat) (c : Num f) : ps (List.replicate k 0 ++ [c]) = PS.C c * (PS.X : PS (Num f)) ^ k := PS.ext fun n => by
  rw [CX_co, ps_co, List.getD_eq_getElem?_getD, List.getElem?_append]
  by_cases h : n < k
  · simp [h, show n ≠ k by omega]
  · by_cases h2 : n = k
    · subst h2; simp
    · rw [if_neg (by simp; omega), if_neg h2, List.getElem?_eq_none (by simp; omega)]; rfl
def lastR (R : List (Num f)) : Num f := R.getLast?.getD 0
theorem lastR_get (R : List (Num f)) (h : R ≠ []) : lastR R = R.getD (R.length - 1) 0 := by
  unfold lastR
  rw [List.getLast?_eq_getElem?, List.getD_eq_getElem?_getD]
theorem lastR_ne {R : List (Num f)} (hR : nf R) (h : R ≠ []) : lastR R ≠ 0 := fun e => by
  unfold lastR at e
  cases q : R.getLast? with
  | none => exact h (List.getLast?_eq_none_iff.mp q)
  | some c =>
    rw [q] at e
    have e : c = 0 := e
    rw [e] at q
    exact hR q
def divC (S : List (Num f)) (x : List (Num f) × List (Num f)) : Bool := decide (S.length ≤ x.1.length)
def divF (S : List (Num f)) (b : Num f) (x : List (Num f) × List (Num f)) : List (Num f) × List (Num f) :=
  (subR x.1 (mulR (List.replicate (x.1.length - S.length) 0 ++ [lastR x.1 * b]) S), x.2.set (x.1.length - S.length) (lastR x.1 * b))
theorem div_step (S : List (Num f)) (hS0 : S ≠ []) (b : Num f) (hb : lastR S * b = 1) (x : List (Num f) × List (Num f)) (hC : divC S x = true) (hl : x.1.length + 1 ≤ x.2.length + S.length)
    (hz : ∀ k, k + S.length ≤ x.1.length → x.2.getD k 0 = 0) :
    (divF S b x).1.length < x.1.length ∧ nf (divF S b x).1 ∧ (divF S b x).2.length = x.2.length ∧ ps x.2 * ps S + ps x.1 = ps (divF S b x).2 * ps S + ps (divF S b x).1 ∧ (∀ k, k + S.length ≤ (divF S b x).1.length → (divF S b x).2.getD k 0 = 0) := by
  have hC : S.length ≤ x.1.length := of_decide_eq_true hC
  have hS1 : 0 < S.length := List.length_pos_iff.mpr hS0
  obtain ⟨at_, hat⟩ : ∃ k, k = x.1.length - S.length := ⟨_, rfl⟩
  have hps : ps (divF S b x).1 = ps x.1 - PS.C (lastR x.1 * b) * (PS.X : PS (Num f)) ^ at_ * ps S := by
    show ps (subR _ _) = _
    rw [ps_subR, ps_mulR, ps_single, hat]
  have hnf : nf (divF S b x).1 := sub_nf _ _
  have hR0 : x.1 ≠ [] := fun e => by
    have h0 : x.1.length = 0 := by rw [e]; rfl
    omega
  have hlen : (divF S b x).1.length ≤ x.1.length - 1 := by
    refine len_le hnf _ fun n hn => ?_
    rw [hps, PS.sub_co, Semiring.mul_assoc, PS.C_mul_co]
    have e1 : ((PS.X : PS (Num f)) ^ at_ * ps S).co n = S.getD (n - at_) 0 := by
      conv => lhs; rw [show n = at_ + (n - at_) by omega]
      rw [X_pow_mul_co, ps_co]
    rw [e1, ps_co]
    by_cases h : n = x.1.length - 1
    · rw [h, ← lastR_get x.1 hR0, show x.1.length - 1 - at_ = S.length - 1 by omega, ← lastR_get S hS0]
      grind
    · rw [getD_len x.1 n (by omega), getD_len S (n - at_) (by omega)]
      grind
  refine ⟨by omega, hnf, by simp [divF], ?_, fun k hk => ?_⟩
  · rw [hps]
    have e : ps (divF S b x).2 = ps x.2 + PS.C (lastR x.1 * b) * (PS.X : PS (Num f)) ^ at_ := by
      show ps (x.2.set (x.1.length - S.length) (lastR x.1 * b)) = _
      have h1 := hz at_ (by omega)
      have h2 : at_ < x.2.length := by omega
      rw [← hat, ps_set x.2 at_ _ h2, h1]
      have e0 : lastR x.1 * b - 0 = lastR x.1 * b := by grind
      rw [e0]
    rw [e]
    grind
  · show (x.2.set (x.1.length - S.length) (lastR x.1 * b)).getD k 0 = 0
    have hne : x.1.length - S.length ≠ k := by
      intro e
      have : k + S.length ≤ (divF S b x).1.length := hk
      omega
    rw [List.getD_eq_getElem?_getD, List.getElem?_set_ne hne, ← List.getD_eq_getElem?_getD]
    have : k + S.length ≤ (divF S b x).1.length := hk
    exact hz k (by omega)
theorem div_run (S : List (Num f)) (hS0 : S ≠ []) (b : Num f) (hb : lastR S * b = 1) : ∀ (k : Nat) (x : List (Num f) × List (Num f)), x.1.length < k → nf x.1 → x.1.length + 1 ≤ x.2.length + S.length → (∀ k, k + S.length ≤ x.1.length → x.2.getD k 0 = 0) →
    divC S (itW (divC S) (divF S b) k x) = false ∧ nf (itW (divC S) (divF S b) k x).1 ∧ ps x.2 * ps S + ps x.1 = ps (itW (divC S) (divF S b) k x).2 * ps S + ps (itW (divC S) (divF S b) k x).1 ∧ (itW (divC S) (divF S b) k x).2.length = x.2.length
  | 0, x, h, _, _, _ => by omega
  | k + 1, x, h, hn, hl, hz => by
    cases q : divC S x with
    | false =>
      have : itW (divC S) (divF S b) (k + 1) x = x := if_neg (by rw [q]; exact Bool.false_ne_true)
      rw [this]
      exact ⟨q, hn, rfl, rfl⟩
    | true =>
      have : itW (divC S) (divF S b) (k + 1) x = itW (divC S) (divF S b) k (divF S b x) := if_pos q
      rw [this]
      obtain ⟨h1, h2, h3, h4, h5⟩ := div_step S hS0 b hb x q hl hz
      obtain ⟨k1, k2, k3, k4⟩ := div_run S hS0 b hb k (divF S b x) (by omega) h2 (by rw [h3]; omega) h5
      exact ⟨k1, k2, h4.trans k3, k4.trans h3⟩
/-- quotient and rest -/
def divR (R S : List (Num f)) : List (Num f) × List (Num f) :=
  let y := itW (divC S) (divF S (lastR S ^ (f.q - 2))) (R.length + 1) (R, List.replicate (R.length + 1 - S.length) 0)
  (cutR y.2, y.1)
theorem back_ok {S : List (Num f)} (hS : nf S) (hS0 : S ≠ []) : lastR S * lastR S ^ (f.q - 2) = 1 := by
  rw [← Num.inv_def _ (lastR_ne hS hS0)]
  exact Num.mul_inv' (lastR_ne hS hS0)
theorem divR_ok {R S : List (Num f)} (hR : nf R) (hS : nf S) (hS0 : S ≠ []) :
    ps R = ps (divR R S).1 * ps S + ps (divR R S).2 ∧ (divR R S).2.length < S.length ∧ nf (divR R S).1 ∧ nf (divR R S).2 := by
  have hS1 : 0 < S.length := List.length_pos_iff.mpr hS0
  obtain ⟨h1, h2, h3, h4⟩ := div_run S hS0 _ (back_ok hS hS0) (R.length + 1) (R, List.replicate (R.length + 1 - S.length) 0) (by simp) hR (by simp; omega) (fun k hk => by
    rw [List.getD_eq_getElem?_getD, List.getElem?_replicate]
    split <;> rfl)
  refine ⟨?_, ?_, cut_nf _, h2⟩
  · show ps R = ps (cutR _) * ps S + _
    rw [ps_cut]
    have h3 := h3
    rw [ps_zero] at h3
    refine Eq.trans ?_ h3
    show ps R = 0 * ps S + ps R
    grind
  · have h := _root_.of_decide_eq_false h1
    exact Nat.lt_of_not_le h
/-! #### degrees -/
theorem ps_mul_last {A B : List (Num f)} (hA : A ≠ []) (hB : B ≠ []) : (ps A * ps B).co (A.length + B.length - 2) = lastR A * lastR B ∧ ∀ n, A.length + B.length - 2 < n → (ps A * ps B).co n = 0 := by
  have h1 : 0 < A.length := List.length_pos_iff.mpr hA
  have h2 : 0 < B.length := List.length_pos_iff.mpr hB
  constructor
  · rw [PS.mul_co, sm_congr (h := fun i => if i = A.length - 1 then lastR A * lastR B else 0), sm_one _ _ _ (by omega)]
    intro k hk
    by_cases e : k = A.length - 1
    · rw [if_pos e, e, ps_co, ps_co, ← lastR_get A hA, show A.length + B.length - 2 - (A.length - 1) = B.length - 1 by omega, ← lastR_get B hB]
    · rw [if_neg e, ps_co, ps_co]
      rcases Nat.lt_or_ge k (A.length - 1) with q | q
      · rw [getD_len B _ (by omega)]; grind
      · rw [getD_len A _ (by omega)]; grind
  · intro n hn
    rw [PS.mul_co, sm_congr (h := fun _ => 0), sm_zero]
    intro k hk
    rw [ps_co, ps_co]
    rcases Nat.lt_or_ge k A.length with q | q
    · rw [getD_len B _ (by omega)]; grind
    · rw [getD_len A _ (by omega)]; grind
theorem len_mul {A B T : List (Num f)} (hA : nf A) (hB : nf B) (hA0 : A ≠ []) (hB0 : B ≠ []) (hT : nf T) (h : ps T = ps A * ps B) : T.length = A.length + B.length - 1 ∧ lastR T = lastR A * lastR B := by
  obtain ⟨h1, h2⟩ := ps_mul_last hA0 hB0
  have ha : 0 < A.length := List.length_pos_iff.mpr hA0
  have hb : 0 < B.length := List.length_pos_iff.mpr hB0
  have hne := Num.mul_ne (lastR_ne hA hA0) (lastR_ne hB hB0)
  have hle : T.length ≤ A.length + B.length - 1 := len_le hT _ fun n hn => by rw [h]; exact h2 n (by omega)
  have hge : A.length + B.length - 2 < T.length := by
    rcases Nat.lt_or_ge (A.length + B.length - 2) T.length with q | q
    · exact q
    · rw [← h, ps_co, getD_len T _ q] at h1
      exact absurd h1.symm hne
  refine ⟨by omega, ?_⟩
  rw [lastR_get T (fun e => by rw [e] at hge; simp at hge), ← h1, ← h, ps_co]
  congr 1
  omega
theorem mul_nf {A B : List (Num f)} (hA : nf A) (hB : nf B) : nf (mulR A B) := by
  by_cases h : A = [] ∨ B = []
  · unfold mulR; rw [if_pos h]; exact nf_nil
  · have hA0 : A ≠ [] := fun e => h (.inl e)
    have hB0 : B ≠ [] := fun e => h (.inr e)
    have ha : 0 < A.length := List.length_pos_iff.mpr hA0
    have hb : 0 < B.length := List.length_pos_iff.mpr hB0
    have hl := mulR_len A B hA0 hB0
    obtain ⟨h1, _⟩ := ps_mul_last hA0 hB0
    intro e
    have e2 : (mulR A B).getLast? = some ((mulR A B).getD ((mulR A B).length - 1) 0) := by
      rw [List.getLast?_eq_getElem?]
      simp [show (mulR A B).length - 1 < (mulR A B).length by omega]
    rw [e2, hl, show A.length + B.length - 1 - 1 = A.length + B.length - 2 by omega, ← ps_co, ps_mulR, h1] at e
    exact Num.mul_ne (lastR_ne hA hA0) (lastR_ne hB hB0) (Option.some.inj e)
theorem ps_ne {A : List (Num f)} (hA : nf A) (h0 : A ≠ []) : ps A ≠ 0 := fun e => h0 (ps_eq_zero hA e)
/-- each row without end that is one of finitely many figures has a list without noughts at its end -/
theorem mul_cancel {A B S : List (Num f)} (hA : nf A) (hB : nf B) (hS : nf S) (hS0 : S ≠ []) (h : ps A * ps S = ps B * ps S) : A = B := by
  have e : ps (mulR (subR A B) S) = 0 := by rw [ps_mulR, ps_subR]; grind
  have e2 := ps_eq_zero (mul_nf (sub_nf A B) hS) e
  by_cases h0 : subR A B = []
  · refine nf_ext hA hB ?_
    have := ps_subR A B
    rw [h0, ps_nil] at this
    grind
  · have := mulR_len _ _ h0 hS0
    rw [e2] at this
    have h1 : 0 < (subR A B).length := List.length_pos_iff.mpr h0
    have h2 : 0 < S.length := List.length_pos_iff.mpr hS0
    simp at this
    omega
/-- there is just one quotient, one rest -/
theorem div_unique {R S Q Q' T T' : List (Num f)} (hS : nf S) (hS0 : S ≠ []) (hQ : nf Q) (hQ' : nf Q') (hT : nf T) (hT' : nf T') (h : ps R = ps Q * ps S + ps T) (h' : ps R = ps Q' * ps S + ps T') (hl : T.length < S.length) (hl' : T'.length < S.length) : Q = Q' ∧ T = T' := by
  have e : ps (mulR (subR Q Q') S) = ps (subR T' T) := by rw [ps_mulR, ps_subR, ps_subR]; grind
  have e2 : mulR (subR Q Q') S = subR T' T := nf_ext (mul_nf (sub_nf _ _) hS) (sub_nf _ _) e
  have hq : subR Q Q' = [] := by
    by_cases h0 : subR Q Q' = []
    · exact h0
    · have h1 := mulR_len _ _ h0 hS0
      have h2 := subR_len T' T
      rw [e2] at h1
      have h3 : 0 < (subR Q Q').length := List.length_pos_iff.mpr h0
      omega
  have hQQ : Q = Q' := by
    refine nf_ext hQ hQ' ?_
    have := ps_subR Q Q'
    rw [hq, ps_nil] at this
    grind
  refine ⟨hQQ, nf_ext hT hT' ?_⟩
  rw [hQQ] at h
  grind
end
end Vi

set_option maxRecDepth 100000
set_option maxHeartbeats 4000000
namespace Vi
open PySem PySem.Spec PyProof.Rows L2
/-! ### typed values -/
def Fld.D (f : Fld) : D := fD f.p f.r
def Num.D {f : Fld} (a : Num f) : D := tp a.v
def tD {α : Type} (e : α → D) (l : List α) : D := .tuple (l.map e)
def lD {α : Type} (e : α → D) (l : List α) : D := .list (l.map e)
def pD {α β : Type} (e : α → D) (h : β → D) (x : α × β) : D := .tuple [e x.1, h x.2]
/-- values that can be compared -/
structure Emb {α : Type} (e : α → D) (k : Nat) : Prop where
  lay : ∀ a, PyData.canLay0 (e a) = true
  dep : ∀ a, PyData.depth (e a) ≤ k
  eqv : ∀ a b, PyData.eqv (e a) (e b) = true ↔ a = b
theorem Emb.int : Emb PyData.int 0 := ⟨fun _ => rfl, fun _ => Nat.le_refl _, fun a b => by
  show (a == b) = true ↔ a = b
  exact beq_iff_eq⟩
theorem Emb.num {f : Fld} : Emb (Num.D (f := f)) 1 := ⟨fun a => by
    show PyData.canLayAll0 (a.v.map .int) = true
    exact lay_ints _, fun a => by
    show PyData.depth (.tuple (a.v.map .int)) ≤ 1
    rw [PyData.depth, depth_ints]; exact Nat.le_refl _, fun a b => by
    show PyData.eqv (tp a.v) (tp b.v) = true ↔ a = b
    rw [eqv_tp, decide_eq_true_iff]
    exact ⟨Num.ext_v, fun e => by rw [e]⟩⟩
section
variable {α β : Type} {e : α → D} {h : β → D} {k m : Nat}
theorem Emb.layAll (E : Emb e k) : ∀ l : List α, PyData.canLayAll0 (l.map e) = true
  | [] => rfl
  | x :: l => by
    show (PyData.canLay0 (e x) && PyData.canLayAll0 (l.map e)) = true
    rw [E.lay, E.layAll l]; rfl
theorem Emb.depAll (E : Emb e k) : ∀ l : List α, PyData.depthAll (l.map e) ≤ k
  | [] => by
    show PyData.depthAll [] ≤ k
    rw [PyData.depthAll]; exact Nat.zero_le _
  | x :: l => by
    show PyData.depthAll (e x :: l.map e) ≤ k
    rw [PyData.depthAll]
    exact Nat.max_le.mpr ⟨E.dep x, E.depAll l⟩
theorem Emb.eqvAll (E : Emb e k) : ∀ a b : List α, PyData.eqvAll (a.map e) (b.map e) = true ↔ a = b
  | [], [] => by
    show PyData.eqvAll [] [] = true ↔ _
    rw [PyData.eqvAll]; simp
  | [], y :: b => by
    show PyData.eqvAll [] (e y :: b.map e) = true ↔ _
    rw [PyData.eqvAll]; simp
  | x :: a, [] => by
    show PyData.eqvAll (e x :: a.map e) [] = true ↔ _
    rw [PyData.eqvAll]; simp
  | x :: a, y :: b => by
    show PyData.eqvAll (e x :: a.map e) (e y :: b.map e) = true ↔ _
    rw [PyData.eqvAll, Bool.and_eq_true, E.eqv, E.eqvAll a b]
    simp
theorem Emb.tup (E : Emb e k) : Emb (tD e) (k + 1) := ⟨fun a => E.layAll a, fun a => by
    show PyData.depth (.tuple (a.map e)) ≤ k + 1
    have := E.depAll a
    rw [PyData.depth]; omega, fun a b => by
    show PyData.eqv (.tuple (a.map e)) (.tuple (b.map e)) = true ↔ _
    rw [PyData.eqv]; exact E.eqvAll a b⟩
theorem Emb.lst (E : Emb e k) : Emb (lD e) (k + 1) := ⟨fun a => E.layAll a, fun a => by
    show PyData.depth (.list (a.map e)) ≤ k + 1
    have := E.depAll a
    rw [PyData.depth]; omega, fun a b => by
    show PyData.eqv (.list (a.map e)) (.list (b.map e)) = true ↔ _
    rw [PyData.eqv]; exact E.eqvAll a b⟩
theorem Emb.pair (E : Emb e k) (H : Emb h m) : Emb (pD e h) (max k m + 1) := ⟨fun a => by
    show PyData.canLayAll0 [e a.1, h a.2] = true
    show (PyData.canLay0 _ && (PyData.canLay0 _ && true)) = true
    rw [E.lay, H.lay]; rfl, fun a => by
    show PyData.depth (.tuple [e a.1, h a.2]) ≤ _
    have h1 := E.dep a.1
    have h2 := H.dep a.2
    rw [PyData.depth, PyData.depthAll, PyData.depthAll, PyData.depthAll]; omega, fun a b => by
    show PyData.eqv (.tuple [e a.1, h a.2]) (.tuple [e b.1, h b.2]) = true ↔ _
    rw [PyData.eqv, PyData.eqvAll, PyData.eqvAll, PyData.eqvAll, Bool.and_eq_true, Bool.and_eq_true, E.eqv, H.eqv]
    exact ⟨fun ⟨x, y, _⟩ => Prod.ext x y, fun x => by rw [x]; exact ⟨rfl, rfl, rfl⟩⟩⟩
theorem Emb.shaped (E : Emb e k) (hk : k ≤ 64) (a : α) : SeqAt.shaped (e a) = true := by
  unfold SeqAt.shaped
  rw [E.lay]
  exact decide_eq_true (Nat.le_trans (E.dep a) hk)
theorem Emb.eq [DecidableEq α] (E : Emb e k) (hk : k ≤ 64) (a b : α) : cmpop .eq (e a) (e b) = some (decide (a = b)) := by
  show (if SeqAt.shaped (e a) && SeqAt.shaped (e b) then some (PyData.eqv (e a) (e b)) else none) = _
  rw [E.shaped hk a, E.shaped hk b, if_pos (show (true && true) = true from rfl)]
  congr 1
  rw [Bool.eq_iff_iff, E.eqv, decide_eq_true_iff]
theorem Emb.ne [DecidableEq α] (E : Emb e k) (hk : k ≤ 64) (a b : α) : cmpop .ne (e a) (e b) = some (!decide (a = b)) := by
  show (if SeqAt.shaped (e a) && SeqAt.shaped (e b) then some (!PyData.eqv (e a) (e b)) else none) = _
  rw [E.shaped hk a, E.shaped hk b, if_pos (show (true && true) = true from rfl)]
  congr 2
  rw [Bool.eq_iff_iff, E.eqv, decide_eq_true_iff]
theorem Emb.memD [DecidableEq α] (E : Emb e k) (a : α) (l : List α) : memD (e a) (l.map e) = decide (a ∈ l) := by
  unfold Vi.memD
  rw [Bool.eq_iff_iff, List.any_eq_true, decide_eq_true_iff]
  constructor
  · rintro ⟨y, hy, h⟩
    obtain ⟨z, hz, rfl⟩ := List.mem_map.mp hy
    rw [E.eqv] at h
    rw [← h]; exact hz
  · intro h
    exact ⟨e a, List.mem_map.mpr ⟨a, h, rfl⟩, (E.eqv a a).mpr rfl⟩
theorem Emb.innL [DecidableEq α] (E : Emb e k) (hk : k < 64) (a : α) (l : List α) : cmpop .inn (e a) (lD e l) = some (decide (a ∈ l)) := by
  show (if SeqAt.shaped (e a) && SeqAt.shaped (lD e l) then some (Vi.memD (e a) (l.map e)) else none) = _
  rw [E.shaped (by omega) a, E.lst.shaped (by omega) l, if_pos (show (true && true) = true from rfl), E.memD]
theorem Emb.innT [DecidableEq α] (E : Emb e k) (hk : k < 64) (a : α) (l : List α) : cmpop .inn (e a) (tD e l) = some (decide (a ∈ l)) := by
  show (if SeqAt.shaped (e a) && SeqAt.shaped (tD e l) then some (Vi.memD (e a) (l.map e)) else none) = _
  rw [E.shaped (by omega) a, E.tup.shaped (by omega) l, if_pos (show (true && true) = true from rfl), E.memD]
theorem Emb.ninL [DecidableEq α] (E : Emb e k) (hk : k < 64) (a : α) (l : List α) : cmpop .nin (e a) (lD e l) = some (!decide (a ∈ l)) := by
  show (if SeqAt.shaped (e a) && SeqAt.shaped (lD e l) then some (!Vi.memD (e a) (l.map e)) else none) = _
  rw [E.shaped (by omega) a, E.lst.shaped (by omega) l, if_pos (show (true && true) = true from rfl), E.memD]
end
/-- rows, lists of numbers -/
abbrev rD {f : Fld} (R : List (Num f)) : D := tD Num.D R
abbrev nD {f : Fld} (R : List (Num f)) : D := lD Num.D R
section
variable {f : Fld} {α : Type} {e : α → D}
@[simp] theorem c_eqN (a b : Num f) : cmpop .eq a.D b.D = some (decide (a = b)) := Emb.num.eq (by decide) a b
@[simp] theorem c_neN (a b : Num f) : cmpop .ne a.D b.D = some (!decide (a = b)) := Emb.num.ne (by decide) a b
@[simp] theorem c_eqR (a b : List (Num f)) : cmpop .eq (rD a) (rD b) = some (decide (a = b)) := Emb.num.tup.eq (by decide) a b
@[simp] theorem c_neR (a b : List (Num f)) : cmpop .ne (rD a) (rD b) = some (!decide (a = b)) := Emb.num.tup.ne (by decide) a b
@[simp] theorem c_eqNL (a b : List (Num f)) : cmpop .eq (nD a) (nD b) = some (decide (a = b)) := Emb.num.lst.eq (by decide) a b
@[simp] theorem c_neNL (a b : List (Num f)) : cmpop .ne (nD a) (nD b) = some (!decide (a = b)) := Emb.num.lst.ne (by decide) a b
@[simp] theorem c_innN (a : Num f) (b : List (Num f)) : cmpop .inn a.D (nD b) = some (decide (a ∈ b)) := Emb.num.innL (by decide) a b
@[simp] theorem c_ninN (a : Num f) (b : List (Num f)) : cmpop .nin a.D (nD b) = some (!decide (a ∈ b)) := Emb.num.ninL (by decide) a b
@[simp] theorem c_eqI' (i j : Int) : cmpop .eq (.int i) (.int j) = some (decide (i = j)) := c_eqI i j
@[simp] theorem c_neI' (i j : Int) : cmpop .ne (.int i) (.int j) = some (!decide (i = j)) := Emb.int.ne (by decide) i j
@[simp] theorem tr_tD (l : List α) : truth (tD e l) = some (!l.isEmpty) := by
  show some (!(l.map e).isEmpty) = _
  simp
@[simp] theorem tr_lD (l : List α) : truth (lD e l) = some (!l.isEmpty) := by
  show some (!(l.map e).isEmpty) = _
  simp
@[simp] theorem f_lentD (l : List α) : bfun .len (tD e l) = some (.plain, .int l.length) := by
  show some (Kd.plain, PyData.int ((l.map e).length)) = _
  rw [List.length_map]
@[simp] theorem f_lenlD (l : List α) : bfun .len (lD e l) = some (.plain, .int l.length) := by
  show some (Kd.plain, PyData.int ((l.map e).length)) = _
  rw [List.length_map]
@[simp] theorem f_tuplD (l : List α) : bfun .tuple (lD e l) = some (.plain, tD e l) := rfl
@[simp] theorem f_tuptD (l : List α) : bfun .tuple (tD e l) = some (.plain, tD e l) := rfl
@[simp] theorem f_lsttD (l : List α) : bfun .list (tD e l) = some (.fresh, lD e l) := rfl
@[simp] theorem f_lstlD (l : List α) : bfun .list (lD e l) = some (.fresh, lD e l) := rfl
@[simp] theorem items_tD (l : List α) : items (tD e l) = some (l.map e) := rfl
@[simp] theorem items_lD (l : List α) : items (lD e l) = some (l.map e) := rfl
@[simp] theorem ty_tD (l : List α) : isType .tuple (tD e l) = true := rfl
@[simp] theorem ty_num (a : Num f) : isType .tuple a.D = true := rfl
@[simp] theorem getT_tD (l : List α) (k : Nat) : getAt (tD e l) (k : Int) = l[k]?.map e := by
  show getAt (.tuple (l.map e)) (k : Int) = _
  rw [getT_nat, List.getElem?_map]
@[simp] theorem getT_lD (l : List α) (k : Nat) : getAt (lD e l) (k : Int) = l[k]?.map e := by
  show getAt (.list (l.map e)) (k : Int) = _
  rw [getL_nat, List.getElem?_map]
theorem place_last (n : Nat) : place n (-1) = if n = 0 then none else some (n - 1) := by
  unfold place
  rw [if_neg (by decide)]
  by_cases h : n = 0
  · subst h; rfl
  · rw [if_pos (by omega), if_neg h]
    congr 1
    omega
theorem last_map (l : List α) : (place (l.map e).length (-1)).bind ((l.map e)[·]?) = l.getLast?.map e := by
  rw [place_last, List.length_map, List.getLast?_eq_getElem?]
  cases l with
  | nil => rfl
  | cons x l =>
    show ((x :: l).map e)[l.length + 1 - 1]? = ((x :: l)[l.length + 1 - 1]?).map e
    rw [List.getElem?_map]
@[simp] theorem lastT_tD (l : List α) : getAt (tD e l) (-1) = l.getLast?.map e := last_map l
@[simp] theorem lastT_lD (l : List α) : getAt (lD e l) (-1) = l.getLast?.map e := last_map l
@[simp] theorem getT_pD {β : Type} {h : β → D} (x : α × β) : getAt (pD e h x) 0 = some (e x.1) := rfl
@[simp] theorem getT_pD1 {β : Type} {h : β → D} (x : α × β) : getAt (pD e h x) 1 = some (h x.2) := rfl
@[simp] theorem fD_0' (f : Fld) : getAt f.D 0 = some (.int f.p) := fD_0 _ _
@[simp] theorem fD_1' (f : Fld) : getAt f.D 1 = some (tp f.r) := fD_1 _ _
@[simp] theorem len_r (f : Fld) : bfun .len (tp f.r) = some (.plain, .int f.n) := len_tp _
@[simp] theorem len_num (a : Num f) : bfun .len a.D = some (.plain, .int f.n) := by
  unfold Num.D
  rw [len_tp, a.len]
/-! nothing owned lies within -/
theorem flat_num (a : Num f) : flat a.D = true := flat_tp _
@[simp] theorem depF_num (a : Num f) (p : List Nat) : depF a.D p = [] := depF_tp _ _
theorem flat1_num (a : Num f) : flat1 a.D = true := by
  show ((a.v.map PyData.int).all atom) = true
  simp [atom]
theorem flat_row (R : List (Num f)) : flat (rD R) = true := by
  show ((R.map Num.D).all flat1) = true
  simp [flat1_num]
@[simp] theorem depF_row (R : List (Num f)) (p : List Nat) : depF (rD R) p = [] := by unfold depF; rw [flat_row]; rfl
@[simp] theorem depL_num (R : List (Num f)) (p : List Nat) : depL (R.map Num.D) p = [] := by
  unfold depL
  rw [if_pos (by simp [flat_num])]
@[simp] theorem depF_fld (f : Fld) (p : List Nat) : depF f.D p = [] := by
  unfold depF
  rw [if_pos]
  show ([PyData.int f.p, tp f.r].all flat1) = true
  simp [flat1, tp, atom]
@[simp] theorem depF_tp' (a : List Int) (p : List Nat) : depF (tp a) p = [] := depF_tp _ _
@[simp] theorem depF_bool (b : Bool) (p : List Nat) : depF (.bool b) p = [] := rfl
@[simp] theorem depF_none (p : List Nat) : depF .none p = [] := rfl
@[simp] theorem depOf_bool (b : Bool) (p : List Nat) : depOf (.bool b) p = [] := rfl
@[simp] theorem with_fns (g : G) (c : List (Str × Fn)) : (g.with c).fns = c := rfl
@[simp] theorem with_consts (g : G) (c : List (Str × Fn)) : (g.with c).consts = g.consts := rfl
@[simp] theorem with_fuel (g : G) (c : List (Str × Fn)) : (g.with c).fuel = g.fuel := rfl
@[simp] theorem with_isx (g : G) (c : List (Str × Fn)) : (g.with c).isx = g.isx := rfl
@[simp] theorem with_exm (g : G) (c : List (Str × Fn)) : (g.with c).exm = g.exm := rfl
@[simp] theorem put_val_num {ρ : REnv} {i : Nat} (a : Num f) : put ρ i .plain [] a.D = ρ.set i (.val a.D) := put_plain
@[simp] theorem put_val_tD {ρ : REnv} {i : Nat} (a : List α) : put ρ i .plain [] (tD e a) = ρ.set i (.val (tD e a)) := put_plain
@[simp] theorem put_val_lD {ρ : REnv} {i : Nat} (a : List α) : put ρ i .plain [] (lD e a) = ρ.set i (.val (lD e a)) := put_plain
@[simp] theorem put_val_bool {ρ : REnv} {i : Nat} (a : Bool) : put ρ i .plain [] (.bool a) = ρ.set i (.val (.bool a)) := put_plain
@[simp] theorem put_val_none {ρ : REnv} {i : Nat} : put ρ i .plain [] .none = ρ.set i (.val .none) := put_plain
@[simp] theorem put_val_fld {ρ : REnv} {i : Nat} (f : Fld) : put ρ i .plain [] f.D = ρ.set i (.val f.D) := put_plain
@[simp] theorem put_own_lD {ρ : REnv} {i : Nat} (a : List α) : put ρ i .fresh [] (lD e a) = ρ.set i (.own (a.map e)) := rfl
@[simp] theorem depL_nil (p : List Nat) : depL [] p = [] := rfl
end
/-- a scratch slot -/
def os : Option D → Slot
  | none => .un
  | some d => .val d
@[simp] theorem os_none : os none = .un := rfl
@[simp] theorem os_some (d : D) : os (some d) = .val d := rfl
@[simp] theorem notOwn_os {o : Option D} : (match some (os o) with
  | some (.own _) => false
  | _ => true) = true := by cases o <;> rfl
abbrev Sc := Nat → Option D
def Sc.up (z : Sc) (i : Nat) (d : D) : Sc := fun k => if k = i then some d else z k
@[simp] theorem up_self (z : Sc) (i : Nat) (d : D) : z.up i d i = some d := if_pos rfl
theorem up_ne (z : Sc) (i k : Nat) (d : D) (h : k ≠ i) : z.up i d k = z k := if_neg h
def Sc.no : Sc := fun _ => none
@[simp] theorem no_at (i : Nat) : Sc.no i = none := rfl
/-- a loop as a fold -/
theorem forL_fold {α β : Type} {tg : Tg} {body : REnv → Option SR} (e : α → D) (st : β → Sc → REnv) (F : β → α → β) (P : β → Prop) : ∀ (xs : List α)
    (h : ∀ s x z, x ∈ xs → P s → ∃ ρ1 z', bindT tg (e x) (st s z) = some ρ1 ∧ body ρ1 = some (.nx (st (F s x) z')) ∧ P (F s x)) (s : β) (z : Sc), P s →
    ∃ z', forL tg body (xs.map e) (st s z) = some (.nx (st (xs.foldl F s) z')) ∧ P (xs.foldl F s)
  | [], _, s, z, hp => ⟨z, rfl, hp⟩
  | x :: xs, h, s, z, hp => by
    obtain ⟨ρ1, z1, e1, e2, p1⟩ := h s x z List.mem_cons_self hp
    obtain ⟨z', e3, p3⟩ := forL_fold e st F P xs (fun s x z hx => h s x z (List.mem_cons_of_mem _ hx)) (F s x) z1 p1
    refine ⟨z', ?_, p3⟩
    show (match bindT tg (e x) (st s z) with
      | none => none
      | some ρ1 => match body ρ1 with
        | some (.nx ρ2) => forL tg body (xs.map e) ρ2
        | x => x) = _
    rw [e1]
    show (match body ρ1 with
        | some (.nx ρ2) => forL tg body (xs.map e) ρ2
        | x => x) = _
    rw [e2]
    exact e3
/-- a loop that may leave: c tells at which items, with what -/
theorem forL_exit {α : Type} {tg : Tg} {body : REnv → Option SR} (e : α → D) (st : Sc → REnv) (c : α → Option SR) (hc : ∀ x r ρ, c x = some r → r ≠ .nx ρ) : ∀ (xs : List α)
    (h : ∀ x z, x ∈ xs → ∃ ρ1, bindT tg (e x) (st z) = some ρ1 ∧ (match c x with | some r => body ρ1 = some r | none => ∃ z', body ρ1 = some (.nx (st z')))) (z : Sc),
    (match xs.findSome? c with | some r => forL tg body (xs.map e) (st z) = some r | none => ∃ z', forL tg body (xs.map e) (st z) = some (.nx (st z')))
  | [], _, z => ⟨z, rfl⟩
  | x :: xs, h, z => by
    obtain ⟨ρ1, e1, e2⟩ := h x z List.mem_cons_self
    have unf : forL tg body ((x :: xs).map e) (st z) = (match body ρ1 with
        | some (.nx ρ2) => forL tg body (xs.map e) ρ2
        | x => x) := by
      show (match bindT tg (e x) (st z) with
        | none => none
        | some ρ1 => match body ρ1 with
          | some (.nx ρ2) => forL tg body (xs.map e) ρ2
          | x => x) = _
      rw [e1]
    cases q : c x with
    | some r =>
      rw [q] at e2
      have e2 : body ρ1 = some r := e2
      rw [List.findSome?_cons, q]
      show forL tg body ((x :: xs).map e) (st z) = some r
      rw [unf, e2]
      cases r with
      | nx ρ => exact absurd rfl (hc x _ ρ q)
      | _ => rfl
    | none =>
      rw [q] at e2
      obtain ⟨z1, e2⟩ := e2
      rw [List.findSome?_cons, q]
      have ih := forL_exit e st c hc xs (fun x z hx => h x z (List.mem_cons_of_mem _ hx)) z1
      rw [unf, e2]
      exact ih
/-- comprehensions over typed items -/
theorem compL_em {α β : Type} {F : D → Option (Option D)} (e : α → D) (h : β → D) (c : α → Bool) (k : α → β) : ∀ (xs : List α), (∀ x ∈ xs, F (e x) = some (if c x then some (h (k x)) else none)) → compL F (xs.map e) = some (((xs.filter c).map k).map h)
  | [], _ => rfl
  | x :: r, H => by
    have e1 := H x List.mem_cons_self
    have ih := compL_em e h c k r fun y hy => H y (List.mem_cons_of_mem _ hy)
    show (match F (e x) with
      | none => none
      | some none => compL F (r.map e)
      | some (some y) => (compL F (r.map e)).map (y :: ·)) = _
    rw [e1]
    cases q : c x with
    | true =>
      rw [if_pos rfl, List.filter_cons_of_pos q]
      show (compL F (r.map e)).map (h (k x) :: ·) = _
      rw [ih]; rfl
    | false =>
      rw [if_neg Bool.false_ne_true, List.filter_cons_of_neg (by rw [q]; exact Bool.false_ne_true)]
      exact ih
theorem compL_emm {α β : Type} {F : D → Option (Option D)} (e : α → D) (h : β → D) (k : α → β) (xs : List α) (H : ∀ x ∈ xs, F (e x) = some (some (h (k x)))) : compL F (xs.map e) = some ((xs.map k).map h) := by
  have := compL_em (F := F) e h (fun _ => true) k xs (fun x hx => by rw [H x hx]; rfl)
  rwa [List.filter_eq_self.mpr fun _ _ => rfl] at this
theorem whileL_run {β : Type} {c : REnv → Option Rs} {body : REnv → Option SR} (st : β → Sc → REnv) (C : β → Bool) (F : β → β) (P : β → Prop)
    (hc : ∀ s z, P s → ∃ k p d, c (st s z) = some (.ok k p d) ∧ truth d = some (C s)) (hb : ∀ s z, P s → C s = true → ∃ z', body (st s z) = some (.nx (st (F s) z')) ∧ P (F s)) :
    ∀ (k fuel : Nat) (s : β) (z : Sc), P s → k < fuel → C (itW C F k s) = false → ∃ z', whileL c body fuel (st s z) = some (.nx (st (itW C F k s) z')) ∧ P (itW C F k s)
  | k, 0, _, _, _, h, _ => absurd h (Nat.not_lt_zero _)
  | k, fuel + 1, s, z, hp, hk, hC => by
    obtain ⟨kd, p, d, e1, e2⟩ := hc s z hp
    have unf : whileL c body (fuel + 1) (st s z) = (match truth d with
      | some true => match body (st s z) with
        | some (.nx ρ2) => whileL c body fuel ρ2
        | x => x
      | some false => some (.nx (st s z))
      | none => none) := by
      show (match c (st s z) with
        | some (.ok _ _ t) => match truth t with
          | some true => match body (st s z) with
            | some (.nx ρ2) => whileL c body fuel ρ2
            | x => x
          | some false => some (.nx (st s z))
          | none => none
        | some (.ex x) => some (.ex x (st s z))
        | none => none) = _
      rw [e1]
    rw [unf, e2]
    cases q : C s with
    | false =>
      have : itW C F k s = s := by
        cases k with
        | zero => rfl
        | succ k => exact if_neg (by rw [q]; exact Bool.false_ne_true)
      rw [this]
      exact ⟨z, rfl, hp⟩
    | true =>
      cases k with
      | zero =>
        have hC : C s = false := hC
        rw [q] at hC; cases hC
      | succ k =>
        have e3 : itW C F (k + 1) s = itW C F k (F s) := if_pos q
        rw [e3] at hC ⊢
        obtain ⟨z1, e4, p4⟩ := hb s z hp q
        obtain ⟨z', e5, p5⟩ := whileL_run st C F P hc hb k fuel (F s) z1 p4 (by omega) hC
        refine ⟨z', ?_, p5⟩
        show (match body (st s z) with
          | some (.nx ρ2) => whileL c body fuel ρ2
          | x => x) = _
        rw [e4]
        exact e5
/-- a check that fails not -/
theorem ex_pass {g : G} {c : E} {A r : S} {ρ : REnv} {k : Kd} {p : List Nat} {d : D} (h : ev g c ρ = some (.ok k p d)) (hd : truth d = some false) : ex g (.cons (.ite c A .nil) r) ρ = ex g r ρ := by
  rw [exE_cons, exE_ite, h, toS_ok, hd]
  rfl
theorem ex_ite_t {g : G} {c : E} {A B : S} {ρ : REnv} {k : Kd} {p : List Nat} {d : D} (h : ev g c ρ = some (.ok k p d)) (hd : truth d = some true) : ex g (.ite c A B) ρ = ex g A ρ := by
  rw [exE_ite, h, toS_ok, hd]
theorem ex_ite_f {g : G} {c : E} {A B : S} {ρ : REnv} {k : Kd} {p : List Nat} {d : D} (h : ev g c ρ = some (.ok k p d)) (hd : truth d = some false) : ex g (.ite c A B) ρ = ex g B ρ := by
  rw [exE_ite, h, toS_ok, hd]
end Vi

set_option maxRecDepth 100000
set_option maxHeartbeats 4000000
namespace Vi
open PySem PySem.Spec PyProof.Rows L2 Lean.Grind
/-- what the tables must hold -/
class GOk (g : G) : Prop where
  fuel : 1000000 ≤ g.fuel
  fld : ∀ f : Fld, F_is_field g [f.D] = some (.ret (.bool true))
namespace Fld
variable (f : Fld)
theorem r_bdd : bdd f.r := (f.r_in).bdd (p := f.p) (by have := f.p_le; omega)
end Fld
theorem powS_npow {f : Fld} : ∀ (k : Nat) (y x : Num f) (n : Nat), n < 2 ^ k → powS f.p f.r k y.v x.v n = (y * x ^ n).v
  | 0, y, x, n, h => by
    have : n = 0 := by simpa using h
    subst this
    show y.v = (y * 1).v
    rw [Num.mul_one']
  | k + 1, y, x, n, h => by
    show (if n = 0 then y.v else powS f.p f.r k (if n % 2 = 1 then prodV f.p f.r y.v x.v else y.v) (prodV f.p f.r x.v x.v) (n / 2)) = _
    by_cases h0 : n = 0
    · subst h0
      rw [if_pos rfl]
      show y.v = (y * 1).v
      rw [Num.mul_one']
    · rw [if_neg h0]
      have hk : n / 2 < 2 ^ k := by rw [Nat.pow_succ] at h; omega
      have e : n = n / 2 * 2 + n % 2 := by omega
      have hx : ∀ m : Nat, (x * x) ^ m = x ^ (m * 2) := fun m => by
        rw [Nat.mul_comm, Num.pow_mul', Semiring.pow_two]
      by_cases q : n % 2 = 1
      · rw [if_pos q]
        have ih := powS_npow k (y * x) (x * x) (n / 2) hk
        rw [Num.mul_v, Num.mul_v] at ih
        rw [ih, hx]
        congr 1
        conv => rhs; rw [e, q, Semiring.pow_succ]
        grind
      · rw [if_neg q]
        have ih := powS_npow k y (x * x) (n / 2) hk
        rw [Num.mul_v] at ih
        rw [ih, hx, show n / 2 * 2 = n by omega]
theorem powV_npow {f : Fld} (x : Num f) (n : Nat) (h : n < 2 ^ 24) : powV f.p f.r x.v n = (x ^ n).v := by
  have := powS_npow 24 (1 : Num f) x n h
  rw [Semiring.one_mul] at this
  exact this
theorem timesV_mul {f : Fld} (a b : Num f) : timesV f.p f.r a.v b.v = (a * b).v := by
  have h0 := f.n_pos
  by_cases h : f.n = 1
  · have hp := prodV_in f.p_pos f.r a.v b.v f.n_pos
    have hl : f.r.length = 1 := h
    unfold timesV
    rw [if_pos hl]
    refine list_eq (p := f.p) (n := 1) ⟨rfl, fun x hx => ?_⟩ (by rw [← h]; exact (a * b).ok) ?_
    · rw [List.mem_singleton] at hx
      subst hx
      exact ⟨Int.emod_nonneg _ (by have := f.p_pos; omega), Int.emod_lt_of_pos _ f.p_pos⟩
    · intro j hj
      have e := Num.mul_cg a b j (by omega)
      rw [e, h]
      have : j = 0 := by omega
      subst this
      show (a.v.getD 0 0 * b.v.getD 0 0 % (f.p : Int)) % f.p = (0 + b.v.getD 0 0 * (0 + a.v.getD 0 0 * 1)) % f.p
      rw [Int.emod_emod, Int.mul_one, Int.zero_add, Int.zero_add, Int.mul_comm]
  · have h1 : 1 < f.r.length := by show 1 < f.n; omega
    have hin : inV f.p f.n (timesV f.p f.r a.v b.v) := by
      unfold timesV
      rw [if_neg (by omega)]
      have hb : ∀ (b : List Int) (s : List Int × List Int), inV f.p f.n s.1 → inV f.p f.n s.2 → inV f.p f.n (b.foldl (timesS f.p f.r) s).1 := by
        intro b
        induction b with
        | nil => exact fun s h1 _ => h1
        | cons x b ih =>
          intro s h1 h2
          refine ih (timesS f.p f.r s x) ?_ (stepV_in f.p_pos f.r s.2)
          refine ⟨by show (addV f.p s.1 (mulF f.p x s.2)).length = _; simp [addV, mulF, h1.1, h2.1], fun y hy => ?_⟩
          obtain ⟨i, hi, rfl⟩ := List.mem_iff_getElem.mp hy
          show 0 ≤ (addV f.p s.1 (mulF f.p x s.2))[i] ∧ _
          simp only [addV, List.getElem_zipWith, timesS]
          exact ⟨Int.emod_nonneg _ (by have := f.p_pos; omega), Int.emod_lt_of_pos _ f.p_pos⟩
      refine hb b.v _ ?_ a.ok
      rw [a.len]
      show inV f.p f.n (zeros f.n)
      rw [← Num.zero_v (f := f)]
      exact (0 : Num f).ok
    refine list_eq hin (a * b).ok ?_
    exact (timesV_vf f.p f.r a.v b.v h1 a.len b.len).trans (Num.mul_cg a b).symm
section
variable (g : G) {f : Fld}
@[simp] theorem nought_s (f : Fld) : F_nought g [f.D] = some (.ret (0 : Num f).D) := by
  have h := nought_eq g f.p f.r (by have := f.n_le; show f.n ≤ 1000; omega)
  unfold Num.D
  rw [Num.zero_v]; exact h
@[simp] theorem L_nought_s (f : Fld) : F_L_nought g [f.D] = some (.ret (0 : Num f).D) := by
  have h := L_nought_eq g f.p f.r (by have := f.n_le; show f.n ≤ 1000; omega)
  unfold Num.D
  rw [Num.zero_v]; exact h
@[simp] theorem whole_s (f : Fld) (x : Int) : F_whole g [f.D, .int x] = some (.ret ((x : Int) : Num f).D) :=
  whole_eq g f.p f.r f.p_pos (by have := f.n_le; show f.n ≤ 1000; omega) f.n_pos x
@[simp] theorem sum_of_s (a b : Num f) : F_sum_of g [f.D, a.D, b.D] = some (.ret (a + b).D) :=
  sum_of_eq g f.p f.r f.p_pos a.v b.v (by rw [a.len]; have := f.n_le; omega)
@[simp] theorem less_s (a b : Num f) : F_less g [f.D, a.D, b.D] = some (.ret (a - b).D) :=
  less_eq g f.p f.r f.p_pos a.v b.v (by rw [a.len]; have := f.n_le; omega)
@[simp] theorem L_plus_s (a b : Num f) : F_L_plus g [f.D, a.D, b.D] = some (.ret (a + b).D) :=
  L_plus_eq g f.p f.r f.p_pos a.v b.v (by rw [a.len]; have := f.n_le; omega) (by rw [a.len, b.len])
@[simp] theorem product_of_s (a b : Num f) : F_product_of g [f.D, a.D, b.D] = some (.ret (a * b).D) :=
  product_of_eq g f.p f.p_pos (by have := f.p_le; omega) f.r a.v b.v f.n_pos (by have := f.n_le; show f.n ≤ 100; omega) f.r_bdd a.len b.len (a.ok.bdd (by have := f.p_le; omega))
@[simp] theorem L_times_s (a b : Num f) : F_L_times g [f.D, a.D, b.D] = some (.ret (a * b).D) := by
  have := L_times_eq g f.p f.p_pos (by have := f.p_le; omega) f.r a.v b.v f.n_pos (by have := f.n_le; show f.n ≤ 1000; omega) a.ok b.ok
  rw [timesV_mul] at this
  exact this
@[simp] theorem size_of_s (f : Fld) : F_size_of g [f.D] = some (.ret (.int f.q)) := by
  have := size_of_eq g f.p f.r (by have := f.p_le; omega) (by have := f.n_le; show f.n < 1000000; omega)
  refine this.trans ?_
  show some (Rf.ret (.int ((f.p : Int) ^ f.n))) = _
  rw [Fld.q, Int.natCast_pow]
@[simp] theorem is_number_s (a : Num f) : F_is_number g [f.D, a.D] = some (.ret (.bool true)) := is_number_eq g f.p f.r a.v a.ok (by have := f.n_le; show f.n ≤ 1000; omega)
variable [GOk g]
@[simp] theorem power_of_s (a : Num f) (k : Nat) (hk : k < 2 ^ 24) : F_power_of g [f.D, a.D, .int k] = some (.ret (a ^ k).D) := by
  have := power_of_eq g f.p f.r (by have := GOk.fuel (g := g); omega) f.p_pos (by have := f.p_le; omega) f.n_pos (by have := f.n_le; show f.n ≤ 100; omega) f.r_bdd a.v a.ok k hk
  rw [powV_npow a k hk] at this
  exact this
@[simp] theorem inverse_of_s (a : Num f) : F_inverse_of g [f.D, a.D] = some (.ret (a ^ (f.q - 2)).D) := by
  have hq := f.q_le
  have := inverse_of_eq g f.p f.r (by have := GOk.fuel (g := g); omega) f.p rfl f.p_two (by have := f.p_le; omega) f.n_pos (by have := f.n_le; show f.n ≤ 100; omega) f.r_bdd (by show f.q < _; omega) a.v a.ok
  rw [show f.p ^ f.r.length - 2 = f.q - 2 from rfl, powV_npow a _ (by omega)] at this
  exact this
@[simp] theorem is_field_s (f : Fld) : F_is_field g [f.D] = some (.ret (.bool true)) := GOk.fld f
@[simp] theorem checked_s (f : Fld) : F_checked g [f.D] = some (.ret f.D) := checked_eq g f.p f.r (GOk.fld f)
@[simp] theorem look_numbers_s (L : List (Num f)) : F_look_numbers g [f.D, nD L] = some (.ret .none) := by
  have := look_numbers_eq g f.p f.r (GOk.fld f) (by have := f.n_le; show f.n ≤ 1000; omega) (L.map Num.v) (fun a ha => by
    obtain ⟨b, _, rfl⟩ := List.mem_map.mp ha
    exact b.ok)
  unfold lR at this
  rw [List.map_map] at this
  exact this
@[simp] theorem plus_s (a b : Num f) : F_plus g [f.D, a.D, b.D] = some (.ret (a + b).D) :=
  plus_eq g f.p f.r f.p_pos (GOk.fld f) (by have := f.n_le; show f.n ≤ 1000; omega) a.v b.v a.ok b.ok
@[simp] theorem minus_s (a b : Num f) : F_minus g [f.D, a.D, b.D] = some (.ret (a - b).D) :=
  minus_eq g f.p f.r f.p_pos (GOk.fld f) (by have := f.n_le; show f.n ≤ 1000; omega) a.v b.v a.ok b.ok
@[simp] theorem times_s (a b : Num f) : F_times g [f.D, a.D, b.D] = some (.ret (a * b).D) :=
  times_eq g f.p f.r f.p_pos (by have := f.p_le; omega) f.n_pos f.r_bdd (GOk.fld f) (by have := f.n_le; show f.n ≤ 100; omega) a.v b.v a.ok b.ok
end
end Vi

set_option maxRecDepth 100000
set_option maxHeartbeats 4000000
namespace Vi
open PySem PySem.Spec PyProof.Rows L2 Lean.Grind
@[simp] theorem retOf_eq (k : Kd) (dep : List Nat) (d : D) : retOf k dep d = (match k, dep, d with
  | .fresh, _, .list l => .rl l
  | .own _, [], .list l => .rl l
  | _, _, d => .rt d) := rfl
@[simp] theorem lD_fold {α : Type} (e : α → D) (l : List α) : PyData.list (List.map e l) = lD e l := rfl
@[simp] theorem tD_fold {α : Type} (e : α → D) (l : List α) : PyData.tuple (List.map e l) = tD e l := rfl
theorem isE {α : Type} {l : List α} (h : l ≠ []) : l.isEmpty = false := by simp [h]
section
variable (g : G) [GOk g] {f : Fld}
@[simp] theorem look_numbers_1 (a : Num f) : F_look_numbers g [f.D, .list [a.D]] = some (.ret .none) := look_numbers_s g [a]
@[simp] theorem look_numbers_2 (a b : Num f) : F_look_numbers g [f.D, .list [a.D, b.D]] = some (.ret .none) := look_numbers_s g [a, b]
theorem over_s (a b : Num f) : F_over g [f.D, a.D, b.D] = if b = 0 then some (.ex "Zero") else some (.ret (a / b).D) := by
  unfold F_over
  rw [runF3]
  by_cases h : b = 0
  · simp [b_over, c_over, h, sizeLine_eq]
  · have : a / b = a * b ^ (f.q - 2) := by show a * b⁻¹ = _; rw [Num.inv_def b h]
    simp [b_over, c_over, h, sizeLine_eq, this]
end
end Vi

set_option maxRecDepth 100000
set_option maxHeartbeats 4000000
namespace Vi
open PySem PySem.Spec PyProof.Rows L2 Lean.Grind
@[simp] theorem rev_tD {α : Type} {e : α → D} (l : List α) : revD (tD e l) = some (.plain, tD e l.reverse) := by
  show some (Kd.plain, PyData.tuple (l.map e).reverse) = some (.plain, .tuple (l.reverse.map e))
  rw [List.map_reverse]
@[simp] theorem rev_lD {α : Type} {e : α → D} (l : List α) : revD (lD e l) = some (.fresh, lD e l.reverse) := by
  show some (Kd.fresh, PyData.list (l.map e).reverse) = some (.fresh, .list (l.reverse.map e))
  rw [List.map_reverse]
theorem cut_it {f : Fld} : ∀ (S : List (Num f)), itW cutC List.dropLast S.length S.reverse = (S.dropWhile fun c => decide (c = 0)).reverse
  | [] => rfl
  | c :: S => by
    show (if cutC (c :: S).reverse then itW cutC List.dropLast S.length (c :: S).reverse.dropLast else (c :: S).reverse) = _
    by_cases h : c = 0
    · have : cutC (c :: S).reverse = true := by simp [cutC, h]
      rw [if_pos this, List.reverse_cons, List.dropLast_concat, cut_it S]
      simp [h]
    · have : cutC (c :: S).reverse = false := by simp [cutC, h]
      rw [this]
      simp [h]
theorem cutR_it {f : Fld} (R : List (Num f)) : itW cutC List.dropLast R.length R = cutR R := by
  have := cut_it R.reverse
  rw [List.length_reverse, List.reverse_reverse] at this
  exact this
theorem cutC_cut {f : Fld} (R : List (Num f)) : cutC (cutR R) = false := by
  unfold cutC cutR
  rw [List.getLast?_reverse]
  have : ∀ S : List (Num f), (S.dropWhile fun c => decide (c = 0)).head? ≠ some 0 := fun S => by
    induction S with
    | nil => simp
    | cons c S ih =>
      by_cases h : c = 0
      · simpa [h] using ih
      · simp [h]
  exact decide_eq_false (this _)
section
variable (g : G) {f : Fld}
@[simp] theorem value_of_s (R : List (Num f)) (x : Num f) : F_value_of g [f.D, rD R, x.D] = some (.ret (evR R x).D) := by
  unfold F_value_of
  generalize hG : G.with g (c_value_of g) = GG
  have hfn : GG.fns = c_value_of g := by rw [← hG]; rfl
  have hfu : GG.fuel = g.fuel := by rw [← hG]; rfl
  have hco : GG.consts = g.consts := by rw [← hG]; rfl
  have his : GG.isx = g.isx := by rw [← hG]; rfl
  have hxm : GG.exm = g.exm := by rw [← hG]; rfl
  unfold c_value_of at hfn
  clear hG
  rw [runF3]
  obtain ⟨z', h, _⟩ := forL_fold (tg := .one 4) (body := ex GG b_value_of_0) (e := Num.D (f := f))
    (fun (s : Num f) z => [.val f.D, .val (rD R), .val x.D, .val s.D, os (z 0)]) (fun s c => s * x + c) (fun _ => True) R.reverse
    (fun s c z _ _ => ⟨_, z.up 0 c.D, rfl, by simp [b_value_of_0, hfn], trivial⟩) 0 Sc.no trivial
  try simp at h
  simp [b_value_of, hfn, h, evR]
theorem cut_s (R : List (Num f)) (hR : R.length ≤ 1000) (hg : 1000000 ≤ g.fuel) (d : D) (hd : d = nD R ∨ d = rD R) : F_cut g [f.D, d] = some (.ret (rD (cutR R))) := by
  unfold F_cut
  generalize hG : G.with g (c_cut g) = GG
  have hfn : GG.fns = c_cut g := by rw [← hG]; rfl
  have hfu : GG.fuel = g.fuel := by rw [← hG]; rfl
  have hco : GG.consts = g.consts := by rw [← hG]; rfl
  have his : GG.isx = g.isx := by rw [← hG]; rfl
  have hxm : GG.exm = g.exm := by rw [← hG]; rfl
  unfold c_cut at hfn
  clear hG
  rw [runF2]
  obtain ⟨z', h, _⟩ := whileL_run (c := ev GG (.land (.var 1) (.one (.cmp .eq (.idx (.var 1) (.neg (.int 1))) (.call 0 (.cons (.var 0) .nil)))))) (body := ex GG b_cut_0)
    (fun (s : List (Num f)) z => [.val f.D, .own (s.map Num.D)]) cutC List.dropLast (fun _ => True)
    (fun s z _ => by
      cases hs : s.getLast? with
      | none =>
        have := List.getLast?_eq_none_iff.mp hs
        subst this
        exact ⟨.plain, [1], .list [], by simp [hfn, Kd.tot, Kd.cont], rfl⟩
      | some c =>
        have : s ≠ [] := fun e => by rw [e] at hs; simp at hs
        exact ⟨.plain, [], .bool (decide (c = 0)), by simp [hfn, hs, this], by simp [cutC, hs]⟩)
    (fun s z _ hC => by
      refine ⟨z, ?_, trivial⟩
      have hs : s ≠ [] := fun e => by rw [e] at hC; simp [cutC] at hC
      simp [b_cut_0, hs, List.map_dropLast])
    R.length g.fuel R Sc.no trivial (by omega) (by rw [cutR_it]; exact cutC_cut R)
  rw [cutR_it] at h
  try simp at h
  rcases hd with rfl | rfl <;> simp [b_cut, hfn, hfu, h]
end
end Vi

set_option maxRecDepth 100000
set_option maxHeartbeats 4000000
namespace Vi
open PySem PySem.Spec PyProof.Rows L2 Lean.Grind
def eD {α : Type} (e : α → D) (x : α × Nat) : D := .tuple [.int x.2, e x.1]
theorem enumD_map {α : Type} (e : α → D) : ∀ (l : List α) (k : Nat), enumD (l.map e) k = (l.zipIdx k).map (eD e)
  | [], _ => rfl
  | x :: l, k => by
    show PyData.tuple [.int k, e x] :: enumD (l.map e) (k + 1) = _
    rw [enumD_map e l (k + 1)]
    rfl
section
variable {α : Type} {e : α → D}
@[simp] theorem enumR_tD (ka : Kd) (da : List Nat) (l : List α) : enumR ka da (tD e l) = some (.ok (.via ka.cont) da (lD (eD e) l.zipIdx)) := by
  show some (Rs.ok (.via ka.cont) da (.list (enumD (l.map e) 0))) = _
  rw [enumD_map]; rfl
@[simp] theorem enumR_lD (ka : Kd) (da : List Nat) (l : List α) : enumR ka da (lD e l) = some (.ok (.via ka.cont) da (lD (eD e) l.zipIdx)) := by
  show some (Rs.ok (.via ka.cont) da (.list (enumD (l.map e) 0))) = _
  rw [enumD_map]; rfl
@[simp] theorem cont_plain : Kd.cont .plain = [] := rfl
@[simp] theorem cont_fresh : Kd.cont .fresh = [] := rfl
@[simp] theorem cont_own (i : Nat) : Kd.cont (.own i) = [i] := rfl
@[simp] theorem tot_via (l p : List Nat) : Kd.tot (.via l) p = l ++ p := rfl
@[simp] theorem getT_tD0 (l : List α) : getAt (tD e l) 0 = l[0]?.map e := getT_tD l 0
@[simp] theorem getT_tD1 (l : List α) : getAt (tD e l) 1 = l[1]?.map e := getT_tD l 1
@[simp] theorem getT_lD0 (l : List α) : getAt (lD e l) 0 = l[0]?.map e := getT_lD l 0
@[simp] theorem getT_lD1 (l : List α) : getAt (lD e l) 1 = l[1]?.map e := getT_lD l 1
@[simp] theorem getT_lDadd (l : List α) (a b : Nat) : getAt (lD e l) ((a : Int) + (b : Int)) = l[a + b]?.map e := by
  rw [← Int.natCast_add, getT_lD]
@[simp] theorem getT_tDadd (l : List α) (a b : Nat) : getAt (tD e l) ((a : Int) + (b : Int)) = l[a + b]?.map e := by
  rw [← Int.natCast_add, getT_tD]
theorem setIx_em (l : List α) (k : Nat) (y : α) (h : k < l.length) : setIx (l.map e) (k : Int) (e y) = some ((l.set k y).map e) := by
  show (place (l.map e).length (k : Int)).map (fun k => (l.map e).set k (e y)) = _
  rw [place_nat, List.length_map, if_pos h, List.map_set]
  rfl
theorem setIx_emadd (l : List α) (a b : Nat) (y : α) (h : a + b < l.length) : setIx (l.map e) ((a : Int) + (b : Int)) (e y) = some ((l.set (a + b) y).map e) := by
  rw [← Int.natCast_add, setIx_em l _ y h]
end
section
variable (g : G) {f : Fld}
theorem row_times_in (GG : G) (hfn : GG.fns = c_row_times g) (R S : List (Num f)) (left : Num f) (at_ n : Nat) (hn : at_ + S.length ≤ n) (s : List (Num f)) (hs : s.length = n) (z : Sc) :
    ∃ z' : Sc, forL (.two 7 8) (ex GG b_row_times_0) (S.zipIdx.map (eD Num.D)) [.val f.D, .val (rD R), .val (rD S), .own (s.map Num.D), .un, .val (.int at_), .val left.D, os (z 0), os (z 1)] =
      some (.nx [.val f.D, .val (rD R), .val (rD S), .own ((mulIn left at_ S s).map Num.D), .un, .val (.int at_), .val left.D, os (z' 0), os (z' 1)]) := by
  obtain ⟨z', h, _⟩ := forL_fold (tg := .two 7 8) (body := ex GG b_row_times_0) (e := eD (Num.D (f := f)))
    (fun (s : List (Num f)) z => [.val f.D, .val (rD R), .val (rD S), .own (s.map Num.D), .un, .val (.int at_), .val left.D, os (z 0), os (z 1)])
    (fun s y => s.set (at_ + y.2) (s.getD (at_ + y.2) 0 + left * y.1)) (fun s => s.length = n) S.zipIdx
    (fun s y z hy hs => by
      obtain ⟨c, k⟩ := y
      have hk : k < S.length := by have := List.mem_zipIdx hy; omega
      have hk2 : at_ + k < s.length := by omega
      refine ⟨_, (z.up 0 (.int k)).up 1 c.D, rfl, ?_, by simpa using hs⟩
      have h1 : s[at_ + k]? = some (s.getD (at_ + k) 0) := by simp [hk2]
      have h2 := setIx_emadd (e := Num.D (f := f)) s at_ k (s.getD (at_ + k) 0 + left * c) hk2
      generalize s.getD (at_ + k) 0 = w at h1 h2
      simp [b_row_times_0, hfn, c_row_times, eD, h1, h2, Sc.up]) s z hs
  exact ⟨z', h⟩
@[simp] theorem row_times_s (R S : List (Num f)) (hR : R.length ≤ 1000) (hS : S.length ≤ 1000) : F_row_times g [f.D, rD R, rD S] = some (.ret (rD (mulR R S))) := by
  unfold F_row_times
  generalize hG : G.with g (c_row_times g) = GG
  have hfn : GG.fns = c_row_times g := by rw [← hG]; rfl
  have hfu : GG.fuel = g.fuel := by rw [← hG]; rfl
  have hco : GG.consts = g.consts := by rw [← hG]; rfl
  have his : GG.isx = g.isx := by rw [← hG]; rfl
  have hxm : GG.exm = g.exm := by rw [← hG]; rfl
  unfold c_row_times at hfn
  clear hG
  rw [runF3]
  by_cases h0 : R = [] ∨ S = []
  · have e : mulR R S = [] := if_pos h0
    rw [e]
    rcases h0 with rfl | rfl
    · simp [b_row_times, sizeLine_eq]; rfl
    · by_cases h1 : R = []
      · subst h1; simp [b_row_times, sizeLine_eq]; rfl
      · simp [b_row_times, sizeLine_eq, h1]; rfl
  · have hR0 : R ≠ [] := fun e => h0 (.inl e)
    have hS0 : S ≠ [] := fun e => h0 (.inr e)
    have hl : 0 < R.length := List.length_pos_iff.mpr hR0
    have hl2 : 0 < S.length := List.length_pos_iff.mpr hS0
    have hcomp : ev GG (.comp (.one 4) (.range1 (.bin .sub (.bin .add (.bf .len (.var 1)) (.bf .len (.var 2))) (.int 1))) .miss (.call 0 (.cons (.var 0) .nil))) [.val f.D, .val (rD R), .val (rD S), .un, .un, .un, .un, .un, .un] = some (.ok .fresh [] (nD (List.replicate (R.length + S.length - 1) (0 : Num f)))) := by
      have e : (R.length : Int) + (S.length : Int) - 1 = ((R.length + S.length - 1 : Nat) : Int) := by omega
      refine ev_comp (ev_range1 (k := .plain) (p := []) (n := R.length + S.length - 1) (by simp [e]) (by omega)) rfl rfl rfl ?_ (sz (by simp; omega))
      rw [rangeD_map, compL_emm (e := fun (k : Nat) => PyData.int k) (h := Num.D (f := f)) (k := fun _ => 0)]
      · rw [List.map_const', List.length_range]
      · intro k _
        simp [compF, isMiss, bindT, Tg.wipe, compE, hfn]
    obtain ⟨z', h, _⟩ := forL_fold (tg := .two 5 6) (body := ex GG b_row_times_1) (e := eD (Num.D (f := f)))
      (fun (s : List (Num f)) z => [.val f.D, .val (rD R), .val (rD S), .own (s.map Num.D), .un, os (z 2), os (z 3), os (z 0), os (z 1)])
      (fun s x => mulIn x.1 x.2 S s) (fun s => s.length = R.length + S.length - 1) R.zipIdx
      (fun s y z hy hs => by
        obtain ⟨c, k⟩ := y
        have hk : k < R.length := by have := List.mem_zipIdx hy; omega
        obtain ⟨z1, e1⟩ := row_times_in g GG hfn R S c k (R.length + S.length - 1) (by omega) s hs z
        refine ⟨_, fun i => if i = 2 then some (.int k) else if i = 3 then some c.D else z1 i, rfl, ?_, by rw [mulIn_len]; exact hs⟩
        try simp at e1
        simp [b_row_times_1, eD, e1]) (List.replicate (R.length + S.length - 1) 0) Sc.no (by simp)
    have e : mulR R S = R.zipIdx.foldl (fun s x => mulIn x.1 x.2 S s) (List.replicate (R.length + S.length - 1) 0) := if_neg h0
    rw [e]
    try simp at h
    simp [b_row_times, isE hR0, isE hS0, hfn, hcomp, h]
end
end Vi

set_option maxRecDepth 100000
set_option maxHeartbeats 4000000
namespace Vi
open PySem PySem.Spec PyProof.Rows L2 Lean.Grind
section
variable {α β : Type} {e : α → D} {h : β → D}
theorem ev_comp_em {g : G} {tg : Tg} {it c el : E} {ρ : REnv} {k : Kd} {x : D} (e : α → D) (h : β → D) (cf : α → Bool) (kf : α → β) (l : List α) (hit : ev g it ρ = some (.ok k [] x)) (hx : items x = some (l.map e)) (hf : tgFree tg ρ = true) (he : noExc ρ = true)
    (H : ∀ x ∈ l, compF (ev g c) (ev g el) (isMiss c) tg ρ (e x) = some (if cf x then some (h (kf x)) else none)) (hl : l.length ≤ 10000000) :
    ev g (.comp tg it c el) ρ = some (.ok .fresh [] (lD h ((l.filter cf).map kf))) := by
  refine ev_comp hit hx hf he (compL_em e h cf kf l H) (sz ?_)
  have := List.length_filter_le cf l
  simp
  omega
theorem ev_comp_m {g : G} {tg : Tg} {it c el : E} {ρ : REnv} {k : Kd} {x : D} (e : α → D) (h : β → D) (kf : α → β) (l : List α) (hit : ev g it ρ = some (.ok k [] x)) (hx : items x = some (l.map e)) (hf : tgFree tg ρ = true) (he : noExc ρ = true)
    (H : ∀ x ∈ l, compF (ev g c) (ev g el) (isMiss c) tg ρ (e x) = some (some (h (kf x)))) (hl : l.length ≤ 10000000) :
    ev g (.comp tg it c el) ρ = some (.ok .fresh [] (lD h (l.map kf))) := by
  exact ev_comp hit hx hf he (compL_emm e h kf l H) (sz (by simp; omega))
theorem pairs_em : ∀ (l : List α) (m : List β), pairs (l.map e) (m.map h) = (l.zip m).map (pD e h)
  | [], m => by cases m <;> rfl
  | x :: l, [] => rfl
  | x :: l, y :: m => by
    show PyData.tuple [e x, h y] :: pairs (l.map e) (m.map h) = _
    rw [pairs_em l m]; rfl
@[simp] theorem zipR_tD (ka kb : Kd) (da db : List Nat) (l : List α) (m : List β) : zipR ka da (tD e l) kb db (tD h m) = some (.ok (.via []) (da ++ db) (lD (pD e h) (l.zip m))) := by
  show some (Rs.ok (.via []) (da ++ db) (.list (pairs (l.map e) (m.map h)))) = _
  rw [pairs_em]; rfl
@[simp] theorem zipR_lD (ka kb : Kd) (da db : List Nat) (l : List α) (m : List β) : zipR ka da (lD e l) kb db (lD h m) = some (.ok (.via (ka.cont ++ kb.cont)) (da ++ db) (lD (pD e h) (l.zip m))) := by
  show some (Rs.ok (.via (ka.cont ++ kb.cont)) (da ++ db) (.list (pairs (l.map e) (m.map h)))) = _
  rw [pairs_em]; rfl
theorem b_addtD (ka : Kd) (l m : List α) (H : l.length + m.length ≤ 10000000) : binop ka .add (tD e l) (tD e m) = some (.plain, tD e (l ++ m)) := by
  have := b_addT ka (l.map e) (m.map e) (sz (by simpa using H))
  rw [← List.map_append] at this
  exact this
theorem b_addlD (ka : Kd) (l m : List α) (H : l.length + m.length ≤ 10000000) : binop ka .add (lD e l) (lD e m) = some (.fresh, lD e (l ++ m)) := by
  have := b_addL ka (l.map e) (m.map e) (sz (by simpa using H))
  rw [← List.map_append] at this
  exact this
theorem flat_rep (d : D) (n : Nat) : (List.replicate n [d]).flatten = List.replicate n d := by
  induction n with
  | zero => rfl
  | succ n ih => rw [List.replicate_succ, List.flatten_cons, ih]; rfl
theorem b_repN (ka : Kd) (x : α) (n : Nat) (H : n ≤ 1000) : binop ka .mul (.tuple [e x]) (.int n) = some (.plain, tD e (List.replicate n x)) := by
  show (if [e x].length ≤ 1000 ∧ (n : Int) ≤ 1000 ∧ -1000 ≤ (n : Int) then some (Kd.plain, PyData.tuple (List.replicate (n : Int).toNat [e x]).flatten) else none) = _
  rw [if_pos ⟨by simp, by omega, by omega⟩, Int.toNat_natCast, flat_rep]
  show some (Kd.plain, PyData.tuple (List.replicate n (e x))) = some (.plain, .tuple ((List.replicate n x).map e))
  rw [List.map_replicate]
end
section
variable (g : G) {f : Fld}
theorem row_less_s (hg : 1000000 ≤ g.fuel) (R S : List (Num f)) (hR : R.length ≤ 500) (hS : S.length ≤ 500) : F_row_less g [f.D, rD R, rD S] = some (.ret (rD (subR R S))) := by
  unfold F_row_less
  generalize hG : G.with g (c_row_less g) = GG
  have hfn : GG.fns = c_row_less g := by rw [← hG]; rfl
  have hfu : GG.fuel = g.fuel := by rw [← hG]; rfl
  have hco : GG.consts = g.consts := by rw [← hG]; rfl
  have his : GG.isx = g.isx := by rw [← hG]; rfl
  have hxm : GG.exm = g.exm := by rw [← hG]; rfl
  unfold c_row_less at hfn
  clear hG
  rw [runF3]
  obtain ⟨n, hn⟩ : ∃ n, n = max R.length S.length := ⟨_, rfl⟩
  have h1 : (if R.length < S.length then (S.length : Int) else R.length) = (n : Int) := by split <;> omega
  have h2 : (n : Int) - R.length = ((n - R.length : Nat) : Int) := by omega
  have h3 : (n : Int) - S.length = ((n - S.length : Nat) : Int) := by omega
  have r1 := b_repN (e := Num.D (f := f)) .plain 0 (n - R.length) (by omega)
  have r2 := b_repN (e := Num.D (f := f)) .plain 0 (n - S.length) (by omega)
  have a1 := b_addtD (e := Num.D (f := f)) .plain R (List.replicate (n - R.length) 0) (by simp; omega)
  have a2 := b_addtD (e := Num.D (f := f)) .plain S (List.replicate (n - S.length) 0) (by simp; omega)
  generalize hA : R ++ List.replicate (n - R.length) (0 : Num f) = A at a1
  generalize hB : S ++ List.replicate (n - S.length) (0 : Num f) = B at a2
  have hAl : A.length = n := by rw [← hA]; simp; omega
  have hcomp : ev GG (.comp (.two 6 7) (.zip (.var 4) (.var 5)) .miss (.call 1 (.cons (.var 0) (.cons (.var 6) (.cons (.var 7) .nil))))) [.val f.D, .val (rD R), .val (rD S), .val (.int n), .val (rD A), .val (rD B), .un, .un] = some (.ok .fresh [] (nD ((A.zip B).map fun x => x.1 - x.2))) := by
    refine ev_comp_m (k := .via []) (x := lD (pD Num.D Num.D) (A.zip B)) (pD Num.D Num.D) Num.D (fun x => x.1 - x.2) (A.zip B) (by simp) rfl rfl rfl (fun x hx => ?_) (by simp; omega)
    simp [compF, isMiss, bindT, Tg.wipe, compE, hfn, pD]
  have hz : ((A.zip B).map fun x => x.1 - x.2) = List.zipWith (· - ·) A B := by
    rw [← List.map_uncurry_zip_eq_zipWith]; rfl
  rw [hz] at hcomp
  have hc := cut_s g (List.zipWith (· - ·) A B) (by simp; omega) hg _ (.inl rfl)
  have hs : subR R S = cutR (List.zipWith (· - ·) A B) := by unfold subR; rw [← hA, ← hB, hn]
  rw [hs]
  simp [b_row_less, hfn, sizeLine_eq, h1, h2, h3, r1, r2, a1, a2, hcomp, hc]
end
end Vi

set_option maxRecDepth 100000
set_option maxHeartbeats 4000000
namespace Vi
open Lean.Grind
/-! ### raising by the prime -/
section
variable {f : Fld}
theorem fr_add (a b : Num f) : ∀ k, (a + b) ^ (f.p ^ k) = a ^ (f.p ^ k) + b ^ (f.p ^ k)
  | 0 => by simp only [Nat.pow_zero, Semiring.pow_one]
  | k + 1 => by rw [Nat.pow_succ, Num.pow_mul', fr_add a b k, Num.frob_add, ← Num.pow_mul', ← Num.pow_mul']
theorem fr_mul (a b : Num f) (k : Nat) : (a * b) ^ (f.p ^ k) = a ^ (f.p ^ k) * b ^ (f.p ^ k) := Num.mul_pow' a b _
theorem fr_comp (a : Num f) (i j : Nat) : (a ^ (f.p ^ i)) ^ (f.p ^ j) = a ^ (f.p ^ (i + j)) := by rw [← Num.pow_mul', ← Nat.pow_add]
theorem fr_n (a : Num f) : a ^ (f.p ^ f.n) = a := Num.frob_q a
theorem fr_mul_n (a : Num f) : ∀ k, a ^ (f.p ^ (f.n * k)) = a
  | 0 => by simp only [Nat.mul_zero, Nat.pow_zero, Semiring.pow_one]
  | k + 1 => by rw [Nat.mul_succ, ← fr_comp, fr_mul_n a k, fr_n]
theorem fr_mod (a : Num f) (k : Nat) : a ^ (f.p ^ (k % f.n)) = a ^ (f.p ^ k) := by
  have e : k = f.n * (k / f.n) + k % f.n := (Nat.div_add_mod ..).symm
  conv => rhs; rw [e, ← fr_comp, fr_mul_n]
theorem fr_zero (k : Nat) : (0 : Num f) ^ (f.p ^ k) = 0 := Num.zero_pow' (Nat.pow_pos (by have := f.p_two; omega))
theorem fr_one (k : Nat) : (1 : Num f) ^ (f.p ^ k) = 1 := Num.one_pow' _
theorem fr_inj {a b : Num f} {k : Nat} (h : a ^ (f.p ^ k) = b ^ (f.p ^ k)) : a = b := by
  have h0 := f.n_pos
  have e : f.n * k = k + (f.n * k - k) := by
    have : 1 * k ≤ f.n * k := Nat.mul_le_mul_right k h0
    omega
  have := congrArg (fun x => x ^ (f.p ^ (f.n * k - k))) h
  simp only [fr_comp, ← e, fr_mul_n] at this
  exact this
theorem fr_nat (x : Nat) (k : Nat) : ((x : Nat) : Num f) ^ (f.p ^ k) = (x : Num f) := by
  induction x with
  | zero =>
    have : ((0 : Nat) : Num f) = 0 := rfl
    rw [this, fr_zero]
  | succ x ih =>
    have : ((x + 1 : Nat) : Num f) = (x : Num f) + 1 := Num.cast_add' (f := f) x 1
    rw [this, fr_add, ih, fr_one]
theorem fr_neg (a : Num f) (k : Nat) : (-a) ^ (f.p ^ k) = - a ^ (f.p ^ k) := by
  have h := fr_add a (-a) k
  have e : a + -a = 0 := by grind
  rw [e, fr_zero] at h
  grind
theorem fr_sub (a b : Num f) (k : Nat) : (a - b) ^ (f.p ^ k) = a ^ (f.p ^ k) - b ^ (f.p ^ k) := by
  have e : a - b = a + -b := by grind
  rw [e, fr_add, fr_neg]; grind
theorem cast_mod (x : Int) : ((x : Int) : Num f) = ((x % (f.p : Int)).toNat : Num f) := by
  show Num.wh f x = Num.wh f _
  refine Num.ext_v ?_
  show wholeV f.p f.n x = wholeV f.p f.n _
  have h := Int.emod_nonneg x (by have := f.p_pos; omega : (f.p : Int) ≠ 0)
  unfold wholeV
  rw [Int.toNat_of_nonneg h, Int.emod_emod]
/-- figures stay -/
theorem fr_int (x : Int) (k : Nat) : ((x : Int) : Num f) ^ (f.p ^ k) = (x : Num f) := by rw [cast_mod, fr_nat]
theorem fr_sm (F : Nat → Num f) (k : Nat) : ∀ n, (sm n F) ^ (f.p ^ k) = sm n fun i => F i ^ (f.p ^ k)
  | 0 => fr_zero k
  | n + 1 => by
    show (sm n F + F n) ^ (f.p ^ k) = _
    rw [fr_add, fr_sm F k n]; rfl
/-- products -/
def pm : Nat → (Nat → Num f) → Num f
  | 0, _ => 1
  | m + 1, F => pm m F * F m
theorem pm_congr {F h : Nat → Num f} : ∀ (m : Nat), (∀ k, k < m → F k = h k) → pm m F = pm m h
  | 0, _ => rfl
  | m + 1, e => by
    unfold pm
    rw [pm_congr m fun k hk => e k (by omega), e m (by omega)]
theorem pm_mul (F h : Nat → Num f) : ∀ m, pm m (fun k => F k * h k) = pm m F * pm m h
  | 0 => by simp only [pm]; grind
  | m + 1 => by
    simp only [pm]
    rw [pm_mul F h m]
    grind
theorem fr_pm (F : Nat → Num f) (k : Nat) : ∀ n, (pm n F) ^ (f.p ^ k) = pm n fun i => F i ^ (f.p ^ k)
  | 0 => fr_one k
  | n + 1 => by
    show (pm n F * F n) ^ (f.p ^ k) = _
    rw [fr_mul, fr_pm F k n]; rfl
theorem pm_one : ∀ m, pm m (fun _ => (1 : Num f)) = 1
  | 0 => rfl
  | m + 1 => by
    simp only [pm]
    rw [pm_one m]; grind
theorem pm_const (a : Num f) : ∀ m, pm m (fun _ => a) = a ^ m
  | 0 => rfl
  | m + 1 => by
    simp only [pm]
    rw [pm_const a m, Semiring.pow_succ]
theorem sm_const (a : Num f) : ∀ m, sm m (fun _ => a) = (m : Num f) * a
  | 0 => by
    have : ((0 : Nat) : Num f) = 0 := rfl
    rw [this]
    show (0 : Num f) = _
    grind
  | m + 1 => by
    simp only [sm]
    have : ((m + 1 : Nat) : Num f) = (m : Num f) + 1 := Num.cast_add' (f := f) m 1
    rw [sm_const a m, this]; grind
theorem pm_shift (F : Nat → Num f) : ∀ m, pm (m + 1) F = F 0 * pm m fun k => F (k + 1)
  | 0 => by simp only [pm]; grind
  | m + 1 => by
    show pm (m + 1) F * F (m + 1) = F 0 * (pm m (fun k => F (k + 1)) * F (m + 1))
    rw [pm_shift F m]
    grind
theorem sm_append (F : Nat → Num f) (m : Nat) : ∀ k, sm (m + k) F = sm m F + sm k fun i => F (m + i)
  | 0 => by show sm m F = sm m F + 0; grind
  | k + 1 => by
    show sm (m + k) F + F (m + k) = sm m F + (sm k (fun i => F (m + i)) + F (m + k))
    rw [sm_append F m k]; grind
theorem pm_append (F : Nat → Num f) (m : Nat) : ∀ k, pm (m + k) F = pm m F * pm k fun i => F (m + i)
  | 0 => by show pm m F = pm m F * 1; grind
  | k + 1 => by
    show pm (m + k) F * F (m + k) = pm m F * (pm k (fun i => F (m + i)) * F (m + k))
    rw [pm_append F m k]; grind
/-- sums over a rectangle -/
theorem sm_rect (F : Nat → Num f) (a : Nat) : ∀ b, sm (a * b) F = sm b fun j => sm a fun i => F (a * j + i)
  | 0 => rfl
  | b + 1 => by
    rw [Nat.mul_succ, sm_append, sm_rect F a b]
    rfl
theorem pm_rect (F : Nat → Num f) (a : Nat) : ∀ b, pm (a * b) F = pm b fun j => pm a fun i => F (a * j + i)
  | 0 => rfl
  | b + 1 => by
    rw [Nat.mul_succ, pm_append, pm_rect F a b]
    rfl
theorem pm_swap (F : Nat → Nat → Num f) : ∀ m n, pm m (fun i => pm n (F i)) = pm n (fun j => pm m (fun i => F i j))
  | 0, n => by
    show 1 = pm n (fun _ => 1)
    rw [pm_one]
  | m + 1, n => by
    show pm m (fun i => pm n (F i)) * pm n (F m) = pm n (fun j => pm m (fun i => F i j) * F m j)
    rw [pm_swap F m n, pm_mul]
/-! traces and norms -/
def trN (a : Num f) (m : Nat) : Num f := sm (f.n / m) fun t => a ^ (f.p ^ (m * t))
def nrN (a : Num f) (m : Nat) : Num f := pm (f.n / m) fun t => a ^ (f.p ^ (m * t))
theorem tr_add (a b : Num f) (m : Nat) : trN (a + b) m = trN a m + trN b m := by
  unfold trN
  rw [← sm_add]
  exact sm_congr _ fun t _ => fr_add a b _
theorem nr_mul (a b : Num f) (m : Nat) : nrN (a * b) m = nrN a m * nrN b m := by
  unfold nrN
  rw [← pm_mul]
  exact pm_congr _ fun t _ => fr_mul a b _
theorem tr_fixed {c : Num f} (a : Num f) (m : Nat) (h : c ^ (f.p ^ m) = c) : trN (c * a) m = c * trN a m := by
  have hc : ∀ t, c ^ (f.p ^ (m * t)) = c := fun t => by
    induction t with
    | zero => simp only [Nat.mul_zero, Nat.pow_zero, Semiring.pow_one]
    | succ t ih => rw [Nat.mul_succ, ← fr_comp, ih, h]
  unfold trN
  rw [← sm_mul]
  exact sm_congr _ fun t _ => by rw [fr_mul, hc]
theorem tr_fr (a : Num f) (m : Nat) (h : f.n % m = 0) (h0 : 0 < f.n / m) : trN (a ^ (f.p ^ m)) m = trN a m := by
  obtain ⟨k, hk⟩ : ∃ k, f.n / m = k + 1 := ⟨f.n / m - 1, by omega⟩
  have e : m * (k + 1) = f.n := by rw [← hk]; have := Nat.div_add_mod f.n m; omega
  unfold trN
  rw [hk, sm_shift (fun t => a ^ (f.p ^ (m * t)))]
  show sm k (fun t => (a ^ (f.p ^ m)) ^ (f.p ^ (m * t))) + (a ^ (f.p ^ m)) ^ (f.p ^ (m * k)) = _
  rw [fr_comp, show m + m * k = f.n by rw [← e, Nat.mul_succ]; omega, fr_n, Nat.mul_zero, Nat.pow_zero, Semiring.pow_one, sm_congr (h := fun t => a ^ (f.p ^ (m * (t + 1)))) k fun t _ => by rw [fr_comp, Nat.mul_succ, Nat.add_comm]]
  grind
theorem nr_fr (a : Num f) (m : Nat) (h : f.n % m = 0) (h0 : 0 < f.n / m) : nrN (a ^ (f.p ^ m)) m = nrN a m := by
  obtain ⟨k, hk⟩ : ∃ k, f.n / m = k + 1 := ⟨f.n / m - 1, by omega⟩
  have e : m * (k + 1) = f.n := by rw [← hk]; have := Nat.div_add_mod f.n m; omega
  unfold nrN
  rw [hk, pm_shift (fun t => a ^ (f.p ^ (m * t)))]
  show pm k (fun t => (a ^ (f.p ^ m)) ^ (f.p ^ (m * t))) * (a ^ (f.p ^ m)) ^ (f.p ^ (m * k)) = _
  rw [fr_comp, show m + m * k = f.n by rw [← e, Nat.mul_succ]; omega, fr_n, Nat.mul_zero, Nat.pow_zero, Semiring.pow_one, pm_congr (h := fun t => a ^ (f.p ^ (m * (t + 1)))) k fun t _ => by rw [fr_comp, Nat.mul_succ, Nat.add_comm]]
  grind
/-- traces lie in the lesser field -/
theorem tr_in (a : Num f) (m : Nat) (h : f.n % m = 0) (h0 : 0 < f.n / m) : (trN a m) ^ (f.p ^ m) = trN a m := by
  have e : (trN a m) ^ (f.p ^ m) = trN (a ^ (f.p ^ m)) m := by
    unfold trN
    rw [fr_sm]
    exact sm_congr _ fun t _ => by rw [fr_comp, fr_comp, Nat.add_comm]
  rw [e, tr_fr a m h h0]
theorem nr_in (a : Num f) (m : Nat) (h : f.n % m = 0) (h0 : 0 < f.n / m) : (nrN a m) ^ (f.p ^ m) = nrN a m := by
  have e : (nrN a m) ^ (f.p ^ m) = nrN (a ^ (f.p ^ m)) m := by
    unfold nrN
    rw [fr_pm]
    exact pm_congr _ fun t _ => by rw [fr_comp, fr_comp, Nat.add_comm]
  rw [e, nr_fr a m h h0]
/-- a trace by a lesser field, then by a lesser one of it -/
theorem tr_tower (a : Num f) (m s : Nat) (hm : f.n % m = 0) (hs : m % s = 0) (hm0 : 0 < m) : (sm (m / s) fun t => (trN a m) ^ (f.p ^ (s * t))) = trN a s := by
  have e1 : s * (m / s) = m := by have := Nat.div_add_mod m s; omega
  have e2 : m * (f.n / m) = f.n := by have := Nat.div_add_mod f.n m; omega
  have hs0 : 0 < s := Nat.pos_of_ne_zero fun e => by subst e; simp at e1; omega
  have e3 : f.n / s = (m / s) * (f.n / m) := by
    conv => lhs; rw [← e2, ← e1, Nat.mul_assoc]
    rw [Nat.mul_div_cancel_left _ hs0, e1]
  unfold trN
  rw [e3, sm_rect, sm_swap]
  refine sm_congr (m / s) fun t _ => ?_
  rw [fr_sm]
  refine sm_congr _ fun j _ => ?_
  rw [fr_comp, Nat.mul_add, ← Nat.mul_assoc, e1]
theorem nr_tower (a : Num f) (m s : Nat) (hm : f.n % m = 0) (hs : m % s = 0) (hm0 : 0 < m) : (pm (m / s) fun t => (nrN a m) ^ (f.p ^ (s * t))) = nrN a s := by
  have e1 : s * (m / s) = m := by have := Nat.div_add_mod m s; omega
  have e2 : m * (f.n / m) = f.n := by have := Nat.div_add_mod f.n m; omega
  have hs0 : 0 < s := Nat.pos_of_ne_zero fun e => by subst e; simp at e1; omega
  have e3 : f.n / s = (m / s) * (f.n / m) := by
    conv => lhs; rw [← e2, ← e1, Nat.mul_assoc]
    rw [Nat.mul_div_cancel_left _ hs0, e1]
  unfold nrN
  rw [e3, pm_rect, pm_swap]
  refine pm_congr (m / s) fun t _ => ?_
  rw [fr_pm]
  refine pm_congr _ fun j _ => ?_
  rw [fr_comp, Nat.mul_add, ← Nat.mul_assoc, e1]
theorem tr_all (a : Num f) : trN a f.n = a := by
  unfold trN
  rw [Nat.div_self f.n_pos]
  show 0 + a ^ (f.p ^ (f.n * 0)) = a
  rw [Nat.mul_zero, Nat.pow_zero, Semiring.pow_one]; grind
theorem nr_all (a : Num f) : nrN a f.n = a := by
  unfold nrN
  rw [Nat.div_self f.n_pos]
  show 1 * a ^ (f.p ^ (f.n * 0)) = a
  rw [Nat.mul_zero, Nat.pow_zero, Semiring.pow_one]; grind
end
end Vi

set_option maxRecDepth 100000
set_option maxHeartbeats 4000000
namespace Vi
open Lean.Grind
/-! ### at home -/
section
variable {f : Fld}
/-- how many figures the least field has in which a number lies -/
def hmN (a : Num f) : Nat := ((List.range f.n).find? fun k => decide (a ^ (f.p ^ (k + 1)) = a)).getD 0 + 1
theorem hm_some (a : Num f) : ∃ k, (List.range f.n).find? (fun k => decide (a ^ (f.p ^ (k + 1)) = a)) = some k ∧ k < f.n := by
  have h0 := f.n_pos
  cases q : (List.range f.n).find? fun k => decide (a ^ (f.p ^ (k + 1)) = a) with
  | none =>
    have := List.find?_eq_none.mp q (f.n - 1) (List.mem_range.mpr (by omega))
    rw [show f.n - 1 + 1 = f.n by omega] at this
    exact absurd (_root_.decide_eq_true (fr_n a)) this
  | some k => exact ⟨k, rfl, List.mem_range.mp (List.mem_of_find?_eq_some q)⟩
theorem hm_pos (a : Num f) : 0 < hmN a := Nat.succ_pos _
theorem hm_le (a : Num f) : hmN a ≤ f.n := by
  obtain ⟨k, e, h⟩ := hm_some a
  unfold hmN
  rw [e]
  show k + 1 ≤ f.n
  omega
theorem hm_fix (a : Num f) : a ^ (f.p ^ hmN a) = a := by
  obtain ⟨k, e, h⟩ := hm_some a
  unfold hmN
  rw [e]
  have h2 := List.find?_some e
  exact _root_.of_decide_eq_true h2
theorem hm_min (a : Num f) {k : Nat} (h0 : 0 < k) (h : k < hmN a) : a ^ (f.p ^ k) ≠ a := by
  obtain ⟨j, e, hj⟩ := hm_some a
  have hh : hmN a = j + 1 := by unfold hmN; rw [e]; rfl
  intro hk
  obtain ⟨i, rfl⟩ : ∃ i, k = i + 1 := ⟨k - 1, by omega⟩
  have hx := List.find?_eq_some_iff_getElem.mp e
  obtain ⟨_, j', hj', ej, hall⟩ := hx
  rw [List.getElem_range] at ej
  have := hall i (by omega)
  rw [List.getElem_range] at this
  simp [hk] at this
theorem fr_mul_hm (a : Num f) : ∀ k, a ^ (f.p ^ (hmN a * k)) = a
  | 0 => by simp only [Nat.mul_zero, Nat.pow_zero, Semiring.pow_one]
  | k + 1 => by rw [Nat.mul_succ, ← fr_comp, fr_mul_hm a k, hm_fix]
theorem fr_mod_hm (a : Num f) (k : Nat) : a ^ (f.p ^ (k % hmN a)) = a ^ (f.p ^ k) := by
  have e : k = hmN a * (k / hmN a) + k % hmN a := (Nat.div_add_mod ..).symm
  conv => rhs; rw [e, ← fr_comp, fr_mul_hm]
theorem hm_iff (a : Num f) (k : Nat) : a ^ (f.p ^ k) = a ↔ k % hmN a = 0 := by
  rw [← fr_mod_hm]
  constructor
  · intro h
    by_cases q : k % hmN a = 0
    · exact q
    · exact absurd h (hm_min a (by omega) (Nat.mod_lt _ (hm_pos a)))
  · intro h
    rw [h, Nat.pow_zero, Semiring.pow_one]
theorem hm_dvd (a : Num f) : f.n % hmN a = 0 := (hm_iff a f.n).mp (fr_n a)
/-- a number and all that are alike to it -/
def alR (a : Num f) : List (Num f) := (List.range (hmN a)).map fun k => a ^ (f.p ^ k)
theorem alR_len (a : Num f) : (alR a).length = hmN a := by simp [alR]
theorem alR_inj (a : Num f) {i j : Nat} (hi : i < hmN a) (hj : j < hmN a) (h : a ^ (f.p ^ i) = a ^ (f.p ^ j)) : i = j := by
  have key : ∀ i j : Nat, i < j → j < hmN a → a ^ (f.p ^ i) = a ^ (f.p ^ j) → False := fun i j hij hj h => by
    have e : a ^ (f.p ^ j) = (a ^ (f.p ^ (j - i))) ^ (f.p ^ i) := by rw [fr_comp, show j - i + i = j by omega]
    rw [e] at h
    exact hm_min a (by omega) (by omega) (fr_inj h).symm
  rcases Nat.lt_trichotomy i j with q | q | q
  · exact (key i j q hj h).elim
  · exact q
  · exact (key j i q hi h.symm).elim
theorem alR_nodup (a : Num f) : (alR a).Nodup := by
  unfold alR
  rw [List.nodup_iff_pairwise_ne, List.pairwise_map]
  refine (List.Pairwise.and_mem.mp (List.nodup_iff_pairwise_ne.mp (List.nodup_range (n := hmN a)))).imp ?_
  rintro i j ⟨hi, hj, hij⟩ e
  exact hij (alR_inj a (List.mem_range.mp hi) (List.mem_range.mp hj) e)
theorem alR_mem {a b : Num f} : b ∈ alR a ↔ ∃ k, b = a ^ (f.p ^ k) := by
  unfold alR
  rw [List.mem_map]
  constructor
  · rintro ⟨k, _, rfl⟩; exact ⟨k, rfl⟩
  · rintro ⟨k, rfl⟩
    exact ⟨k % hmN a, List.mem_range.mpr (Nat.mod_lt _ (hm_pos a)), fr_mod_hm a k⟩
theorem alR_self (a : Num f) : a ∈ alR a := alR_mem.mpr ⟨0, by rw [Nat.pow_zero, Semiring.pow_one]⟩
theorem alR_symm {a b : Num f} (h : b ∈ alR a) : a ∈ alR b := by
  obtain ⟨k, rfl⟩ := alR_mem.mp h
  refine alR_mem.mpr ⟨f.n * k - k, ?_⟩
  have h0 := f.n_pos
  rw [fr_comp, show k + (f.n * k - k) = f.n * k by
    have : 1 * k ≤ f.n * k := Nat.mul_le_mul_right k h0
    omega, fr_mul_n]
theorem hm_alike {a b : Num f} (h : b ∈ alR a) : hmN b = hmN a := by
  have key : ∀ (a : Num f) (k : Nat), a ^ (f.p ^ k) = a ↔ ∀ j, (a ^ (f.p ^ j)) ^ (f.p ^ k) = a ^ (f.p ^ j) := fun a k => by
    constructor
    · intro h j
      rw [fr_comp, Nat.add_comm, ← fr_comp, h]
    · intro h
      have := h 0
      rwa [Nat.pow_zero, Semiring.pow_one] at this
  obtain ⟨j, rfl⟩ := alR_mem.mp h
  have h1 : ∀ k, (a ^ (f.p ^ j)) ^ (f.p ^ k) = a ^ (f.p ^ j) ↔ a ^ (f.p ^ k) = a := fun k => by
    constructor
    · intro e
      refine fr_inj (k := j) ?_
      rw [fr_comp, Nat.add_comm, ← fr_comp, e]
    · intro e
      rw [fr_comp, Nat.add_comm, ← fr_comp, e]
  have d1 := (hm_iff a (hmN (a ^ (f.p ^ j)))).mp ((h1 _).mp (hm_fix _))
  have d2 := (hm_iff (a ^ (f.p ^ j)) (hmN a)).mp ((h1 _).mpr (hm_fix _))
  exact Nat.dvd_antisymm (Nat.dvd_of_mod_eq_zero d2) (Nat.dvd_of_mod_eq_zero d1)
/-! the loop that finds them -/
def alC (a : Num f) (s : List (Num f)) : Bool := !decide (lastR s ^ f.p = a)
def alF (s : List (Num f)) : List (Num f) := s ++ [lastR s ^ f.p]
theorem al_last (a : Num f) (j : Nat) : lastR ((List.range (j + 1)).map fun k => a ^ (f.p ^ k)) = a ^ (f.p ^ j) := by
  unfold lastR
  rw [List.range_succ, List.map_append]
  simp
theorem al_it (a : Num f) : ∀ (k j : Nat), j + 1 ≤ hmN a → hmN a ≤ j + 1 + k → itW (alC a) alF k ((List.range (j + 1)).map fun k => a ^ (f.p ^ k)) = alR a
  | 0, j, h1, h2 => by
    have : j + 1 = hmN a := by omega
    show _ = alR a
    rw [this]; rfl
  | k + 1, j, h1, h2 => by
    show (if alC a _ then itW (alC a) alF k (alF _) else _) = _
    have e : alC a ((List.range (j + 1)).map fun k => a ^ (f.p ^ k)) = !decide (a ^ (f.p ^ (j + 1)) = a) := by
      unfold alC
      rw [al_last, ← Num.pow_mul', Nat.pow_succ]
    rw [e]
    by_cases h : j + 1 = hmN a
    · rw [h, hm_fix]
      simp [alR]
    · have hne := hm_min a (show 0 < j + 1 by omega) (by omega)
      rw [_root_.decide_eq_false hne]
      have e2 : alF ((List.range (j + 1)).map fun k => a ^ (f.p ^ k)) = (List.range (j + 1 + 1)).map fun k => a ^ (f.p ^ k) := by
        unfold alF
        rw [al_last, List.range_succ (n := j + 1), List.map_append, ← Num.pow_mul', ← Nat.pow_succ]
        rfl
      rw [e2]
      exact al_it a k (j + 1) (by omega) (by omega)
theorem al_end (a : Num f) : alC a (alR a) = false := by
  unfold alC
  have h := hm_pos a
  obtain ⟨j, hj⟩ : ∃ j, hmN a = j + 1 := ⟨hmN a - 1, by omega⟩
  have e : alR a = (List.range (j + 1)).map fun k => a ^ (f.p ^ k) := by unfold alR; rw [hj]
  have h2 := hm_fix a
  rw [hj, Nat.pow_succ] at h2
  rw [e, al_last, ← Num.pow_mul', h2]
  simp
end
end Vi

set_option maxRecDepth 100000
set_option maxHeartbeats 4000000
namespace Vi
open Lean.Grind
/-! ### roots -/
section
variable {f : Fld}
/-- x less a number -/
abbrev xl (a : Num f) : List (Num f) := [0 - a, 1]
theorem one_ne : (1 : Num f) ≠ 0 := fun h => Num.zero_ne_one' h.symm
theorem xl_nf (a : Num f) : nf (xl a) := by
  unfold nf
  simp
  exact one_ne
theorem ev_xl (a x : Num f) : evR (xl a) x = x - a := by
  show (0 * x + 1) * x + (0 - a) = x - a
  grind
theorem ev_one (c x : Num f) : evR [c] x = c := by
  show 0 * x + c = c
  grind
/-- the rest by x less a number -/
theorem rest_xl {R : List (Num f)} (hR : nf R) (a : Num f) : (divR R (xl a)).2 = if evR R a = 0 then [] else [evR R a] := by
  obtain ⟨h1, h2, h3, h4⟩ := divR_ok hR (xl_nf a) (by simp)
  have hev : evR R a = evR (divR R (xl a)).2 a := by
    rw [ev_add (T := R) (R := mulR (divR R (xl a)).1 (xl a)) (S := (divR R (xl a)).2) (by rw [ps_mulR]; exact h1), ev_mulR, ev_xl]
    grind
  generalize (divR R (xl a)).2 = T at h2 h4 hev
  match T, h2 with
  | [], _ => rw [hev, evR_nil, if_pos rfl]
  | [c], _ =>
    rw [hev, ev_one]
    have hc : c ≠ 0 := fun e => by
      apply h4
      rw [e]; rfl
    rw [if_neg hc]
/-- a root's row divides -/
theorem factor {R : List (Num f)} (hR : nf R) {a : Num f} (h : evR R a = 0) : ps R = ps (divR R (xl a)).1 * ps (xl a) := by
  obtain ⟨h1, _, _, _⟩ := divR_ok hR (xl_nf a) (by simp)
  have h2 := rest_xl hR a
  rw [if_pos h] at h2
  rw [h2, ps_nil] at h1
  rw [h1]; grind
theorem quot_len {R : List (Num f)} (hR : nf R) (h0 : R ≠ []) {a : Num f} (h : evR R a = 0) : (divR R (xl a)).1.length + 1 = R.length ∧ (divR R (xl a)).1 ≠ [] := by
  obtain ⟨_, _, h3, _⟩ := divR_ok hR (xl_nf a) (by simp)
  have e := factor hR h
  have hQ : (divR R (xl a)).1 ≠ [] := fun e2 => by
    rw [e2, ps_nil] at e
    exact h0 (ps_eq_zero hR (by rw [e]; grind))
  have := (len_mul h3 (xl_nf a) hQ (by simp) hR e).1
  have hq : 0 < (divR R (xl a)).1.length := List.length_pos_iff.mpr hQ
  refine ⟨?_, hQ⟩
  simp at this
  omega
/-- no more roots than figures behind the first -/
theorem roots_le : ∀ (L : List (Num f)) (R : List (Num f)), nf R → R ≠ [] → L.Nodup → (∀ x ∈ L, evR R x = 0) → L.length + 1 ≤ R.length
  | [], R, _, h0, _, _ => by
    have := List.length_pos_iff.mpr h0
    simp; omega
  | a :: L, R, hR, h0, hL, hr => by
    have ha := hr a List.mem_cons_self
    obtain ⟨_, _, h3, _⟩ := divR_ok hR (xl_nf a) (by simp)
    obtain ⟨hq, hQ⟩ := quot_len hR h0 ha
    rw [List.nodup_cons] at hL
    have := roots_le L (divR R (xl a)).1 h3 hQ hL.2 (fun x hx => by
      have e := hr x (List.mem_cons_of_mem _ hx)
      have e2 := ev_mul (factor hR ha) x
      rw [e2, ev_xl] at e
      have hne : x - a ≠ 0 := fun e3 => hL.1 (by
        have : x = a := by grind
        rw [← this]; exact hx)
      grind)
    rw [List.length_cons]
    omega
/-! #### the product of the rows x less each -/
def prR (L : List (Num f)) : List (Num f) := L.foldl (fun R c => mulR R [0 - c, 1]) [1]
theorem prR_fold_len : ∀ (L R : List (Num f)), R ≠ [] → (L.foldl (fun R c => mulR R [0 - c, 1]) R).length = R.length + L.length
  | [], R, _ => rfl
  | c :: L, R, h => by
    have h1 : 0 < R.length := List.length_pos_iff.mpr h
    have e := mulR_len R [0 - c, 1] h (by simp)
    have e2 : (mulR R [0 - c, 1]).length = R.length + 1 := by rw [e]; simp
    rw [List.foldl_cons, prR_fold_len L _ (fun e3 => by rw [e3] at e2; simp at e2), e2, List.length_cons]
    omega
theorem prR_len (L : List (Num f)) : (prR L).length = L.length + 1 := by
  unfold prR
  rw [prR_fold_len L [1] (by simp)]
  simp; omega
/-- the product as a row without end -/
def psP (L : List (Num f)) : PS (Num f) := L.foldr (fun c s => ps (xl c) * s) 1
theorem ps_single1 (c : Num f) : ps [c] = PS.C c := by
  rw [ps_cons, ps_nil]; grind
theorem ps_prR_fold : ∀ (L R : List (Num f)), ps (L.foldl (fun R c => mulR R [0 - c, 1]) R) = ps R * psP L
  | [], R => by show ps R = ps R * 1; grind
  | c :: L, R => by
    rw [List.foldl_cons, ps_prR_fold L, ps_mulR]
    show _ = ps R * (ps (xl c) * psP L)
    grind
theorem ps_prR (L : List (Num f)) : ps (prR L) = psP L := by
  unfold prR
  rw [ps_prR_fold, ps_single1, ← PS.one_eq]; grind
theorem prR_nf (L : List (Num f)) : nf (prR L) := by
  have : ∀ (L R : List (Num f)), nf R → nf (L.foldl (fun R c => mulR R [0 - c, 1]) R) := by
    intro L
    induction L with
    | nil => exact fun R h => h
    | cons c L ih => exact fun R h => ih _ (mul_nf h (xl_nf c))
  refine this L [1] ?_
  unfold nf
  simp
  exact one_ne
theorem prR_ne (L : List (Num f)) : prR L ≠ [] := fun e => by
  have := prR_len L
  rw [e] at this
  simp at this
theorem prR_last (L : List (Num f)) : lastR (prR L) = 1 := by
  have : ∀ (L R : List (Num f)), nf R → R ≠ [] → lastR R = 1 → lastR (L.foldl (fun R c => mulR R [0 - c, 1]) R) = 1 := by
    intro L
    induction L with
    | nil => exact fun R _ _ h => h
    | cons c L ih =>
      intro R hR h0 h
      have hx : xl c ≠ [] := by simp
      have hl := (len_mul hR (xl_nf c) h0 hx (mul_nf hR (xl_nf c)) (ps_mulR R (xl c)))
      have h1 : 0 < R.length := List.length_pos_iff.mpr h0
      refine ih (mulR R (xl c)) (mul_nf hR (xl_nf c)) (fun e => ?_) ?_
      · rw [e] at hl
        have := hl.1
        simp at this
      · rw [hl.2, h]
        show 1 * (1 : Num f) = 1
        grind
  refine this L [1] ?_ (by simp) rfl
  unfold nf
  simp
  exact one_ne
theorem psP_perm {L M : List (Num f)} (h : L.Perm M) : psP L = psP M := by
  induction h with
  | nil => rfl
  | cons c _ ih => show ps (xl c) * _ = ps (xl c) * _; rw [show List.foldr (fun c s => ps (xl c) * s) 1 _ = psP _ from rfl, ih]; rfl
  | swap a b l => show ps (xl b) * (ps (xl a) * psP l) = ps (xl a) * (ps (xl b) * psP l); grind
  | trans _ _ ih1 ih2 => exact ih1.trans ih2
theorem ev_prR (L : List (Num f)) {a : Num f} (h : a ∈ L) : evR (prR L) a = 0 := by
  have key : ∀ (L : List (Num f)) (T : List (Num f)), ps T = psP L → a ∈ L → evR T a = 0 := by
    intro L
    induction L with
    | nil => intro T _ h; cases h
    | cons c L ih =>
      intro T hT h
      have hT : ps T = ps (xl c) * psP L := hT
      rw [← ps_prR] at hT
      rw [ev_mul hT, ev_xl]
      rcases List.mem_cons.mp h with rfl | h
      · grind
      · rw [ih (prR L) (ps_prR L) h]; grind
  exact key L _ (ps_prR L) h
theorem ev_prR_iff (L : List (Num f)) (a : Num f) : evR (prR L) a = 0 ↔ a ∈ L := by
  constructor
  · intro h
    by_cases q : a ∈ L
    · exact q
    · exfalso
      have key : ∀ (L : List (Num f)) (T : List (Num f)), ps T = psP L → a ∉ L → evR T a ≠ 0 := by
        intro L
        induction L with
        | nil =>
          intro T hT _
          have hT : ps T = 1 := hT
          rw [evR_ps T [1] a (by rw [hT, ps_single1, PS.one_eq]), ev_one]
          exact one_ne
        | cons c L ih =>
          intro T hT h
          have hT : ps T = ps (xl c) * psP L := hT
          rw [← ps_prR] at hT
          rw [ev_mul hT, ev_xl]
          have h1 : a ≠ c := fun e => h (by rw [e]; exact List.mem_cons_self)
          have h2 := ih (prR L) (ps_prR L) (fun e => h (List.mem_cons_of_mem _ e))
          exact Num.mul_ne (fun e => h1 (by grind)) h2
      exact key L _ (ps_prR L) q h
  · exact fun h => ev_prR L h
/-! #### the least field -/
theorem cast_v0 (c : Num f) (x : Int) (h : c = ((x : Int) : Num f)) : ((c.v.getD 0 0 : Int) : Num f) = c := by
  subst h
  refine Num.ext_v ?_
  show wholeV f.p f.n ((wholeV f.p f.n x).getD 0 0) = wholeV f.p f.n x
  unfold wholeV
  simp
/-- what stays when raised once is a figure -/
theorem fix_cast (c : Num f) (h : c ^ f.p = c) : ((c.v.getD 0 0 : Int) : Num f) = c := by
  -- the casts, and c, are roots of x^p - x
  have hp := f.p_two
  obtain ⟨R, hR⟩ : ∃ R : List (Num f), R = 0 :: (0 - 1) :: (List.replicate (f.p - 2) 0 ++ [1]) := ⟨_, rfl⟩
  have hRn : nf R := by
    rw [hR]; unfold nf
    simp [List.getLast?_cons]
    exact one_ne
  have hRl : R.length = f.p + 1 := by rw [hR]; simp; omega
  have hev : ∀ x : Num f, evR R x = x ^ f.p - x := fun x => by
    have e : ∀ k, evR (List.replicate k (0 : Num f) ++ [1]) x = x ^ k := fun k => by
      induction k with
      | zero =>
        show evR [1] x = x ^ 0
        rw [ev_one, Semiring.pow_zero]
      | succ k ih =>
        show evR (List.replicate k (0 : Num f) ++ [1]) x * x + 0 = _
        rw [ih, Semiring.pow_succ]; grind
    rw [hR]
    show (evR (List.replicate (f.p - 2) 0 ++ [1]) x * x + (0 - 1)) * x + 0 = _
    rw [e]
    conv => rhs; rw [show f.p = f.p - 2 + 1 + 1 by omega, Semiring.pow_succ, Semiring.pow_succ]
    grind
  obtain ⟨L, hL⟩ : ∃ L : List (Num f), L = (List.range f.p).map fun k => ((k : Nat) : Num f) := ⟨_, rfl⟩
  have hinj : ∀ i j : Nat, i < f.p → j < f.p → ((i : Nat) : Num f) = ((j : Nat) : Num f) → i = j := fun i j hi hj e => by
    have e := congrArg Num.v e
    have e : wholeV f.p f.n i = wholeV f.p f.n j := e
    unfold wholeV at e
    have e := (List.cons.inj e).1
    rw [Int.emod_eq_of_lt (by omega) (by omega), Int.emod_eq_of_lt (by omega) (by omega)] at e
    omega
  have hnd : L.Nodup := by
    rw [hL, List.nodup_iff_pairwise_ne, List.pairwise_map]
    refine (List.Pairwise.and_mem.mp (List.nodup_iff_pairwise_ne.mp (List.nodup_range (n := f.p)))).imp ?_
    rintro i j ⟨hi, hj, hij⟩ e
    exact hij (hinj i j (List.mem_range.mp hi) (List.mem_range.mp hj) e)
  have hroot : ∀ x ∈ L, evR R x = 0 := fun x hx => by
    rw [hL] at hx
    obtain ⟨k, _, rfl⟩ := List.mem_map.mp hx
    rw [hev]
    have := fr_nat (f := f) k 1
    rw [Nat.pow_one] at this
    rw [this]; grind
  by_cases hc : c ∈ L
  · rw [hL] at hc
    obtain ⟨k, _, rfl⟩ := List.mem_map.mp hc
    exact cast_v0 _ (k : Int) rfl
  · exfalso
    have := roots_le (c :: L) R hRn (fun e => by rw [e] at hRl; simp at hRl) (List.nodup_cons.mpr ⟨hc, hnd⟩) (fun x hx => by
      rcases List.mem_cons.mp hx with rfl | hx
      · rw [hev, h]; grind
      · exact hroot x hx)
    rw [hRl, List.length_cons, hL] at this
    simp at this
    omega
end
end Vi

set_option maxRecDepth 100000
set_option maxHeartbeats 4000000
namespace Vi
open Lean.Grind
/-! ### rows of figures -/
section
variable {f : Fld}
theorem cast_add (x y : Int) : ((x + y : Int) : Num f) = (x : Num f) + (y : Num f) := Num.cast_add' x y
theorem cast_mul (x y : Int) : ((x * y : Int) : Num f) = (x : Num f) * (y : Num f) := by
  refine Num.ext_cg ?_
  refine (Num.wh_cg _).trans (cg.trans ?_ (Num.cast_mul_cg x (Num.wh f y)).symm)
  refine cg.trans ?_ ((Num.wh_cg y).mul x).symm
  exact .of_eq fun j _ => by rw [Int.mul_assoc]
theorem cast_zero : ((0 : Int) : Num f) = 0 := rfl
theorem cast_one : ((1 : Int) : Num f) = 1 := rfl
theorem cast_emod (x : Int) : ((x % (f.p : Int) : Int) : Num f) = (x : Num f) := by
  refine Num.ext_v ?_
  show wholeV f.p f.n (x % f.p) = wholeV f.p f.n x
  unfold wholeV
  rw [Int.emod_emod]
/-- a monic row of figures, with its leading 1 -/
def cr (f : Fld) (r : List Int) : List (Num f) := r.map (fun (x : Int) => (x : Num f)) ++ [1]
theorem cr_eq (r : List Int) : cr f r = (r ++ [1]).map fun (x : Int) => (x : Num f) := by
  unfold cr
  rw [List.map_append]; rfl
theorem cr_len (r : List Int) : (cr f r).length = r.length + 1 := by simp [cr]
theorem cr_nf (r : List Int) : nf (cr f r) := by
  unfold nf cr
  rw [List.getLast?_concat]
  intro e
  exact one_ne (Option.some.inj e)
theorem cr_co (r : List Int) (n : Nat) : (ps (cr f r)).co n = (((r ++ [1]).getD n 0 : Int) : Num f) := by
  rw [ps_co, cr_eq]
  simp only [List.getD_eq_getElem?_getD, List.getElem?_map]
  cases (r ++ [1])[n]? <;> rfl
theorem cast_sumN (F : Nat → Int) : ∀ n, ((sumN n F : Int) : Num f) = sm n fun i => ((F i : Int) : Num f)
  | 0 => rfl
  | n + 1 => by
    show ((sumN n F + F n : Int) : Num f) = _
    rw [cast_add, cast_sumN F n]; rfl
theorem sum_filter (c : Nat → Bool) (F : Nat → Int) : ∀ n, (((List.range n).filter c).map F).sum = sumN n fun k => if c k then F k else 0
  | 0 => rfl
  | n + 1 => by
    rw [List.range_succ, List.filter_append, List.map_append, List.sum_append, sum_filter c F n]
    show _ = sumN n (fun k => if c k then F k else 0) + (if c n then F n else 0)
    congr 1
    cases h : c n <;> simp [h]
theorem sumN_more (F : Nat → Int) (m : Nat) : ∀ k, (∀ i, m ≤ i → F i = 0) → sumN (m + k) F = sumN m F
  | 0, _ => rfl
  | k + 1, h => by
    show sumN (m + k) F + F (m + k) = _
    rw [sumN_more F m k h, h (m + k) (by omega)]
    omega
theorem conv_eq (L R : List Int) (s : Nat) : convAt L R s = sumN (s + 1) fun k => L.getD k 0 * R.getD (s - k) 0 := by
  unfold convAt
  rw [sum_filter]
  have z : ∀ (l : List Int) (i : Nat), l.length ≤ i → l.getD i 0 = 0 := fun l i h => by
    rw [List.getD_eq_getElem?_getD, List.getElem?_eq_none h]; rfl
  have e1 : ∀ k, (if inW s k R.length = true then L.getD k 0 * R.getD (s - k) 0 else 0) = if k ≤ s then L.getD k 0 * R.getD (s - k) 0 else 0 := fun k => by
    unfold inW
    by_cases h : k ≤ s
    · by_cases h2 : s - k < R.length
      · simp [h, h2]
      · have h3 := z R (s - k) (by omega)
        simp only [h, h2, decide_true, decide_false, Bool.and_false, if_true]
        rw [h3]; simp
    · simp [h]
  rw [sumN_congr L.length fun k _ => e1 k]
  have e2 : sumN (s + 1) (fun k => L.getD k 0 * R.getD (s - k) 0) = sumN (s + 1) fun k => if k ≤ s then L.getD k 0 * R.getD (s - k) 0 else 0 := sumN_congr _ fun k hk => by rw [if_pos (by omega)]
  rw [e2]
  have a1 := sumN_more (fun k => if k ≤ s then L.getD k 0 * R.getD (s - k) 0 else 0) L.length (s + 1) (fun i hi => by
    show (if i ≤ s then L.getD i 0 * R.getD (s - i) 0 else 0) = 0
    rw [z L i hi]; simp)
  have a2 := sumN_more (fun k => if k ≤ s then L.getD k 0 * R.getD (s - k) 0 else 0) (s + 1) L.length (fun i hi => by
    show (if i ≤ s then L.getD i 0 * R.getD (s - i) 0 else 0) = 0
    rw [if_neg (by omega)])
  rw [← a1, ← a2, Nat.add_comm]
/-- the law's product of two monic rows is their product -/
theorem ps_prodL (a b : List Int) : ps (cr f (prodL f.p a b)) = ps (cr f a) * ps (cr f b) := PS.ext fun n => by
  have e : (ps (cr f a) * ps (cr f b)).co n = ((convAt (a ++ [1]) (b ++ [1]) n : Int) : Num f) := by
    rw [PS.mul_co, conv_eq, cast_sumN]
    exact sm_congr _ fun i _ => by rw [cr_co, cr_co, cast_mul]
  rw [e, cr_co]
  have hl : (prodL f.p a b).length = a.length + b.length := by simp [prodL]
  rcases Nat.lt_trichotomy n (a.length + b.length) with h | h | h
  · have : (prodL f.p a b ++ [1]).getD n 0 = convAt (a ++ [1]) (b ++ [1]) n % f.p := by
      rw [List.getD_eq_getElem?_getD, List.getElem?_append_left (by omega)]
      unfold prodL
      simp [h]
    rw [this, cast_emod]
  · have h1 : (prodL f.p a b ++ [1]).getD n 0 = 1 := by
      rw [List.getD_eq_getElem?_getD, List.getElem?_append_right (by omega), hl, h]; simp
    have h2 : convAt (a ++ [1]) (b ++ [1]) n = 1 := by
      rw [conv_eq, sumN_congr (h := fun k => if k = a.length then 1 else 0), sumN_one _ _ _ (by omega)]
      intro k hk
      by_cases e : k = a.length
      · subst e
        rw [if_pos rfl, h, show a.length + b.length - a.length = b.length by omega]
        simp
      · rw [if_neg e]
        rcases Nat.lt_or_ge k a.length with q | q
        · have : (b ++ [1]).getD (n - k) 0 = 0 := by
            rw [List.getD_eq_getElem?_getD, List.getElem?_eq_none (by simp; omega)]; rfl
          rw [this]; simp
        · have : (a ++ [1]).getD k 0 = 0 := by
            rw [List.getD_eq_getElem?_getD, List.getElem?_eq_none (by simp; omega)]; rfl
          rw [this]; simp
    rw [h1, h2]
  · have h1 : (prodL f.p a b ++ [1]).getD n 0 = 0 := by
      rw [List.getD_eq_getElem?_getD, List.getElem?_eq_none (by simp [hl]; omega)]; rfl
    have h2 : convAt (a ++ [1]) (b ++ [1]) n = 0 := by
      rw [conv_eq, sumN_congr (h := fun _ => 0), sumN_zero]
      intro k hk
      rcases Nat.lt_or_ge a.length k with q | q
      · have : (a ++ [1]).getD k 0 = 0 := by
          rw [List.getD_eq_getElem?_getD, List.getElem?_eq_none (by simp; omega)]; rfl
        rw [this]; simp
      · have : (b ++ [1]).getD (n - k) 0 = 0 := by
          rw [List.getD_eq_getElem?_getD, List.getElem?_eq_none (by simp; omega)]; rfl
        rw [this]; simp
    rw [h1, h2]
/-- a row of figures goes with raising -/
theorem ev_cr (r : List Int) (x : Num f) (k : Nat) : evR (cr f r) (x ^ (f.p ^ k)) = (evR (cr f r) x) ^ (f.p ^ k) := by
  rw [cr_eq]
  generalize r ++ [1] = l
  induction l with
  | nil => show (0 : Num f) = 0 ^ _; rw [fr_zero]
  | cons c l ih =>
    rw [List.map_cons, evR_cons, evR_cons, ih, fr_add, fr_mul, fr_int]
/-! #### the least row -/
def lsV (a : Num f) : List Int := (prR (alR a)).dropLast.map fun c => c.v.getD 0 0
def psF (a : PS (Num f)) : PS (Num f) := ⟨fun n => (a.co n) ^ f.p⟩
theorem psF_mul (a b : PS (Num f)) : psF (a * b) = psF a * psF b := PS.ext fun n => by
  show ((a * b).co n) ^ f.p = (psF a * psF b).co n
  have h := fr_sm (fun i => a.co i * b.co (n - i)) 1 (n + 1)
  rw [Nat.pow_one] at h
  rw [PS.mul_co, PS.mul_co, h]
  exact sm_congr _ fun i _ => Num.mul_pow' _ _ _
theorem fr1_zero : (0 : Num f) ^ f.p = 0 := Num.zero_pow' (by have := f.p_two; omega)
theorem psF_ps (l : List (Num f)) : psF (ps l) = ps (l.map (· ^ f.p)) := PS.ext fun n => by
  show (l.getD n 0) ^ f.p = (l.map (· ^ f.p)).getD n 0
  simp only [List.getD_eq_getElem?_getD, List.getElem?_map]
  cases l[n]? with
  | none => exact fr1_zero
  | some c => rfl
theorem fr1_sub (a b : Num f) : (a - b) ^ f.p = a ^ f.p - b ^ f.p := by
  have := fr_sub a b 1
  rwa [Nat.pow_one] at this
theorem psF_P : ∀ L : List (Num f), psF (psP L) = psP (L.map (· ^ f.p))
  | [] => PS.ext fun n => by
    show ((1 : PS (Num f)).co n) ^ f.p = (1 : PS (Num f)).co n
    rw [PS.one_eq, PS.C_co]
    split
    · exact Num.one_pow' _
    · exact fr1_zero
  | c :: L => by
    show psF (ps (xl c) * psP L) = ps (xl (c ^ f.p)) * psP (L.map (· ^ f.p))
    rw [psF_mul, psF_P L, psF_ps]
    have : (xl c).map (· ^ f.p) = xl (c ^ f.p) := by
      show [(0 - c) ^ f.p, 1 ^ f.p] = [0 - c ^ f.p, 1]
      rw [fr1_sub, fr1_zero, Num.one_pow']
    rw [this]
theorem alR_rot (a : Num f) : ((alR a).map (· ^ f.p)).Perm (alR a) := by
  obtain ⟨d, hd⟩ : ∃ d, hmN a = d + 1 := ⟨hmN a - 1, by have := hm_pos a; omega⟩
  have e1 : (alR a).map (· ^ f.p) = ((List.range d).map fun k => a ^ (f.p ^ (k + 1))) ++ [a] := by
    unfold alR
    rw [hd, List.range_succ, List.map_append, List.map_append, List.map_map]
    congr 1
    · refine List.map_congr_left fun k _ => ?_
      show (a ^ (f.p ^ k)) ^ f.p = _
      rw [← Num.pow_mul', ← Nat.pow_succ]
    · show [(a ^ (f.p ^ d)) ^ f.p] = [a]
      rw [← Num.pow_mul', ← Nat.pow_succ]
      have := hm_fix a
      rw [hd] at this
      rw [show d.succ = d + 1 from rfl, this]
  have e2 : alR a = a :: (List.range d).map fun k => a ^ (f.p ^ (k + 1)) := by
    unfold alR
    rw [hd, List.range_succ_eq_map, List.map_cons, List.map_map, Nat.pow_zero, Semiring.pow_one]
    rfl
  rw [e1, e2]
  exact List.perm_append_singleton _ _
theorem pow_p_ne {a : Num f} (h : a ≠ 0) : a ^ f.p ≠ 0 := Num.pow_ne h _
theorem cr_ls (a : Num f) : cr f (lsV a) = prR (alR a) := by
  obtain ⟨R, hR⟩ : ∃ R, R = prR (alR a) := ⟨_, rfl⟩
  have hn : nf R := by rw [hR]; exact prR_nf _
  have h0 : R ≠ [] := by rw [hR]; exact prR_ne _
  have hm : R.map (· ^ f.p) = R := by
    refine nf_ext ?_ hn ?_
    · unfold nf
      rw [List.getLast?_map]
      intro e
      cases q : R.getLast? with
      | none => rw [q] at e; cases e
      | some c =>
        rw [q] at e
        have e : c ^ f.p = 0 := Option.some.inj e
        refine pow_p_ne (fun e2 => ?_) e
        rw [e2] at q
        exact hn q
    · rw [← psF_ps, hR, ps_prR, psF_P, psP_perm (alR_rot a)]
  have hfix : ∀ c ∈ R, ((c.v.getD 0 0 : Int) : Num f) = c := fun c hc => by
    obtain ⟨i, hi, rfl⟩ := List.mem_iff_getElem.mp hc
    refine fix_cast _ ?_
    have := congrArg (fun l => l[i]?) hm
    simp [hi] at this
    exact this
  have hl : R.dropLast ++ [1] = R := by
    have e := List.dropLast_concat_getLast h0
    have e2 : R.getLast h0 = 1 := by
      have := prR_last (alR a)
      rw [← hR] at this
      unfold lastR at this
      rw [List.getLast?_eq_some_getLast h0] at this
      exact this
    rw [e2] at e
    exact e
  have hls : lsV a = R.dropLast.map fun c => c.v.getD 0 0 := by rw [hR]; rfl
  rw [← hR]
  unfold cr
  rw [hls, List.map_map]
  conv => rhs; rw [← hl]
  congr 1
  conv => rhs; rw [← List.map_id R.dropLast]
  exact List.map_congr_left fun c hc => hfix c ((List.dropLast_sublist R).subset hc)
theorem ls_len (a : Num f) : (lsV a).length = hmN a := by
  unfold lsV
  rw [List.length_map, List.length_dropLast, prR_len, alR_len]; rfl
theorem ls_root (a : Num f) : evR (cr f (lsV a)) a = 0 := by
  rw [cr_ls]
  exact ev_prR _ (alR_self a)
theorem ls_in (a : Num f) : inV f.p (hmN a) (lsV a) := by
  refine ⟨ls_len a, fun x hx => ?_⟩
  unfold lsV at hx
  obtain ⟨c, _, rfl⟩ := List.mem_map.mp hx
  exact c.ok.2 _ (getD_mem (by rw [c.len]; exact f.n_pos))
/-- a row of figures that is nought at a number is nought at all alike; so it is no shorter than the least -/
theorem ls_short (a : Num f) (r : List Int) (h : evR (cr f r) a = 0) : hmN a ≤ r.length := by
  have := roots_le (alR a) (cr f r) (cr_nf r) (fun e => by have := cr_len (f := f) r; rw [e] at this; simp at this) (alR_nodup a) (fun x hx => by
    obtain ⟨k, rfl⟩ := alR_mem.mp hx
    rw [ev_cr, h, fr_zero])
  rw [alR_len, cr_len] at this
  omega
theorem ls_rule (a : Num f) : isRuleV f.p (lsV a) = true := by
  unfold isRuleV
  rw [Bool.not_eq_true', ← Bool.not_eq_true]
  intro h
  obtain ⟨j, hj, h⟩ := List.any_eq_true.mp h
  obtain ⟨A, hA, h⟩ := List.any_eq_true.mp h
  obtain ⟨B, hB, h⟩ := List.any_eq_true.mp h
  have h := _root_.of_decide_eq_true h
  have hj := List.mem_range.mp hj
  have hAl := rowsV_mem hA
  have hBl := rowsV_mem hB
  rw [ls_len] at hj hBl
  have e := ev_mul (ps_prodL (f := f) A B) a
  rw [h, ls_root] at e
  have e : evR (cr f A) a * evR (cr f B) a = 0 := e.symm
  rcases Num.mul_eq_zero.mp e with e | e
  · have := ls_short a A e
    omega
  · have := ls_short a B e
    have := hm_pos a
    omega
end
end Vi

set_option maxRecDepth 100000
set_option maxHeartbeats 4000000
namespace Vi
open Lean.Grind
/-! ### counting by the maker -/
section
variable {f : Fld}
/-- all numbers: nought, and the maker's powers -/
theorem all_perm (f : Fld) : f.all.Perm (0 :: (List.range (f.q - 1)).map fun k => (f.gen ^ k : Num f)) := by
  refine (List.perm_ext_iff_of_nodup f.all_nodup ?_).mpr fun a => ?_
  · rw [List.nodup_cons]
    refine ⟨fun h => ?_, ?_⟩
    · obtain ⟨k, _, e⟩ := List.mem_map.mp h
      exact Num.gen_ne k e
    · rw [List.nodup_iff_pairwise_ne, List.pairwise_map]
      refine (List.Pairwise.and_mem.mp (List.nodup_iff_pairwise_ne.mp (List.nodup_range (n := f.q - 1)))).imp ?_
      rintro i j ⟨hi, hj, hij⟩ e
      exact hij (Num.gen_inj (List.mem_range.mp hi) (List.mem_range.mp hj) e)
  · refine ⟨fun _ => ?_, fun _ => f.mem_all a⟩
    by_cases h : a = 0
    · rw [h]; exact List.mem_cons_self
    · obtain ⟨k, hk, rfl⟩ := Num.log_ex a h
      exact List.mem_cons_of_mem _ (List.mem_map.mpr ⟨k, List.mem_range.mpr hk, rfl⟩)
theorem q1_pos (f : Fld) : 0 < f.q - 1 := by have := f.q_two; omega
theorem gen_ne0 : (f.gen : Num f) ≠ 0 := fun e => by
  have := Num.gen_ne (f := f) 1
  rw [Semiring.pow_one] at this
  exact this e
theorem gen_eq {i j : Nat} : (f.gen ^ i : Num f) = f.gen ^ j ↔ i % (f.q - 1) = j % (f.q - 1) := by
  have h0 : (f.gen : Num f) ≠ 0 := gen_ne0
  rw [← Num.pow_mod h0 i, ← Num.pow_mod h0 j]
  constructor
  · intro h
    exact Num.gen_inj (Nat.mod_lt _ (q1_pos f)) (Nat.mod_lt _ (q1_pos f)) h
  · intro h; rw [h]
/-- how many numbers have something -/
theorem count_all (f : Fld) (P : Num f → Bool) : (f.all.filter P).length = (if P 0 then 1 else 0) + ((List.range (f.q - 1)).filter fun k => P (f.gen ^ k)).length := by
  rw [((all_perm f).filter P).length_eq, List.filter_cons]
  have e : (((List.range (f.q - 1)).map fun k => (f.gen ^ k : Num f)).filter P).length = ((List.range (f.q - 1)).filter fun k => P (f.gen ^ k)).length := by
    rw [List.filter_map, List.length_map]
    rfl
  split
  · rw [List.length_cons, e]; omega
  · rw [e]; omega
def lowCk (t : Nat × List Int × Nat × Nat) : Bool :=
  (List.range 6).all fun j => !(t.2.1.length % (j + 1) == 0) || ((List.range (t.1 ^ t.2.1.length - 1)).filter fun k => Nat.beq (k * t.1 ^ (j + 1) % (t.1 ^ t.2.1.length - 1)) k).length == t.1 ^ (j + 1) - 1
theorem table_low : TABLE.all lowCk = true := by decide +kernel
def Fld.low (f : Fld) (m : Nat) : List (Num f) := f.all.filter fun a => decide (a ^ (f.p ^ m) = a)
theorem low_mem {m : Nat} {a : Num f} : a ∈ f.low m ↔ a ^ (f.p ^ m) = a := by
  unfold Fld.low
  rw [List.mem_filter, decide_eq_true_iff]
  exact ⟨fun h => h.2, fun h => ⟨f.mem_all a, h⟩⟩
theorem low_count {m : Nat} (h0 : 0 < m) (h : f.n % m = 0) : (f.low m).length = f.p ^ m := by
  have hle : m ≤ f.n := Nat.le_of_dvd f.n_pos (Nat.dvd_of_mod_eq_zero h)
  have hn := f.n_le
  have hck := List.all_eq_true.mp table_low _ f.ok
  have hck := List.all_eq_true.mp hck (m - 1) (List.mem_range.mpr (by omega))
  rw [show m - 1 + 1 = m by omega] at hck
  have hnn : (f.p, f.r, f.c, f.d).2.1.length = f.n := rfl
  have hqq : (f.p, f.r, f.c, f.d).1 ^ f.n = f.q := rfl
  rw [hnn, hqq] at hck
  simp only [h, beq_self_eq_true, Bool.not_true, Bool.false_or, beq_iff_eq] at hck
  unfold Fld.low
  rw [count_all, fr_zero]
  have e : ((List.range (f.q - 1)).filter fun k => decide ((f.gen ^ k) ^ (f.p ^ m) = (f.gen ^ k : Num f))) = ((List.range (f.q - 1)).filter fun k => Nat.beq (k * f.p ^ m % (f.q - 1)) k) := by
    refine List.filter_congr fun k hk => ?_
    have hk := List.mem_range.mp hk
    rw [Bool.eq_iff_iff, decide_eq_true_iff, ← Num.pow_mul', gen_eq, Nat.mod_eq_of_lt hk]
    exact ⟨fun e => by rw [e]; simp, fun e => Nat.eq_of_beq_eq_true e⟩
  rw [e, hck]
  have hp : 0 < f.p ^ m := Nat.pow_pos (by have := f.p_two; omega)
  simp
  omega
end
end Vi

set_option maxRecDepth 100000
set_option maxHeartbeats 4000000
namespace Vi
open Lean.Grind
/-! ### the longest row that divides both -/
section
variable {f : Fld}
/-- ending with 1 -/
def monR (R : List (Num f)) : List (Num f) := if R = [] then [] else R.map (· * lastR R ^ (f.q - 2))
def comF (x : List (Num f) × List (Num f)) : List (Num f) × List (Num f) := (x.2, (divR x.1 x.2).2)
def comC (x : List (Num f) × List (Num f)) : Bool := !x.2.isEmpty
def euR (R S : List (Num f)) : List (Num f) := (itW comC comF (S.length + 1) (R, S)).1
def comR (R S : List (Num f)) : List (Num f) := monR (euR R S)
theorem com_nf : ∀ (k : Nat) (x : List (Num f) × List (Num f)), nf x.1 → nf x.2 → x.2.length < k → comC (itW comC comF k x) = false
  | 0, _, _, _, h => by omega
  | k + 1, x, h1, h2, h => by
    cases q : comC x with
    | false =>
      have : itW comC comF (k + 1) x = x := if_neg (by rw [q]; exact Bool.false_ne_true)
      rw [this]; exact q
    | true =>
      have : itW comC comF (k + 1) x = itW comC comF k (comF x) := if_pos q
      rw [this]
      have h0 : x.2 ≠ [] := fun e => by unfold comC at q; rw [e] at q; simp at q
      obtain ⟨e1, e2, e3, e4⟩ := divR_ok h1 h2 h0
      exact com_nf k (comF x) h2 e4 (by show (divR x.1 x.2).2.length < k; omega)
/-- a row divides another one -/
def dv (d a : List (Num f)) : Prop := ∃ Q : List (Num f), nf Q ∧ ps a = ps Q * ps d
/-- a row that is a sum of so many times the one and so many times the other -/
def cmb (R S g : List (Num f)) : Prop := ∃ U V : List (Num f), ps g = ps U * ps R + ps V * ps S
theorem nf_one : nf ([1] : List (Num f)) := by
  unfold nf
  simp
  exact one_ne
theorem ps_one : ps ([1] : List (Num f)) = 1 := by rw [ps_single1, PS.one_eq]
theorem dv_self {a : List (Num f)} : dv a a := ⟨[1], nf_one, by rw [ps_one]; grind⟩
theorem dv_nil (d : List (Num f)) : dv d [] := ⟨[], nf_nil, by rw [ps_nil]; grind⟩
theorem dv_trans {a b c : List (Num f)} (h : dv a b) (k : dv b c) : dv a c := by
  obtain ⟨Q, hQ, e⟩ := h
  obtain ⟨T, hT, e2⟩ := k
  exact ⟨mulR T Q, mul_nf hT hQ, by rw [e2, e, ps_mulR]; grind⟩
/-- what divides both divides what is combined of both -/
theorem dv_cmb {R S g d : List (Num f)} (h : cmb R S g) (h1 : dv d R) (h2 : dv d S) : dv d g := by
  obtain ⟨U, V, e⟩ := h
  obtain ⟨A, hA, eA⟩ := h1
  obtain ⟨B, hB, eB⟩ := h2
  refine ⟨cutR (addP (mulP U A) (mulP V B)), cut_nf _, ?_⟩
  rw [ps_cut, ps_addP, ps_mulP, ps_mulP, e, eA, eB]; grind
/-- Euclid's steps: what is found divides both, and is combined of both -/
theorem eu_ok : ∀ (k : Nat) (x : List (Num f) × List (Num f)), nf x.1 → nf x.2 → x.2.length < k →
    nf (itW comC comF k x).1 ∧ dv (itW comC comF k x).1 x.1 ∧ dv (itW comC comF k x).1 x.2 ∧ cmb x.1 x.2 (itW comC comF k x).1 ∧ (x.1 ≠ [] ∨ x.2 ≠ [] → (itW comC comF k x).1 ≠ []) ∧ (itW comC comF k x).1.length ≤ max x.1.length x.2.length
  | 0, _, _, _, h => by omega
  | k + 1, x, h1, h2, h => by
    cases q : comC x with
    | false =>
      have e : itW comC comF (k + 1) x = x := if_neg (by rw [q]; exact Bool.false_ne_true)
      have h0 : x.2 = [] := by unfold comC at q; simpa using q
      rw [e, h0]
      refine ⟨h1, dv_self, dv_nil _, ⟨[1], [], by rw [ps_one, ps_nil]; grind⟩, fun hh => ?_, by simp⟩
      rcases hh with hh | hh
      · exact hh
      · exact absurd rfl hh
    | true =>
      have e : itW comC comF (k + 1) x = itW comC comF k (comF x) := if_pos q
      have h0 : x.2 ≠ [] := fun e => by unfold comC at q; rw [e] at q; simp at q
      obtain ⟨e1, e2, e3, e4⟩ := divR_ok h1 h2 h0
      obtain ⟨i1, i2, i3, i4, i5, i6⟩ := eu_ok k (comF x) h2 e4 (by show (divR x.1 x.2).2.length < k; omega)
      rw [e]
      have i2 : dv (itW comC comF k (comF x)).1 x.2 := i2
      have i3 : dv (itW comC comF k (comF x)).1 (divR x.1 x.2).2 := i3
      refine ⟨i1, ?_, i2, ?_, fun _ => i5 (.inl h0), ?_⟩
      · obtain ⟨A, hA, eA⟩ := i2
        obtain ⟨B, hB, eB⟩ := i3
        refine ⟨cutR (addP (mulP (divR x.1 x.2).1 A) B), cut_nf _, ?_⟩
        rw [ps_cut, ps_addP, ps_mulP, e1, eA, eB]; grind
      · obtain ⟨U, V, eU⟩ := i4
        have eU : ps (itW comC comF k (comF x)).1 = ps U * ps x.2 + ps V * ps (divR x.1 x.2).2 := eU
        refine ⟨V, subR U (mulR V (divR x.1 x.2).1), ?_⟩
        have e5 : ps (divR x.1 x.2).2 = ps x.1 - ps (divR x.1 x.2).1 * ps x.2 := by rw [e1]; grind
        rw [eU, ps_subR, ps_mulR, e5]; grind
      · have i6 : (itW comC comF k (comF x)).1.length ≤ max x.2.length (divR x.1 x.2).2.length := i6
        omega
theorem ps_mon {R : List (Num f)} (h : R ≠ []) : ps (monR R) = PS.C (lastR R ^ (f.q - 2)) * ps R := by
  unfold monR
  rw [if_neg h, ← ps_smul]
  congr 1
  exact List.map_congr_left fun c _ => CommSemiring.mul_comm _ _
theorem mon_len (R : List (Num f)) : (monR R).length = R.length := by
  unfold monR
  split
  · next h => rw [h]
  · simp
theorem mon_last {R : List (Num f)} (hR : nf R) (h : R ≠ []) : lastR (monR R) = 1 := by
  have e := back_ok hR h
  unfold monR
  rw [if_neg h]
  unfold lastR at e ⊢
  rw [List.getLast?_map]
  cases q : R.getLast? with
  | none => exact absurd (List.getLast?_eq_none_iff.mp q) h
  | some c =>
    rw [q] at e
    exact e
theorem mon_nf {R : List (Num f)} (hR : nf R) : nf (monR R) := by
  by_cases h : R = []
  · unfold monR; rw [if_pos h]; exact nf_nil
  · have hl := mon_last hR h
    unfold nf
    intro e
    unfold lastR at hl
    rw [e] at hl
    exact Num.zero_ne_one' hl
theorem mon_ne {R : List (Num f)} (h : R ≠ []) : monR R ≠ [] := fun e => by
  have := mon_len R
  rw [e] at this
  have h1 := List.length_pos_iff.mpr h
  simp at this
  omega
theorem dv_mon {R : List (Num f)} (hR : nf R) (h : R ≠ []) : dv (monR R) R ∧ dv R (monR R) := by
  have e := back_ok hR h
  have hc : lastR R ^ (f.q - 2) ≠ 0 := fun e2 => by
    rw [e2] at e
    exact Num.zero_ne_one' (by rw [← e]; grind)
  constructor
  · refine ⟨[lastR R], ?_, ?_⟩
    · unfold nf
      simp
      exact lastR_ne hR h
    · rw [ps_mon h, ps_single1]
      have e2 : PS.C (lastR R) * (PS.C (lastR R ^ (f.q - 2)) * ps R) = PS.C (lastR R * lastR R ^ (f.q - 2)) * ps R := PS.ext fun n => by
        rw [PS.C_mul_co, PS.C_mul_co, PS.C_mul_co]; grind
      rw [e2, e, ← PS.one_eq]; grind
  · refine ⟨[lastR R ^ (f.q - 2)], ?_, ?_⟩
    · unfold nf
      simp
      exact hc
    · rw [ps_mon h, ps_single1]
/-- of rows that end with 1 and divide one another -/
theorem dv_anti {A B : List (Num f)} (hA : nf A) (hB : nf B) (hA0 : A ≠ []) (hB0 : B ≠ []) (lA : lastR A = 1) (lB : lastR B = 1) (h : dv A B) (k : dv B A) : A = B := by
  obtain ⟨Q, hQ, e⟩ := h
  obtain ⟨T, hT, e2⟩ := k
  have hQ0 : Q ≠ [] := fun e3 => by
    rw [e3, ps_nil] at e
    exact hB0 (ps_eq_zero hB (by rw [e]; grind))
  have hT0 : T ≠ [] := fun e3 => by
    rw [e3, ps_nil] at e2
    exact hA0 (ps_eq_zero hA (by rw [e2]; grind))
  obtain ⟨l1, k1⟩ := len_mul hQ hA hQ0 hA0 hB e
  obtain ⟨l2, k2⟩ := len_mul hT hB hT0 hB0 hA e2
  have q1 : 0 < Q.length := List.length_pos_iff.mpr hQ0
  have q2 : 0 < T.length := List.length_pos_iff.mpr hT0
  have hq : Q.length = 1 := by omega
  match Q, hq with
  | [c], _ =>
    have hc : c = 1 := by
      have : lastR [c] = c := rfl
      rw [lB, lA, this] at k1
      grind
    rw [hc, ps_one] at e
    exact nf_ext hA hB (by rw [e]; grind)
theorem eu_all {R S : List (Num f)} (hR : nf R) (hS : nf S) : nf (euR R S) ∧ dv (euR R S) R ∧ dv (euR R S) S ∧ cmb R S (euR R S) ∧ (R ≠ [] ∨ S ≠ [] → euR R S ≠ []) ∧ (euR R S).length ≤ max R.length S.length :=
  eu_ok (S.length + 1) (R, S) hR hS (by simp)
theorem eu_nil {R S : List (Num f)} (hR : nf R) (hS : nf S) (h : euR R S = []) : R = [] ∧ S = [] := by
  obtain ⟨_, _, _, _, h5, _⟩ := eu_all hR hS
  by_cases h1 : R = []
  · by_cases h2 : S = []
    · exact ⟨h1, h2⟩
    · exact absurd h (h5 (.inr h2))
  · exact absurd h (h5 (.inl h1))
theorem com_all {R S : List (Num f)} (hR : nf R) (hS : nf S) (h : euR R S ≠ []) : nf (comR R S) ∧ comR R S ≠ [] ∧ lastR (comR R S) = 1 ∧ dv (comR R S) R ∧ dv (comR R S) S ∧ dv (comR R S) (euR R S) ∧ (∀ d, dv d R → dv d S → dv d (comR R S)) ∧ (comR R S).length = (euR R S).length := by
  obtain ⟨h1, h2, h3, h4, h5, h6⟩ := eu_all hR hS
  obtain ⟨m1, m2⟩ := dv_mon h1 h
  exact ⟨mon_nf h1, mon_ne h, mon_last h1 h, dv_trans m1 h2, dv_trans m1 h3, m1, fun d a b => dv_trans (dv_cmb h4 a b) m2, mon_len _⟩
/-- the same in either order -/
theorem com_comm {R S : List (Num f)} (hR : nf R) (hS : nf S) : comR R S = comR S R := by
  by_cases h : euR R S = []
  · obtain ⟨h1, h2⟩ := eu_nil hR hS h
    subst h1; subst h2; rfl
  · by_cases h' : euR S R = []
    · obtain ⟨h1, h2⟩ := eu_nil hS hR h'
      subst h1; subst h2; rfl
    · obtain ⟨a1, a2, a3, a4, a5, a6, a7, _⟩ := com_all hR hS h
      obtain ⟨b1, b2, b3, b4, b5, b6, b7, _⟩ := com_all hS hR h'
      exact dv_anti a1 b1 a2 b2 a3 b3 (b7 _ a5 a4) (a7 _ b5 b4)
/-- divided by what divides it, nothing is left -/
theorem rest_nil {R d : List (Num f)} (hR : nf R) (hd : nf d) (h0 : d ≠ []) (h : dv d R) : (divR R d).2 = [] := by
  obtain ⟨Q, hQ, e⟩ := h
  obtain ⟨h1, h2, h3, h4⟩ := divR_ok hR hd h0
  have hl : 0 < d.length := List.length_pos_iff.mpr h0
  exact (div_unique (R := R) (T := (divR R d).2) (T' := []) hd h0 h3 hQ h4 nf_nil h1 (by rw [ps_nil, e]; grind) h2 (by simpa using hl)).2
end
end Vi

set_option maxRecDepth 100000
set_option maxHeartbeats 4000000
namespace Vi
open PySem PySem.Spec PyProof.Rows L2 Lean.Grind
@[simp] theorem get2_0 (a b : D) : getAt (.tuple [a, b]) 0 = some a := rfl
@[simp] theorem get2_1 (a b : D) : getAt (.tuple [a, b]) 1 = some b := rfl
class GRow (g : G) : Prop where
  row : g.consts.lookup (Str.ofString "MOST_ROW") = some (.int 9)
theorem lastR_some {f : Fld} {R : List (Num f)} (h : R ≠ []) : R.getLast? = some (lastR R) := by
  unfold lastR
  cases q : R.getLast? with
  | none => exact absurd (List.getLast?_eq_none_iff.mp q) h
  | some c => rfl
section
variable (g : G) {f : Fld}
theorem root_row_s (a : Num f) : F_root_row g [f.D, a.D] = some (.ret (rD [0 - a, 1])) := by
  unfold F_root_row
  generalize hG : G.with g (c_root_row g) = GG
  have hfn : GG.fns = c_root_row g := by rw [← hG]; rfl
  have hfu : GG.fuel = g.fuel := by rw [← hG]; rfl
  have hco : GG.consts = g.consts := by rw [← hG]; rfl
  have his : GG.isx = g.isx := by rw [← hG]; rfl
  have hxm : GG.exm = g.exm := by rw [← hG]; rfl
  unfold c_root_row at hfn
  clear hG
  rw [runF2]
  have : (((1 : Int) : Num f)) = 1 := rfl
  simp [b_root_row, hfn, sizeLine_eq, this]
  rfl
variable [GOk g]
theorem row_divided_s (R S : List (Num f)) (hR : nf R) (hS : nf S) (hS0 : S ≠ []) (hRl : R.length ≤ 100) (hSl : S.length ≤ 100) :
    F_row_divided g [f.D, rD R, rD S] = some (.ret (.tuple [rD (divR R S).1, rD (divR R S).2])) := by
  have hg := GOk.fuel (g := g)
  have hS1 : 0 < S.length := List.length_pos_iff.mpr hS0
  unfold F_row_divided
  generalize hG : G.with g (c_row_divided g) = GG
  have hfn : GG.fns = c_row_divided g := by rw [← hG]; rfl
  have hfu : GG.fuel = g.fuel := by rw [← hG]; rfl
  have hco : GG.consts = g.consts := by rw [← hG]; rfl
  have his : GG.isx = g.isx := by rw [← hG]; rfl
  have hxm : GG.exm = g.exm := by rw [← hG]; rfl
  unfold c_row_divided at hfn
  clear hG
  rw [runF3]
  obtain ⟨b, hb⟩ : ∃ b, b = lastR S ^ (f.q - 2) := ⟨_, rfl⟩
  have hback : ev GG (.call 0 (.cons (.var 0) (.cons (.idx (.var 2) (.neg (.int 1))) .nil))) [.val f.D, .val (rD R), .val (rD S), .un, .un, .un, .un] = some (.ok .plain [] b.D) := by
    simp [hfn, lastR_some hS0, hb]
  have hcomp : ev GG (.comp (.one 5) (.range1 (.max2 (.bin .add (.bin .sub (.bf .len (.var 1)) (.bf .len (.var 2))) (.int 1)) (.int 0))) .miss (.call 1 (.cons (.var 0) .nil))) [.val f.D, .val (rD R), .val (rD S), .val b.D, .un, .un, .un] = some (.ok .fresh [] (nD (List.replicate (R.length + 1 - S.length) (0 : Num f)))) := by
    have e : (if (0 : Int) > (R.length : Int) - (S.length : Int) + 1 then (0 : Int) else (R.length : Int) - (S.length : Int) + 1) = ((R.length + 1 - S.length : Nat) : Int) := by split <;> omega
    refine ev_comp (ev_range1 (k := .plain) (p := []) (n := R.length + 1 - S.length) ?_ (by omega)) rfl rfl rfl ?_ (sz (by simp; omega))
    · rw [← e]; simp
    · rw [rangeD_map, compL_emm (e := fun (k : Nat) => PyData.int k) (h := Num.D (f := f)) (k := fun _ => 0)]
      · rw [List.map_const', List.length_range]
      · intro k _
        simp [compF, isMiss, bindT, Tg.wipe, compE, hfn]
  obtain ⟨hd1, hd2, hd3, hd4⟩ := div_run S hS0 b (by rw [hb]; exact back_ok hS hS0) (R.length + 1) (R, List.replicate (R.length + 1 - S.length) 0) (by simp) hR (by simp; omega) (fun k hk => by
    rw [List.getD_eq_getElem?_getD, List.getElem?_replicate]
    split <;> rfl)
  obtain ⟨z', h, hP⟩ := whileL_run (c := ev GG (.cmp .ge (.bf .len (.var 1)) (.bf .len (.var 2)))) (body := ex GG b_row_divided_0)
    (fun (x : List (Num f) × List (Num f)) z => [.val f.D, .val (rD x.1), .val (rD S), .val b.D, .own (x.2.map Num.D), .un, os (z 0)]) (divC S) (divF S b)
    (fun x => x.1.length ≤ 100 ∧ x.1.length + 1 ≤ x.2.length + S.length)
    (fun x z _ => ⟨.plain, [], .bool (divC S x), by simp [divC], rfl⟩)
    (fun x z ⟨hx1, hx2⟩ hC => by
      have hC' : S.length ≤ x.1.length := of_decide_eq_true hC
      have hx0 : x.1 ≠ [] := fun e => by
        have : x.1.length = 0 := by rw [e]; rfl
        omega
      obtain ⟨R', Q⟩ := x
      obtain ⟨at_, hat⟩ : ∃ k, k = R'.length - S.length := ⟨_, rfl⟩
      have h1 : (R'.length : Int) - (S.length : Int) = (at_ : Int) := by
        have : R'.length = (R', Q).1.length := rfl
        omega
      have hat2 : at_ < Q.length := by
        have : R'.length = (R', Q).1.length := rfl
        have : Q.length = (R', Q).2.length := rfl
        omega
      obtain ⟨c, hc⟩ : ∃ c, c = lastR R' * b := ⟨_, rfl⟩
      have h2 := setIx_em (e := Num.D (f := f)) Q at_ c hat2
      have h3 := b_repN (e := Num.D (f := f)) .plain 0 at_ (by have : R'.length = (R', Q).1.length := rfl; omega)
      have h4 : binop .plain .add (tD Num.D (List.replicate at_ 0)) (.tuple [c.D]) = some (.plain, tD Num.D (List.replicate at_ 0 ++ [c])) := b_addtD (e := Num.D (f := f)) .plain (List.replicate at_ 0) [c] (by simp; have : R'.length = (R', Q).1.length := rfl; omega)
      have hRl : R'.length ≤ 100 := hx1
      have h5 := row_times_s g (List.replicate at_ 0 ++ [c]) S (by simp; omega) (by omega)
      have hml : (mulR (List.replicate at_ 0 ++ [c]) S).length = R'.length := by
        rw [mulR_len _ _ (by simp) hS0]; simp; have : S.length ≤ R'.length := hC'; omega
      have h6 := row_less_s g (by omega) R' (mulR (List.replicate at_ 0 ++ [c]) S) (by omega) (by omega)
      have h7 : (Q.set at_ c)[at_]? = some c := by simp [hat2]
      have hF : divF S b (R', Q) = (subR R' (mulR (List.replicate at_ 0 ++ [c]) S), Q.set at_ c) := by
        unfold divF
        rw [hat, hc]
      have h8 := lastR_some (R := R') hx0
      refine ⟨z.up 0 (.int at_), ?_, ?_⟩
      · rw [hF]
        generalize Q.set at_ c = Q' at h2 h7
        generalize hT : List.replicate at_ (0 : Num f) ++ [c] = T at h4 h5 h6
        rw [hc] at h2 h4 h7
        simp [b_row_divided_0, hfn, sizeLine_eq, h1, h2, h3, h4, h5, h6, h7, h8]
      · rw [hF]
        refine ⟨Nat.le_trans (subR_len _ _) (by rw [hml]; omega), ?_⟩
        have := subR_len R' (mulR (List.replicate at_ 0 ++ [c]) S)
        rw [hml] at this
        have e1 : R'.length = (R', Q).1.length := rfl
        have e2 : Q.length = (R', Q).2.length := rfl
        show (subR R' (mulR (List.replicate at_ 0 ++ [c]) S)).length + 1 ≤ (Q.set at_ c).length + S.length
        rw [List.length_set]
        omega) (R.length + 1) GG.fuel (R, List.replicate (R.length + 1 - S.length) 0) Sc.no ⟨hRl, by simp; omega⟩ (by rw [hfu]; omega) hd1
  have hD : divR R S = (cutR (itW (divC S) (divF S b) (R.length + 1) (R, List.replicate (R.length + 1 - S.length) 0)).2, (itW (divC S) (divF S b) (R.length + 1) (R, List.replicate (R.length + 1 - S.length) 0)).1) := by rw [hb]; rfl
  rw [hD]
  generalize itW (divC S) (divF S b) (R.length + 1) (R, List.replicate (R.length + 1 - S.length) 0) = y at h hd4
  have hcut := cut_s g y.2 (by rw [hd4]; simp; omega) (by omega) _ (.inl rfl)
  simp at h
  simp [b_row_divided, hfn, hback, hcomp, h, hcut, sizeLine_eq]
end
end Vi

set_option maxRecDepth 100000
set_option maxHeartbeats 4000000
namespace Vi
open PySem PySem.Spec PyProof.Rows L2 Lean.Grind
theorem foldl_flatMap {α β : Type} (k : α → List β) : ∀ (l : List α) (acc : List β), l.foldl (fun s x => s ++ k x) acc = acc ++ l.flatMap k
  | [], acc => by simp
  | x :: l, acc => by rw [List.foldl_cons, foldl_flatMap k l, List.flatMap_cons, List.append_assoc]
@[simp] theorem tp_tD (l : List Int) : tD PyData.int l = tp l := rfl
theorem addT_int (ka : Kd) (l : List Int) (k : Nat) (h : l.length ≤ 100) : binop ka .add (tp l) (.tuple [.int k]) = some (.plain, tp (l ++ [(k : Int)])) := b_addtD (e := PyData.int) ka l [(k : Int)] (by simp; omega)
section
variable (g : G)
theorem rows_of_in (GG : G) (p : Nat) (hp : p ≤ 100) (n : Int) (s2 s3 : Slot) (h2 : s2 = .own [tp []] ∨ ∃ o, s2 = os o) (h3 : ∃ o, s3 = os o) (L : List (List Int)) (hL : ∀ r ∈ L, r.length ≤ 99) (hl : L.length ≤ 10000) (z : Sc) :
    ∃ z' : Sc, forL (.one 5) (ex GG b_rows_of_0) (L.map tp) [.val (.int p), .val (.int n), s2, s3, .own [], os (z 0), .un] = some (.nx [.val (.int p), .val (.int n), s2, s3, .own ((L.flatMap fun r => (List.range p).map fun (f : Nat) => r ++ [(f : Int)]).map tp), os (z' 0), .un]) := by
  have key : ∀ (M : List (List Int)) (acc : List (List Int)) (z : Sc), (∀ r ∈ M, r.length ≤ 99) → acc.length + M.length * p ≤ 2000000 → ∃ z' : Sc, forL (.one 5) (ex GG b_rows_of_0) (M.map tp) [.val (.int p), .val (.int n), s2, s3, .own (acc.map tp), os (z 0), .un] = some (.nx [.val (.int p), .val (.int n), s2, s3, .own ((acc ++ M.flatMap fun r => (List.range p).map fun (f : Nat) => r ++ [(f : Int)]).map tp), os (z' 0), .un]) := by
    intro M
    induction M with
    | nil => intro acc z _ _; exact ⟨z, by simp [forL]⟩
    | cons r M ih =>
      intro acc z hM hacc
      have hr := hM r List.mem_cons_self
      have hm : (M.length + 1) * p = M.length * p + p := Nat.succ_mul ..
      have hacc : acc.length + (M.length + 1) * p ≤ 2000000 := hacc
      obtain ⟨z1, e1⟩ := ih (acc ++ (List.range p).map fun (f : Nat) => r ++ [(f : Int)]) (z.up 0 (tp r)) (fun x hx => hM x (List.mem_cons_of_mem _ hx)) (by simp; omega)
      refine ⟨z1, ?_⟩
      have hcomp : ev GG (.comp (.one 6) (.range1 (.var 0)) .miss (.bin .add (.var 5) (.tup (.cons (.var 6) .nil)))) [.val (.int p), .val (.int n), s2, s3, .own (acc.map tp), .val (tp r), .un] = some (.ok .fresh [] (lD tp ((List.range p).map fun (f : Nat) => r ++ [(f : Int)]))) := by
        refine ev_comp_m (k := .plain) (x := .list (rangeD 0 p)) (fun (k : Nat) => PyData.int k) tp (fun (f : Nat) => r ++ [(f : Int)]) (List.range p) (ev_range1 (k := .plain) (p := []) (n := p) rfl (by omega)) (by rw [rangeD_map]; rfl) rfl ?_ (fun k _ => ?_) (by simp; omega)
        · obtain ⟨o3, rfl⟩ := h3
          rcases h2 with rfl | ⟨o, rfl⟩
          · cases o3 <;> rfl
          · cases o <;> cases o3 <;> rfl
        · have := addT_int .plain r k (by omega)
          simp [compF, isMiss, bindT, Tg.wipe, compE, sizeLine_eq, this]
      show (match ex GG b_rows_of_0 [.val (.int p), .val (.int n), s2, s3, .own (acc.map tp), .val (tp r), .un] with
        | some (.nx ρ2) => forL (.one 5) (ex GG b_rows_of_0) (M.map tp) ρ2
        | x => x) = _
      have hb : ex GG b_rows_of_0 [.val (.int p), .val (.int n), s2, s3, .own (acc.map tp), .val (tp r), .un] = some (.nx [.val (.int p), .val (.int n), s2, s3, .own ((acc ++ (List.range p).map fun (f : Nat) => r ++ [(f : Int)]).map tp), .val (tp r), .un]) := by
        have hsz : (acc.map tp).length + (((List.range p).map fun (f : Nat) => r ++ [(f : Int)]).map tp).length ≤ sizeLine := sz (by simp; omega)
        unfold b_rows_of_0
        rw [exE_cons, exE_ext]
        simp only [List.getElem?_cons_succ, List.getElem?_cons_zero, hcomp, toS_ok]
        simp only [lD]
        rw [if_pos ⟨trivial, trivial, hsz⟩]
        simp
      rw [hb]
      dsimp only
      rw [List.flatMap_cons, ← List.append_assoc]
      exact e1
  have hlp : L.length * p ≤ 10000 * 100 := Nat.mul_le_mul hl hp
  obtain ⟨z', e⟩ := key L [] z hL (by simp; omega)
  exact ⟨z', by simpa using e⟩
theorem rows_of_s (p n : Nat) (hp : 2 ≤ p) (hp2 : p ≤ 100) (hn : n ≤ 20) (hb : p ^ n ≤ 10000) (h0 : 0 < n) : F_rows_of g [.int p, .int n] = some (.ret (lD tp (rowsV p n))) := by
  unfold F_rows_of
  generalize hG : g.with (c_rows_of g) = GG
  rw [runF2]
  obtain ⟨ρ', h, s2, o1, o2, o3, hs2, rfl⟩ := forL_inv (tg := .one 3) (body := ex GG b_rows_of_1) (xs := (List.range n).map fun (k : Nat) => PyData.int k)
    (fun i ρ => ∃ s2 o1 o2 o3, ((s2 = .own ((rowsV p i).map tp) ∧ i = 0) ∨ s2 = .val (lD tp (rowsV p i))) ∧ ρ = [.val (.int p), .val (.int n), s2, os o1, os o2, os o3, .un]) 0 [.val (.int p), .val (.int n), .own [tp []], .un, .un, .un, .un] ⟨_, none, none, none, .inl ⟨rfl, rfl⟩, rfl⟩ (fun i hi ρ ⟨s2, o1, o2, o3, hs2, e⟩ => by
    subst e
    rw [Nat.zero_add] at hs2 ⊢
    have hin : i < n := by simpa using hi
    have hpow : p ^ i ≤ 10000 := Nat.le_trans (Nat.pow_le_pow_right (by omega) (by omega)) hb
    have hL : ∀ r ∈ rowsV p i, r.length ≤ 99 := fun r hr => by rw [rowsV_mem hr]; omega
    have hLl : (rowsV p i).length ≤ 10000 := by rw [rowsV_len]; exact hpow
    have hit : ((List.range n).map fun (k : Nat) => PyData.int k)[i] = .int i := by simp
    rw [hit]
    obtain ⟨z1, e1⟩ := rows_of_in GG p hp2 n (.val (lD tp (rowsV p i))) (.val (.int i)) (.inr ⟨some _, rfl⟩) ⟨some _, rfl⟩ (rowsV p i) hL hLl (fun _ => o3)
    refine ⟨[.val (.int p), .val (.int n), s2, .val (.int i), os o2, os o3, .un], [.val (.int p), .val (.int n), .val (lD tp (rowsV p (i + 1))), .val (.int i), .val (lD tp (rowsV p (i + 1))), os (z1 0), .un], rfl, ?_, _, some _, some _, z1 0, .inr rfl, rfl⟩
    have e1 : forL (.one 5) (ex GG b_rows_of_0) ((rowsV p i).map tp) [.val (.int p), .val (.int n), .val (lD tp (rowsV p i)), .val (.int i), .own [], os o3, .un] = some (.nx [.val (.int p), .val (.int n), .val (lD tp (rowsV p i)), .val (.int i), .own ((rowsV p (i + 1)).map tp), os (z1 0), .un]) := e1
    have t1 : ex GG (.set 4 (.lst .nil)) [.val (.int p), .val (.int n), s2, .val (.int i), os o2, os o3, .un] = some (.nx [.val (.int p), .val (.int n), s2, .val (.int i), .own [], os o3, .un]) := rfl
    have t2 : ex GG (.for_ (.one 5) (.var 2) b_rows_of_0) [.val (.int p), .val (.int n), s2, .val (.int i), .own [], os o3, .un] = some (.nx [.val (.int p), .val (.int n), .val (lD tp (rowsV p i)), .val (.int i), .own ((rowsV p (i + 1)).map tp), os (z1 0), .un]) := by
      rcases hs2 with ⟨h, h'⟩ | h
      · subst h
        refine (ex_for (k := .own 2) (p := []) (x := lD tp (rowsV p i)) rfl rfl).trans ?_
        refine Eq.trans ?_ e1
        cases o3 <;> rfl
      · subst h
        refine (ex_for (k := .plain) (p := []) (x := lD tp (rowsV p i)) rfl rfl).trans ?_
        exact e1
    have t3 : ex GG (.set 2 (.var 4)) [.val (.int p), .val (.int n), .val (lD tp (rowsV p i)), .val (.int i), .own ((rowsV p (i + 1)).map tp), os (z1 0), .un] = some (.nx [.val (.int p), .val (.int n), .val (lD tp (rowsV p (i + 1))), .val (.int i), .val (lD tp (rowsV p (i + 1))), os (z1 0), .un]) := by
      refine (ex_set (k := .own 4) (p := []) (x := lD tp (rowsV p (i + 1))) rfl (by show 2 < 7; decide)).trans ?_
      cases z1 0 <;> rfl
    unfold b_rows_of_1
    exact (ex_cons t1).trans ((ex_cons t2).trans ((ex_cons t3).trans rfl)))
  rw [List.length_map, List.length_range, Nat.zero_add] at hs2
  have hs2 : s2 = .val (lD tp (rowsV p n)) := by
    rcases hs2 with ⟨_, h⟩ | h
    · omega
    · exact h
  subst hs2
  have hr : ev GG (.range1 (.var 1)) [.val (.int p), .val (.int n), .own [tp []], .un, .un, .un, .un] = some (.ok .plain [] (lD (fun (k : Nat) => PyData.int k) (List.range n))) := by
    rw [ev_range1 (k := .plain) (p := []) (n := n) rfl (by omega), rangeD_map]; rfl
  have hs1 : ex GG (.set 2 (.lst (.cons (.tup .nil) .nil))) [.val (.int p), .val (.int n), .un, .un, .un, .un, .un] = some (.nx [.val (.int p), .val (.int n), .own [tp []], .un, .un, .un, .un]) := rfl
  show fin (ex GG b_rows_of [.val (.int p), .val (.int n), .un, .un, .un, .un, .un]) = _
  unfold b_rows_of
  rw [ex_cons hs1]
  try simp at h
  simp [hr, h]
end
end Vi

set_option maxRecDepth 100000
set_option maxHeartbeats 4000000
namespace Vi
open PySem PySem.Spec PyProof.Rows L2 Lean.Grind
section
variable (g : G) {f : Fld}
theorem all_D (f : Fld) : lD tp (rowsV f.p f.n) = nD f.all := by
  show PyData.list _ = PyData.list _
  rw [← f.all_v, List.map_map]; rfl
@[simp] theorem numbers_of_s (f : Fld) : F_numbers_of g [f.D] = some (.ret (nD f.all)) := by
  unfold F_numbers_of
  generalize hG : G.with g (c_numbers_of g) = GG
  have hfn : GG.fns = c_numbers_of g := by rw [← hG]; rfl
  have hfu : GG.fuel = g.fuel := by rw [← hG]; rfl
  have hco : GG.consts = g.consts := by rw [← hG]; rfl
  have his : GG.isx = g.isx := by rw [← hG]; rfl
  have hxm : GG.exm = g.exm := by rw [← hG]; rfl
  unfold c_numbers_of at hfn
  clear hG
  rw [runF1]
  have h1 := f.p_two
  have h2 := f.p_le
  have h3 := f.n_le
  have h4 := f.q_le
  have := rows_of_s g f.p f.n f.p_two (by omega) (by omega) (by show f.q ≤ 10000; omega) f.n_pos
  rw [all_D] at this
  simp [b_numbers_of, hfn, this]
theorem monic_s (hg : GOk g) (R : List (Num f)) (hR : R.length ≤ 1000) : F_monic g [f.D, rD R] = some (.ret (rD (monR R))) := by
  unfold F_monic
  generalize hG : G.with g (c_monic g) = GG
  have hfn : GG.fns = c_monic g := by rw [← hG]; rfl
  have hfu : GG.fuel = g.fuel := by rw [← hG]; rfl
  have hco : GG.consts = g.consts := by rw [← hG]; rfl
  have his : GG.isx = g.isx := by rw [← hG]; rfl
  have hxm : GG.exm = g.exm := by rw [← hG]; rfl
  unfold c_monic at hfn
  clear hG
  rw [runF2]
  by_cases h : R = []
  · subst h
    simp [b_monic, monR]
  · have hcomp : ev GG (.comp (.one 3) (.var 1) .miss (.call 1 (.cons (.var 0) (.cons (.var 3) (.cons (.var 2) .nil))))) [.val f.D, .val (rD R), .val (lastR R ^ (f.q - 2)).D, .un] = some (.ok .fresh [] (nD (R.map (· * lastR R ^ (f.q - 2))))) := by
      refine ev_comp_m (k := .plain) (x := rD R) Num.D Num.D (· * lastR R ^ (f.q - 2)) R rfl rfl rfl rfl (fun c _ => ?_) (by omega)
      simp [compF, isMiss, bindT, Tg.wipe, compE, hfn]
    have e : monR R = R.map (· * lastR R ^ (f.q - 2)) := if_neg h
    rw [e]
    simp [b_monic, hfn, isE h, lastR_some h, hcomp]
variable [GOk g]
@[simp] theorem all_numbers_s (f : Fld) : F_all_numbers g [f.D] = some (.ret (nD f.all)) := by
  unfold F_all_numbers
  generalize hG : G.with g (c_all_numbers g) = GG
  have hfn : GG.fns = c_all_numbers g := by rw [← hG]; rfl
  have hfu : GG.fuel = g.fuel := by rw [← hG]; rfl
  have hco : GG.consts = g.consts := by rw [← hG]; rfl
  have his : GG.isx = g.isx := by rw [← hG]; rfl
  have hxm : GG.exm = g.exm := by rw [← hG]; rfl
  unfold c_all_numbers at hfn
  clear hG
  rw [runF1]
  simp [b_all_numbers, hfn]
@[simp] theorem size_s (f : Fld) : F_size g [f.D] = some (.ret (.int f.q)) := by
  unfold F_size
  generalize hG : G.with g (c_size g) = GG
  have hfn : GG.fns = c_size g := by rw [← hG]; rfl
  have hfu : GG.fuel = g.fuel := by rw [← hG]; rfl
  have hco : GG.consts = g.consts := by rw [← hG]; rfl
  have his : GG.isx = g.isx := by rw [← hG]; rfl
  have hxm : GG.exm = g.exm := by rw [← hG]; rfl
  unfold c_size at hfn
  clear hG
  rw [runF1]
  simp [b_size, hfn]
theorem divR_len {R S : List (Num f)} (hR : nf R) (hS : nf S) (hS0 : S ≠ []) : (divR R S).1.length ≤ R.length := by
  have hS1 : 0 < S.length := List.length_pos_iff.mpr hS0
  obtain ⟨h1, h2, h3, h4⟩ := divR_ok hR hS hS0
  by_cases h0 : (divR R S).1 = []
  · rw [h0]; simp
  · -- the quotient's degree
    have hT : ps (subR R (divR R S).2) = ps (divR R S).1 * ps S := by rw [ps_subR, h1]; grind
    have := len_mul h3 hS h0 hS0 (sub_nf _ _) hT
    have hl := subR_len R (divR R S).2
    have hq : 0 < (divR R S).1.length := List.length_pos_iff.mpr h0
    omega
theorem row_common_s (R S : List (Num f)) (hR : nf R) (hS : nf S) (hRl : R.length ≤ 100) (hSl : S.length ≤ 100) : F_row_common g [f.D, rD R, rD S] = some (.ret (rD (comR R S))) := by
  have hg := GOk.fuel (g := g)
  unfold F_row_common
  generalize hG : G.with g (c_row_common g) = GG
  have hfn : GG.fns = c_row_common g := by rw [← hG]; rfl
  have hfu : GG.fuel = g.fuel := by rw [← hG]; rfl
  have hco : GG.consts = g.consts := by rw [← hG]; rfl
  have his : GG.isx = g.isx := by rw [← hG]; rfl
  have hxm : GG.exm = g.exm := by rw [← hG]; rfl
  unfold c_row_common at hfn
  clear hG
  rw [runF3]
  obtain ⟨z', h, hP1, hP2, hP3, hP4⟩ := whileL_run (c := ev GG (.var 2)) (body := ex GG b_row_common_0)
    (fun (x : List (Num f) × List (Num f)) z => [.val f.D, .val (rD x.1), .val (rD x.2)]) comC comF (fun x => nf x.1 ∧ nf x.2 ∧ x.1.length ≤ 100 ∧ x.2.length ≤ 100)
    (fun x z _ => ⟨.plain, [], rD x.2, by simp, by simp [comC]⟩)
    (fun x z ⟨h1, h2, h3, h4⟩ hC => by
      have h0 : x.2 ≠ [] := fun e => by unfold comC at hC; rw [e] at hC; simp at hC
      have hd := row_divided_s g x.1 x.2 h1 h2 h0 h3 h4
      obtain ⟨e1, e2, e3, e4⟩ := divR_ok h1 h2 h0
      exact ⟨z, by simp [b_row_common_0, hfn, hd, comF], h2, e4, h4, by show (divR x.1 x.2).2.length ≤ 100; omega⟩)
    (S.length + 1) GG.fuel (R, S) Sc.no ⟨hR, hS, hRl, hSl⟩ (by rw [hfu]; omega) (com_nf _ _ hR hS (by simp))
  have hm := monic_s g ‹_› (itW comC comF (S.length + 1) (R, S)).1 (by omega)
  have e : comR R S = monR (itW comC comF (S.length + 1) (R, S)).1 := rfl
  rw [e]
  try simp at h
  simp [b_row_common, hfn, h, hm]
end
/-- whether it is a row as told -/
def rowB {f : Fld} (R : List (Num f)) : Bool := decide (R.length ≤ 9) && decide (R.getLast? ≠ some 0)
section
variable (g : G) [GRow g] {f : Fld}
theorem is_row_s (R : List (Num f)) (hR : R.length ≤ 1000) : F_is_row g [f.D, rD R] = some (.ret (.bool (rowB R))) := by
  unfold F_is_row
  generalize hG : G.with g (c_is_row g) = GG
  have hfn : GG.fns = c_is_row g := by rw [← hG]; rfl
  have hfu : GG.fuel = g.fuel := by rw [← hG]; rfl
  have hco : GG.consts = g.consts := by rw [← hG]; rfl
  have his : GG.isx = g.isx := by rw [← hG]; rfl
  have hxm : GG.exm = g.exm := by rw [← hG]; rfl
  unfold c_is_row at hfn
  clear hG
  rw [runF2]
  have hrow := GRow.row (g := g)
  have hcomp : ev GG (.comp (.one 2) (.var 1) (.not (.call 0 (.cons (.var 0) (.cons (.var 2) .nil)))) (.var 2)) [.val f.D, .val (rD R), .un] = some (.ok .fresh [] (nD ([] : List (Num f)))) := by
    have := ev_comp_em (g := GG) (tg := .one 2) (it := .var 1) (c := .not (.call 0 (.cons (.var 0) (.cons (.var 2) .nil)))) (el := .var 2) (ρ := [.val f.D, .val (rD R), .un]) (k := .plain) (x := rD R) (Num.D (f := f)) Num.D (fun _ => false) id R rfl rfl rfl rfl (fun c _ => by
      simp [compF, isMiss, bindT, Tg.wipe, compE, hfn]) (by omega)
    have e : R.filter (fun _ => false) = [] := by rw [List.filter_eq_nil_iff]; intro x _; simp
    rw [this, e]
    rfl
  have hc2 : ev GG (.glob "MOST_ROW") [.val f.D, .val (rD R), .un] = some (.ok .plain [] (.int 9)) := by
    rw [evE_glob, hco, hrow]; rfl
  unfold rowB
  by_cases h9 : R.length ≤ 9
  · have h9' : ¬ ((9 : Int) < R.length) := by omega
    by_cases h0 : R = []
    · subst h0
      simp [b_is_row, hfn, hcomp, hco, hrow]
    · have hl := lastR_some h0
      simp [b_is_row, hfn, hcomp, hco, hrow, h9, h9', isE h0, hl]
  · have h9' : (9 : Int) < R.length := by omega
    simp [b_is_row, hfn, hco, hrow, h9, h9']
end
end Vi

set_option maxRecDepth 100000
set_option maxHeartbeats 4000000
namespace Vi
open PySem PySem.Spec PyProof.Rows L2 Lean.Grind
/-- a good row as told -/
def okRow {f : Fld} (R : List (Num f)) : Prop := R.length ≤ 9 ∧ nf R
theorem rowB_ok {f : Fld} {R : List (Num f)} (h : okRow R) : rowB R = true := by
  unfold rowB
  rw [decide_eq_true h.1, decide_eq_true (show R.getLast? ≠ some 0 from h.2)]; rfl
section
variable (g : G) [GOk g] {f : Fld}
theorem roots_of_s (R : List (Num f)) : F_roots_of g [f.D, rD R] = some (.lst ((f.all.filter fun a => decide (evR R a = 0)).map Num.D)) := by
  unfold F_roots_of
  generalize hG : G.with g (c_roots_of g) = GG
  have hfn : GG.fns = c_roots_of g := by rw [← hG]; rfl
  have hfu : GG.fuel = g.fuel := by rw [← hG]; rfl
  have hco : GG.consts = g.consts := by rw [← hG]; rfl
  have his : GG.isx = g.isx := by rw [← hG]; rfl
  have hxm : GG.exm = g.exm := by rw [← hG]; rfl
  unfold c_roots_of at hfn
  clear hG
  rw [runF2]
  have hq := f.q_le
  have hcomp : ev GG (.comp (.one 2) (.call 0 (.cons (.var 0) .nil)) (.cmp .eq (.call 1 (.cons (.var 0) (.cons (.var 1) (.cons (.var 2) .nil)))) (.call 2 (.cons (.var 0) .nil))) (.var 2)) [.val f.D, .val (rD R), .un] = some (.ok .fresh [] (nD ((f.all.filter fun a => decide (evR R a = 0)).map id))) := by
    refine ev_comp_em (k := .plain) (x := nD f.all) Num.D Num.D (fun a => decide (evR R a = 0)) id f.all (by simp [hfn]) rfl rfl rfl (fun a _ => ?_) (by rw [f.all_len]; omega)
    by_cases h : evR R a = 0
    · simp [compF, isMiss, bindT, Tg.wipe, compE, hfn, h]
    · simp [compF, isMiss, bindT, Tg.wipe, compE, hfn, h]
  rw [List.map_id] at hcomp
  simp [b_roots_of, hcomp]
  rfl
@[simp] theorem row_of_s (r : List Int) (hr : r.length ≤ 100) : F_row_of g [f.D, tp r] = some (.ret (rD (r.map (fun (x : Int) => (x : Num f)) ++ [1]))) := by
  unfold F_row_of
  generalize hG : G.with g (c_row_of g) = GG
  have hfn : GG.fns = c_row_of g := by rw [← hG]; rfl
  have hfu : GG.fuel = g.fuel := by rw [← hG]; rfl
  have hco : GG.consts = g.consts := by rw [← hG]; rfl
  have his : GG.isx = g.isx := by rw [← hG]; rfl
  have hxm : GG.exm = g.exm := by rw [← hG]; rfl
  unfold c_row_of at hfn
  clear hG
  rw [runF2]
  have hcomp : ev GG (.comp (.one 2) (.var 1) .miss (.call 0 (.cons (.var 0) (.cons (.var 2) .nil)))) [.val f.D, .val (tp r), .un] = some (.ok .fresh [] (nD (r.map fun (x : Int) => (x : Num f)))) := by
    refine ev_comp_m (k := .plain) (x := tp r) PyData.int Num.D (fun (x : Int) => (x : Num f)) r rfl rfl rfl rfl (fun a _ => ?_) (by omega)
    simp [compF, isMiss, bindT, Tg.wipe, compE, hfn]
  have h1 : (((1 : Int)) : Num f) = 1 := rfl
  have h2 : binop .plain .add (rD (r.map fun (x : Int) => (x : Num f))) (.tuple [(1 : Num f).D]) = some (.plain, rD (r.map (fun (x : Int) => (x : Num f)) ++ [1])) := b_addtD (e := Num.D (f := f)) .plain _ [1] (by simp; omega)
  generalize hr' : (r.map fun (x : Int) => (x : Num f)) = R' at hcomp h2
  simp [b_row_of, hcomp, hfn, sizeLine_eq, h1, h2]
variable [GRow g]
theorem look_rows_s (L : List (List (Num f))) (hL : ∀ R ∈ L, okRow R) : F_look_rows g [f.D, lD rD L] = some (.ret .none) := by
  unfold F_look_rows
  generalize hG : G.with g (c_look_rows g) = GG
  have hfn : GG.fns = c_look_rows g := by rw [← hG]; rfl
  have hfu : GG.fuel = g.fuel := by rw [← hG]; rfl
  have hco : GG.consts = g.consts := by rw [← hG]; rfl
  have his : GG.isx = g.isx := by rw [← hG]; rfl
  have hxm : GG.exm = g.exm := by rw [← hG]; rfl
  unfold c_look_rows at hfn
  clear hG
  rw [runF2]
  obtain ⟨z', h, _⟩ := forL_fold (tg := .one 2) (body := ex GG b_look_rows_0) (e := rD (f := f))
    (fun (s : Unit) z => [.val f.D, .val (lD rD L), os (z 0)]) (fun s _ => s) (fun _ => True) L
    (fun s R z hR _ => ⟨_, z.up 0 (rD R), rfl, by
      have hk := hL R hR
      have := is_row_s g R (by have := hk.1; omega)
      rw [rowB_ok hk] at this
      simp [b_look_rows_0, hfn, this], trivial⟩) () Sc.no trivial
  try simp at h
  simp [b_look_rows, hfn, h]
theorem look_rows_1 (R : List (Num f)) (h : okRow R) : F_look_rows g [f.D, .list [rD R]] = some (.ret .none) := look_rows_s g [R] (by simpa using h)
theorem look_rows_2 (R S : List (Num f)) (h : okRow R) (h2 : okRow S) : F_look_rows g [f.D, .list [rD R, rD S]] = some (.ret .none) := look_rows_s g [R, S] (by simp [h, h2])
theorem value_s (R : List (Num f)) (h : okRow R) (x : Num f) : F_value g [f.D, rD R, x.D] = some (.ret (evR R x).D) := by
  unfold F_value
  generalize hG : G.with g (c_value g) = GG
  have hfn : GG.fns = c_value g := by rw [← hG]; rfl
  have hfu : GG.fuel = g.fuel := by rw [← hG]; rfl
  have hco : GG.consts = g.consts := by rw [← hG]; rfl
  have his : GG.isx = g.isx := by rw [← hG]; rfl
  have hxm : GG.exm = g.exm := by rw [← hG]; rfl
  unfold c_value at hfn
  clear hG
  rw [runF3]
  simp [b_value, hfn, sizeLine_eq, look_rows_1 g R h]
theorem multiplied_s (R S : List (Num f)) (h : okRow R) (h2 : okRow S) : F_multiplied g [f.D, rD R, rD S] = some (.ret (rD (mulR R S))) := by
  unfold F_multiplied
  generalize hG : G.with g (c_multiplied g) = GG
  have hfn : GG.fns = c_multiplied g := by rw [← hG]; rfl
  have hfu : GG.fuel = g.fuel := by rw [← hG]; rfl
  have hco : GG.consts = g.consts := by rw [← hG]; rfl
  have his : GG.isx = g.isx := by rw [← hG]; rfl
  have hxm : GG.exm = g.exm := by rw [← hG]; rfl
  unfold c_multiplied at hfn
  clear hG
  rw [runF3]
  have := row_times_s g R S (by have := h.1; omega) (by have := h2.1; omega)
  simp [b_multiplied, hfn, sizeLine_eq, look_rows_2 g R S h h2, this]
theorem divided_by_s (R S : List (Num f)) (h : okRow R) (h2 : okRow S) (hS0 : S ≠ []) : F_divided_by g [f.D, rD R, rD S] = some (.ret (.tuple [rD (divR R S).1, rD (divR R S).2])) := by
  unfold F_divided_by
  generalize hG : G.with g (c_divided_by g) = GG
  have hfn : GG.fns = c_divided_by g := by rw [← hG]; rfl
  have hfu : GG.fuel = g.fuel := by rw [← hG]; rfl
  have hco : GG.consts = g.consts := by rw [← hG]; rfl
  have his : GG.isx = g.isx := by rw [← hG]; rfl
  have hxm : GG.exm = g.exm := by rw [← hG]; rfl
  unfold c_divided_by at hfn
  clear hG
  rw [runF3]
  have := row_divided_s g R S h.2 h2.2 hS0 (by have := h.1; omega) (by have := h2.1; omega)
  simp [b_divided_by, hfn, sizeLine_eq, look_rows_2 g R S h h2, this, isE hS0]
theorem common_row_s (R S : List (Num f)) (h : okRow R) (h2 : okRow S) : F_common_row g [f.D, rD R, rD S] = some (.ret (rD (comR R S))) := by
  unfold F_common_row
  generalize hG : G.with g (c_common_row g) = GG
  have hfn : GG.fns = c_common_row g := by rw [← hG]; rfl
  have hfu : GG.fuel = g.fuel := by rw [← hG]; rfl
  have hco : GG.consts = g.consts := by rw [← hG]; rfl
  have his : GG.isx = g.isx := by rw [← hG]; rfl
  have hxm : GG.exm = g.exm := by rw [← hG]; rfl
  unfold c_common_row at hfn
  clear hG
  rw [runF3]
  have := row_common_s g R S h.2 h2.2 (by have := h.1; omega) (by have := h2.1; omega)
  simp [b_common_row, hfn, sizeLine_eq, look_rows_2 g R S h h2, this]
end
end Vi

set_option maxRecDepth 100000
set_option maxHeartbeats 4000000
namespace Vi
open PySem PySem.Spec PyProof.Rows L2 Lean.Grind
@[simp] theorem c_eqB (a b : Bool) : cmpop .eq (.bool a) (.bool b) = some (decide (a = b)) := by cases a <;> cases b <;> rfl
@[simp] theorem c_neB (a b : Bool) : cmpop .ne (.bool a) (.bool b) = some (!decide (a = b)) := by cases a <;> cases b <;> rfl
section
variable {f : Fld}
@[simp] theorem c_eqR0 (R : List (Num f)) : cmpop .eq (rD R) (.tuple []) = some (decide (R = [])) := c_eqR R []
@[simp] theorem c_neR0 (R : List (Num f)) : cmpop .ne (rD R) (.tuple []) = some (!decide (R = [])) := c_neR R []
@[simp] theorem c_eqNL0 (R : List (Num f)) : cmpop .eq (nD R) (.list []) = some (decide (R = [])) := c_eqNL R []
@[simp] theorem c_neNL0 (R : List (Num f)) : cmpop .ne (nD R) (.list []) = some (!decide (R = [])) := c_neNL R []
end
/-! ### what the laws draw -/
def Num.draw (f : Fld) (c : Int) : Num f := ⟨numV c f.p f.n, numV_in c f.p f.n f.p_pos⟩
abbrev sD (ns : List Int) : D := lD PyData.int ns
/-- the scripts -/
structure Script (ns : List Int) : Prop where
  len : ns.length ≤ 63
  bits : ∀ z ∈ ns, Builtin.Int.intBits z ≤ 1048576
theorem Script.at {ns : List Int} (h : Script ns) (k : Nat) : Builtin.Int.intBits (ns.getD k 0) ≤ 1048576 := by
  by_cases q : k < ns.length
  · have : ns.getD k 0 = ns[k] := by simp [q]
    rw [this]
    exact h.bits _ (List.getElem_mem q)
  · have : ns.getD k 0 = 0 := by simp [q]
    rw [this]
    exact Nat.zero_le _
def fldOf (l : List (Nat × List Int × Nat × Nat)) (x : Nat × List Int) : Bool := l.any fun t => Nat.beq t.1 x.1 && decide (t.2.1 = x.2)
theorem fields_in : FIELDS.all (fun x => fldOf TABLE x && Nat.ble (x.1 ^ x.2.length) 49 && Nat.ble x.2.length 5) = true := by decide +kernel
/-- a field that a law draws -/
def Fld.drawn (f : Fld) : Prop := (f.p, f.r) ∈ FIELDS
theorem Fld.drawn_q {f : Fld} (h : f.drawn) : f.q ≤ 49 ∧ f.n ≤ 5 := by
  have := List.all_eq_true.mp fields_in _ h
  rw [Bool.and_eq_true, Bool.and_eq_true] at this
  exact ⟨Nat.le_of_ble_eq_true this.1.2, Nat.le_of_ble_eq_true this.2⟩
theorem fld_of {x : Nat × List Int} (h : x ∈ FIELDS) : ∃ f : Fld, f.drawn ∧ f.D = fD x.1 x.2 := by
  have h1 := List.all_eq_true.mp fields_in _ h
  rw [Bool.and_eq_true, Bool.and_eq_true] at h1
  obtain ⟨t, ht, e⟩ := List.any_eq_true.mp h1.1.1
  rw [Bool.and_eq_true] at e
  have e1 := Nat.eq_of_beq_eq_true e.1
  have e2 := _root_.of_decide_eq_true e.2
  refine ⟨⟨t.1, t.2.1, t.2.2.1, t.2.2.2, ht⟩, ?_, ?_⟩
  · show (t.1, t.2.1) ∈ FIELDS
    rw [e1, e2]; exact h
  · show fD t.1 t.2.1 = _
    rw [e1, e2]
section
variable (g : G) {f : Fld} {ns : List Int}
theorem L_cell_s (ns : List Int) (k : Nat) : F_L_cell g [sD ns, .int k] = some (.ret (.int (ns.getD k 0))) := L_cell_eq g ns k
theorem L_field_s (hs : Script ns) (k : Nat) : ∃ f : Fld, f.drawn ∧ F_L_field g [sD ns, .int k] = some (.ret f.D) := by
  obtain ⟨x, hx, e⟩ := L_field_eq g ns k (by have := hs.len; omega)
  obtain ⟨f, hf, e2⟩ := fld_of hx
  exact ⟨f, hf, by rw [e2]; exact e⟩
theorem L_number_s (f : Fld) (c : Int) (hc : Builtin.Int.intBits c ≤ 2000000) : F_L_number g [f.D, .int c] = some (.ret (Num.draw f c).D) :=
  L_number_eq g f.p f.p_pos f.r (by have := f.n_le; show f.n ≤ 100; omega) c hc
@[simp] theorem L_one_s (f : Fld) : F_L_one g [f.D] = some (.ret (1 : Num f).D) := by
  unfold F_L_one
  generalize hG : G.with g (c_L_one g) = GG
  have hfn : GG.fns = c_L_one g := by rw [← hG]; rfl
  have hfu : GG.fuel = g.fuel := by rw [← hG]; rfl
  have hco : GG.consts = g.consts := by rw [← hG]; rfl
  have his : GG.isx = g.isx := by rw [← hG]; rfl
  have hxm : GG.exm = g.exm := by rw [← hG]; rfl
  unfold c_L_one at hfn
  clear hG
  rw [runF1]
  have h0 := f.n_pos
  have e : (f.n : Int) - 1 = ((f.n - 1 : Nat) : Int) := by omega
  have h2 := b_repN (e := PyData.int) .plain 0 (f.n - 1) (by have := f.n_le; omega)
  have h3 : binop .plain .add (.tuple [.int 1]) (tD PyData.int (List.replicate (f.n - 1) 0)) = some (.plain, (1 : Num f).D) := by
    have := b_addtD (e := PyData.int) .plain [(1 : Int)] (List.replicate (f.n - 1) 0) (by simp; have := f.n_le; omega)
    refine this.trans ?_
    show some (Kd.plain, tp ([1] ++ List.replicate (f.n - 1) 0)) = some (.plain, tp (wholeV f.p f.n 1))
    unfold wholeV zeros
    rw [Int.emod_eq_of_lt (by decide) (by have := f.p_two; omega)]
    rfl
  simp only [tp_tD] at h2 h3
  simp [b_L_one, sizeLine_eq, e, h2, h3]
theorem L_at_fold (x : Num f) : ∀ (R : List (Num f)) (s h : Num f), (R.foldl (fun (s : Num f × Num f) c => (s.1 + c * s.2, s.2 * x)) (s, h)).1 = s + h * evR R x
  | [], s, h => by show s = s + h * 0; grind
  | c :: R, s, h => by
    rw [List.foldl_cons, L_at_fold x R, evR_cons]; grind
@[simp] theorem L_at_s (R : List (Num f)) (x : Num f) : F_L_at g [f.D, rD R, x.D] = some (.ret (evR R x).D) := by
  unfold F_L_at
  generalize hG : G.with g (c_L_at g) = GG
  have hfn : GG.fns = c_L_at g := by rw [← hG]; rfl
  have hfu : GG.fuel = g.fuel := by rw [← hG]; rfl
  have hco : GG.consts = g.consts := by rw [← hG]; rfl
  have his : GG.isx = g.isx := by rw [← hG]; rfl
  have hxm : GG.exm = g.exm := by rw [← hG]; rfl
  unfold c_L_at at hfn
  clear hG
  rw [runF3]
  obtain ⟨z', h, _⟩ := forL_fold (tg := .one 5) (body := ex GG b_L_at_0) (e := Num.D (f := f))
    (fun (s : Num f × Num f) z => [.val f.D, .val (rD R), .val x.D, .val s.1.D, .val s.2.D, os (z 0)]) (fun s c => (s.1 + c * s.2, s.2 * x)) (fun _ => True) R
    (fun s c z _ _ => ⟨_, z.up 0 c.D, rfl, by simp [b_L_at_0, hfn], trivial⟩) (0, 1) Sc.no trivial
  have e := L_at_fold x R 0 1
  have e2 : (0 : Num f) + 1 * evR R x = evR R x := by grind
  rw [e2] at e
  try simp at h
  simp [b_L_at, hfn, h, e]
@[simp] theorem L_power_s (a : Num f) (k : Nat) (hk : k ≤ 1000000) : F_L_power g [f.D, a.D, .int k] = some (.ret (a ^ k).D) := by
  unfold F_L_power
  generalize hG : G.with g (c_L_power g) = GG
  have hfn : GG.fns = c_L_power g := by rw [← hG]; rfl
  have hfu : GG.fuel = g.fuel := by rw [← hG]; rfl
  have hco : GG.consts = g.consts := by rw [← hG]; rfl
  have his : GG.isx = g.isx := by rw [← hG]; rfl
  have hxm : GG.exm = g.exm := by rw [← hG]; rfl
  unfold c_L_power at hfn
  clear hG
  rw [runF3]
  obtain ⟨z', h, _⟩ := forL_fold (tg := .one 4) (body := ex GG b_L_power_0) (e := fun (k : Nat) => PyData.int k)
    (fun (s : Num f) z => [.val f.D, .val a.D, .val (.int k), .val s.D, os (z 0)]) (fun s c => s * a) (fun _ => True) (List.range k)
    (fun s c z _ _ => ⟨_, z.up 0 (.int c), rfl, by simp [b_L_power_0, hfn], trivial⟩) 1 Sc.no trivial
  have e : ∀ (l : List Nat) (s : Num f), l.foldl (fun s _ => s * a) s = s * a ^ l.length := by
    intro l
    induction l with
    | nil => intro s; show s = s * a ^ 0; rw [Semiring.pow_zero]; grind
    | cons x l ih => intro s; rw [List.foldl_cons, ih, List.length_cons, Semiring.pow_succ]; grind
  rw [e, List.length_range, Semiring.one_mul] at h
  have hr : ev GG (.range1 (.var 2)) [.val f.D, .val a.D, .val (.int k), .val (1 : Num f).D, .un] = some (.ok .plain [] (lD (fun (k : Nat) => PyData.int k) (List.range k))) := by
    rw [ev_range1 (k := .plain) (p := []) (n := k) rfl (by omega), rangeD_map]; rfl
  try simp at h
  simp [b_L_power, hfn, hr, h]
end
end Vi

set_option maxRecDepth 100000
set_option maxHeartbeats 4000000
set_option exponentiation.threshold 3000000
namespace Vi
open PySem PySem.Spec PyProof.Rows L2 Lean.Grind
theorem bits_add {c : Int} (hc : Builtin.Int.intBits c ≤ 1048576) (d : Int) (hd : d.natAbs < 2 ^ 40) : Builtin.Int.intBits (c + d) ≤ 2000000 := by
  have h1 : Builtin.Int.intBits c ≤ 1999999 := Nat.le_trans hc (by decide)
  have h2 : Builtin.Int.intBits d ≤ 1999999 := intBits_le_iff.mpr (Nat.lt_of_lt_of_le hd (Nat.pow_le_pow_right (by decide) (by decide : 40 ≤ 1999999)))
  have := PySem.intBits_add_le h1 h2
  simpa using this
theorem foldl_map {α β : Type} (k : α → β) : ∀ (l : List α) (acc : List β), l.foldl (fun s x => s ++ [k x]) acc = acc ++ l.map k
  | [], acc => by simp
  | x :: l, acc => by rw [List.foldl_cons, foldl_map k l, List.map_cons, List.append_assoc]; rfl
/-- a loop as a fold, with the count of turns -/
theorem forL_foldi {α β : Type} {tg : Tg} {body : REnv → Option SR} (e : α → D) (st : β → Sc → REnv) (F : β → α → β) (P : Nat → β → Prop) : ∀ (xs : List α) (j : Nat)
    (h : ∀ i s z (hi : i < xs.length), P (j + i) s → ∃ ρ1 z', bindT tg (e xs[i]) (st s z) = some ρ1 ∧ body ρ1 = some (.nx (st (F s xs[i]) z')) ∧ P (j + i + 1) (F s xs[i])) (s : β) (z : Sc), P j s →
    ∃ z', forL tg body (xs.map e) (st s z) = some (.nx (st (xs.foldl F s) z')) ∧ P (j + xs.length) (xs.foldl F s)
  | [], _, _, s, z, hp => ⟨z, rfl, hp⟩
  | x :: xs, j, h, s, z, hp => by
    obtain ⟨ρ1, z1, e1, e2, p1⟩ := h 0 s z (Nat.zero_lt_succ _) hp
    obtain ⟨z', e3, p3⟩ := forL_foldi e st F P xs (j + 1) (fun i s z hi hP => by
      have := h (i + 1) s z (Nat.succ_lt_succ hi) (by rw [show j + (i + 1) = j + 1 + i by omega]; exact hP)
      rw [show j + (i + 1) + 1 = j + 1 + i + 1 by omega] at this
      exact this) (F s x) z1 p1
    refine ⟨z', ?_, by rw [List.length_cons, show j + (xs.length + 1) = j + 1 + xs.length by omega]; exact p3⟩
    show (match bindT tg (e x) (st s z) with
      | none => none
      | some ρ1 => match body ρ1 with
        | some (.nx ρ2) => forL tg body (xs.map e) ρ2
        | x => x) = _
    rw [show bindT tg (e x) (st s z) = some ρ1 from e1]
    show (match body ρ1 with
        | some (.nx ρ2) => forL tg body (xs.map e) ρ2
        | x => x) = _
    rw [show body ρ1 = _ from e2]
    exact e3
theorem itW_P {β : Type} {C : β → Bool} {F : β → β} {P : β → Prop} (h : ∀ s, P s → P (F s)) : ∀ (k : Nat) (s : β), P s → P (itW C F k s)
  | 0, _, hs => hs
  | k + 1, s, hs => by
    unfold itW
    split
    · exact itW_P h k _ (h _ hs)
    · exact hs
section
variable (g : G) {f : Fld} {ns : List Int}
theorem L_row_s (hs : Script ns) (hg : 1000000 ≤ g.fuel) (k : Nat) : ∃ R : List (Num f), R.length ≤ 5 ∧ nf R ∧ F_L_row g [f.D, sD ns, .int k] = some (.ret (rD R)) := by
  have hc0 := L_cell_s g ns k
  have hc1 := L_cell_s g ns (k + 1)
  have hb1 := hs.at (k + 1)
  generalize ns.getD (k + 1) 0 = c at hc1 hb1
  generalize ns.getD k 0 = c0 at hc0
  generalize sD ns = sd at hc0 hc1
  have hmx := L_mix_eq g c0 9941 6 (by decide) (by decide) (by decide)
  obtain ⟨hm1, hm2⟩ := mixV_lt c0 9941 6 (by decide)
  obtain ⟨n, hn⟩ : ∃ n : Nat, mixV c0 9941 6 = n := ⟨(mixV c0 9941 6).toNat, by omega⟩
  rw [hn] at hmx hm2
  have hn5 : n ≤ 5 := by omega
  obtain ⟨dr, hdr⟩ : ∃ dr : Nat → Num f, dr = fun (k : Nat) => Num.draw f (c + (53 * (k : Int) * k + 3 * k)) := ⟨_, rfl⟩
  obtain ⟨R, hR⟩ : ∃ R, R = cutR ((List.range n).map dr) := ⟨_, rfl⟩
  refine ⟨R, ?_, by rw [hR]; exact cut_nf _, ?_⟩
  · rw [hR]
    refine Nat.le_trans (cutR_len _) ?_
    simpa using hn5
  unfold F_L_row
  generalize hG : G.with g (c_L_row g) = GG
  have hfn : GG.fns = c_L_row g := by rw [← hG]; rfl
  have hfu : GG.fuel = g.fuel := by rw [← hG]; rfl
  have hco : GG.consts = g.consts := by rw [← hG]; rfl
  have his : GG.isx = g.isx := by rw [← hG]; rfl
  have hxm : GG.exm = g.exm := by rw [← hG]; rfl
  unfold c_L_row at hfn
  clear hG
  rw [runF3]
  have e1 : ((k : Int) + 1) = ((k + 1 : Nat) : Int) := by omega
  rw [← e1] at hc1
  obtain ⟨z', h, _⟩ := forL_foldi (tg := .one 4) (body := ex GG b_L_row_0) (e := fun (k : Nat) => PyData.int k)
    (fun (s : List (Num f)) z => [.val f.D, .val sd, .val (.int k), .own (s.map Num.D), os (z 0)]) (fun s k => s ++ [dr k]) (fun i s => s.length = i) (List.range n) 0
    (fun i s z hi hsl => by
      rw [List.length_range] at hi
      rw [List.getElem_range]
      obtain ⟨j, rfl⟩ : ∃ j, j = i := ⟨i, rfl⟩
      refine ⟨_, z.up 0 (.int j), rfl, ?_, ?_⟩
      · have m1 := b_mul .plain 53 (j : Int) (mulOk_l (by decide) (by decide))
        have m2 := b_mul .plain (53 * (j : Int)) (j : Int) (mulOk_r (by omega) (by omega))
        have m3 := b_mul .plain 3 (j : Int) (mulOk_l (by decide) (by decide))
        have hjj : (j : Int) * j ≤ 25 := by
          have h1 := Nat.mul_le_mul (show j ≤ 5 by omega) (show j ≤ 5 by omega)
          have h2 : ((j * j : Nat) : Int) = (j : Int) * j := Int.natCast_mul ..
          omega
        have hjj0 : 0 ≤ (j : Int) * j := Int.mul_nonneg (by omega) (by omega)
        have hbits := bits_add hb1 (53 * (j : Int) * j + 3 * j) (by rw [Int.mul_assoc]; omega)
        have hnum := L_number_s g f (c + (53 * (j : Int) * j + 3 * j)) hbits
        rw [← Int.add_assoc] at hnum
        have hd : dr j = Num.draw f (c + 53 * (j : Int) * j + 3 * j) := by rw [hdr, Int.add_assoc]
        rw [← hd] at hnum
        have hlt : s.length < sizeLine := Nat.lt_of_le_of_lt (by omega : s.length ≤ 1000) (by decide)
        generalize dr j = w at hnum
        generalize 53 * (j : Int) = a at m1 m2 hnum
        generalize 3 * (j : Int) = b at m3 hnum
        simp [b_L_row_0, hfn, m1, m2, m3, hc1, hnum, hlt]
      · simp [hsl]) [] Sc.no rfl
  obtain ⟨z2, h2, _⟩ := whileL_run (c := ev GG (.land (.cmp .ne (.var 3) (.lst .nil)) (.one (.cmp .eq (.idx (.var 3) (.neg (.int 1))) (.call 3 (.cons (.var 0) .nil)))))) (body := ex GG b_L_row_1)
    (fun (s : List (Num f)) z => [.val f.D, .val sd, .val (.int k), .own (s.map Num.D), os (z 0)]) cutC List.dropLast (fun _ => True)
    (fun s z _ => by
      cases hsl : s.getLast? with
      | none =>
        have := List.getLast?_eq_none_iff.mp hsl
        subst this
        exact ⟨.plain, [], .bool false, by simp [hfn, sizeLine_eq]; rfl, rfl⟩
      | some c =>
        have : s ≠ [] := fun e => by rw [e] at hsl; simp at hsl
        exact ⟨.plain, [], .bool (decide (c = 0)), by simp [hfn, hsl, this, sizeLine_eq], by simp [cutC, hsl]⟩)
    (fun s z _ hC => by
      refine ⟨z, ?_, trivial⟩
      have hsn : s ≠ [] := fun e => by rw [e] at hC; simp [cutC] at hC
      simp [b_L_row_1, hsn, List.map_dropLast])
    ((List.range n).map dr).length GG.fuel ((List.range n).map dr) z' trivial (by rw [hfu]; simp; omega) (by rw [cutR_it]; exact cutC_cut _)
  rw [cutR_it, ← hR] at h2
  rw [foldl_map, List.nil_append] at h
  have hr : ev GG (.range1 (.call 1 (.cons (.call 0 (.cons (.var 1) (.cons (.var 2) .nil))) (.cons (.int 9941) (.cons (.int 6) .nil))))) [.val f.D, .val sd, .val (.int k), .own [], .un] = some (.ok .plain [] (lD (fun (k : Nat) => PyData.int k) (List.range n))) := by
    rw [ev_range1 (k := .plain) (p := []) (n := n) (by simp [hfn, hc0, hmx]) (by omega), rangeD_map]; rfl
  generalize (List.range n).map dr = L at h h2
  try simp at h
  try simp at h2
  simp [b_L_row, hfn, hr, h, h2, sizeLine_eq]
end
end Vi

set_option maxRecDepth 100000
set_option maxHeartbeats 4000000
namespace Vi
open PySem PySem.Spec PyProof.Rows L2 Lean.Grind
/-! ### figures, rules -/
class GFig (g : G) : Prop where
  primes : g.consts.lookup (Str.ofString "PRIMES") = some (.tuple [.int 2, .int 3, .int 5, .int 7])
  figs : g.consts.lookup (Str.ofString "MOST_FIGURES") = some (.int 8)
  nums : g.consts.lookup (Str.ofString "MOST_NUMBERS") = some (.int 256)
def withinB (lo hi : Int) : D → Bool
  | .int x => decide (lo ≤ x) && decide (x ≤ hi)
  | _ => false
def primeB : D → Bool
  | .int x => decide (x = 2) || (decide (x = 3) || (decide (x = 5) || decide (x = 7)))
  | _ => false
def figsB (p : Int) (lo hi : Int) : D → Bool
  | .tuple l => (decide (lo ≤ (l.length : Int)) && decide ((l.length : Int) ≤ hi)) && l.all (withinB 0 (p - 1))
  | _ => false
section
variable (g : G)
theorem is_within_s (d : D) (lo hi : Int) : F_is_within g [d, .int lo, .int hi] = some (.ret (.bool (withinB lo hi d))) := by
  cases d with
  | int x => rw [is_within_eq]; rfl
  | bool b =>
    unfold F_is_within
    rw [runF3]
    simp [b_is_within, isType, withinB]
  | none =>
    unfold F_is_within
    rw [runF3]
    simp [b_is_within, isType, withinB]
  | str s =>
    unfold F_is_within
    rw [runF3]
    simp [b_is_within, isType, withinB]
  | list l =>
    unfold F_is_within
    rw [runF3]
    simp [b_is_within, isType, withinB]
  | tuple l =>
    unfold F_is_within
    rw [runF3]
    simp [b_is_within, isType, withinB]
  | dict l =>
    unfold F_is_within
    rw [runF3]
    simp [b_is_within, isType, withinB]
theorem c_inI (x : Int) (l : List Int) : cmpop .inn (.int x) (.tuple (l.map .int)) = some (decide (x ∈ l)) := Emb.int.innT (by decide) x l
theorem is_prime_s [GFig g] (d : D) : F_is_prime g [d] = some (.ret (.bool (primeB d))) := by
  unfold F_is_prime
  generalize hG : G.with g (c_is_prime g) = GG
  have hfn : GG.fns = c_is_prime g := by rw [← hG]; rfl
  have hfu : GG.fuel = g.fuel := by rw [← hG]; rfl
  have hco : GG.consts = g.consts := by rw [← hG]; rfl
  have his : GG.isx = g.isx := by rw [← hG]; rfl
  have hxm : GG.exm = g.exm := by rw [← hG]; rfl
  unfold c_is_prime at hfn
  clear hG
  rw [runF1]
  have hw := is_within_s g d 2 7
  have hp := GFig.primes (g := g)
  cases hd : withinB 2 7 d with
  | false =>
    have : primeB d = false := by
      cases d with
      | int x =>
        simp [withinB] at hd
        simp [primeB]
        omega
      | _ => rfl
    rw [hd] at hw
    simp [b_is_prime, hfn, hw, this]
  | true =>
    rw [hd] at hw
    cases d with
    | int x =>
      have hc := c_inI x [2, 3, 5, 7]
      have e : primeB (.int x) = decide (x ∈ [2, 3, 5, 7]) := by simp [primeB]
      have hc : cmpop .inn (.int x) (.tuple [.int 2, .int 3, .int 5, .int 7]) = some (decide (x ∈ [2, 3, 5, 7])) := hc
      rw [e]
      generalize decide (x ∈ [2, 3, 5, 7]) = b at hc
      simp [b_is_prime, hfn, hw, hco, hp, hc]
    | _ => cases hd
theorem are_figures_s (p lo hi : Int) (d : D) (hl : ∀ l, d = .tuple l → l.length ≤ 1000000) : F_are_figures g [.int p, d, .int lo, .int hi] = some (.ret (.bool (figsB p lo hi d))) := by
  unfold F_are_figures
  generalize hG : G.with g (c_are_figures g) = GG
  have hfn : GG.fns = c_are_figures g := by rw [← hG]; rfl
  have hfu : GG.fuel = g.fuel := by rw [← hG]; rfl
  have hco : GG.consts = g.consts := by rw [← hG]; rfl
  have his : GG.isx = g.isx := by rw [← hG]; rfl
  have hxm : GG.exm = g.exm := by rw [← hG]; rfl
  unfold c_are_figures at hfn
  clear hG
  rw [runF4]
  have other : (∀ l, d ≠ .tuple l) → fin (ex GG b_are_figures ([.val (.int p), .val d, .val (.int lo), .val (.int hi)] ++ List.replicate (5 - 4) .un)) = some (.ret (.bool false)) := fun h => by
    have ht : isType .tuple d = false := by
      cases d with
      | tuple l => exact absurd rfl (h l)
      | _ => rfl
    simp [b_are_figures, ht]
  cases d with
  | tuple l =>
    have hl := hl l rfl
    have hcomp : ev GG (.comp (.one 4) (.var 1) (.not (.call 0 (.cons (.var 4) (.cons (.int 0) (.cons (.bin .sub (.var 0) (.int 1)) .nil))))) (.var 4)) [.val (.int p), .val (.tuple l), .val (.int lo), .val (.int hi), .un] = some (.ok .fresh [] (lD id ((l.filter fun d => !withinB 0 (p - 1) d).map id))) := by
      refine ev_comp_em (k := .plain) (x := .tuple l) (id : D → D) id (fun d => !withinB 0 (p - 1) d) id l rfl (by simp [items]) rfl rfl (fun x _ => ?_) (by omega)
      have hw := is_within_s g x 0 (p - 1)
      cases hx : withinB 0 (p - 1) x <;> rw [hx] at hw <;> simp [compF, isMiss, bindT, Tg.wipe, compE, hfn, hw, hx]
    rw [List.map_id] at hcomp
    have ht : isType .tuple (.tuple l) = true := rfl
    have e : (l.filter fun d => !withinB 0 (p - 1) d).isEmpty = l.all (withinB 0 (p - 1)) := by
      rw [Bool.eq_iff_iff, List.isEmpty_iff, List.filter_eq_nil_iff, List.all_eq_true]
      simp
    unfold figsB
    by_cases h1 : lo ≤ (l.length : Int)
    · by_cases h2 : (l.length : Int) ≤ hi
      · simp [b_are_figures, ht, h1, h2, hcomp, e]
      · simp [b_are_figures, ht, h1, h2]
    · simp [b_are_figures, ht, h1]
  | _ => exact other (fun l => by simp)
@[simp] theorem full_s (r : List Int) (hr : r.length ≤ 1000) : F_full g [tp r] = some (.lst ((r ++ [1]).map .int)) := by
  unfold F_full
  rw [runF1]
  have h := b_addlD (e := PyData.int) .fresh r [1] (by simp; omega)
  have h2 : bfun .list (tp r) = some (.fresh, lD PyData.int r) := rfl
  have h : binop .fresh .add (lD PyData.int r) (.list [.int 1]) = some (.fresh, lD PyData.int (r ++ [1])) := h
  generalize r ++ [1] = r' at h
  simp [b_full, h2, h, sizeLine_eq]
  rfl
theorem any_left_s (l : List Int) (hl : l.length ≤ 1000) : F_any_left g [lD .int l] = some (.ret (.bool (l.any fun x => decide (x ≠ 0)))) := by
  unfold F_any_left
  generalize hG : g.with (c_any_left g) = GG
  rw [runF1]
  have hcomp : ev GG (.comp (.one 1) (.var 0) (.cmp .ne (.var 1) (.int 0)) (.var 1)) [.val (lD .int l), .un] = some (.ok .fresh [] (lD .int ((l.filter fun x => decide (x ≠ 0)).map id))) := by
    refine ev_comp_em (k := .plain) (x := lD .int l) PyData.int PyData.int (fun x => decide (x ≠ 0)) id l rfl rfl rfl rfl (fun x _ => ?_) (by omega)
    by_cases h : x = 0 <;> simp [compF, isMiss, bindT, Tg.wipe, compE, h]
  rw [List.map_id] at hcomp
  have hne : ∀ m : List Int, cmpop .ne (lD .int m) (.list []) = some (!decide (m = [])) := fun m => Emb.int.lst.ne (by decide) m []
  have e : (!decide ((l.filter fun x => decide (x ≠ 0)) = [])) = l.any fun x => decide (x ≠ 0) := by
    rw [Bool.eq_iff_iff, Bool.not_eq_true', decide_eq_false_iff_not, List.filter_eq_nil_iff, List.any_eq_true]
    simp
  simp only [← e]
  generalize (l.filter fun x => decide (x ≠ 0)) = m at hcomp
  simp [b_any_left, hcomp, hne, sizeLine_eq]
end
end Vi

set_option maxRecDepth 100000
set_option maxHeartbeats 4000000
namespace Vi
open PySem PySem.Spec PyProof.Rows L2 Lean.Grind
theorem fold_innerR (p x at_ : Nat) (y : Int) : ∀ (b : List Int) (j : Nat) (c : List Int), (b.zipIdx j).foldl (fun s z => s.set (at_ + z.2) ((s.getD (at_ + z.2) 0 - y * z.1) % p)) c = innerR p y b (at_ + j) c
  | [], _, _ => rfl
  | z :: b, j, c => by
    rw [List.zipIdx_cons, List.foldl_cons, fold_innerR p x at_ y b (j + 1)]
    rfl
/-- dividing on, from the k-th place down -/
def divL (p : Nat) (o : List Int) : Nat → List Int × List Int → List Int × List Int
  | 0, s => s
  | k + 1, s => divL p o k (innerR p (s.1.getD (k + o.length) 0) (o ++ [1]) k s.1, s.2 ++ [s.1.getD (k + o.length) 0])
def divV (p : Nat) (r o : List Int) : List Int × List Int :=
  let s := divL p o (r.length + 1 - o.length) (r ++ [1], [])
  (s.2.reverse.dropLast, s.1.take o.length)
theorem divL_len (p : Nat) (o : List Int) : ∀ (k : Nat) (s : List Int × List Int), (divL p o k s).1.length = s.1.length ∧ (divL p o k s).2.length = s.2.length + k
  | 0, s => ⟨rfl, rfl⟩
  | k + 1, s => by
    obtain ⟨h1, h2⟩ := divL_len p o k (innerR p (s.1.getD (k + o.length) 0) (o ++ [1]) k s.1, s.2 ++ [s.1.getD (k + o.length) 0])
    refine ⟨h1.trans (innerR_len _ _ _ _ _), h2.trans ?_⟩
    simp
    omega
section
variable (g : G)
theorem div_in (GG : G) (p : Nat) (hp : 0 < p) (r o : D) (part : List Int) (hb : bdd part) (found : List D) (at_ n : Nat) (lead : Int) (left : List Int) (hl : left.length = n) (hn : at_ + part.length ≤ n) (z : Sc) :
    ∃ z' : Sc, forL (.two 8 9) (ex GG b_divided_0) (part.zipIdx.map (eD .int)) [.val (.int p), .val r, .val o, .own (left.map .int), .val (lD .int part), .own found, .val (.int at_), .val (.int lead), os (z 0), os (z 1)] =
      some (.nx [.val (.int p), .val r, .val o, .own ((innerR p lead part at_ left).map .int), .val (lD .int part), .own found, .val (.int at_), .val (.int lead), os (z' 0), os (z' 1)]) := by
  obtain ⟨z', h, _⟩ := forL_fold (tg := .two 8 9) (body := ex GG b_divided_0) (e := eD PyData.int)
    (fun (s : List Int) z => [.val (.int p), .val r, .val o, .own (s.map .int), .val (lD .int part), .own found, .val (.int at_), .val (.int lead), os (z 0), os (z 1)])
    (fun s y => s.set (at_ + y.2) ((s.getD (at_ + y.2) 0 - lead * y.1) % p)) (fun s => s.length = n) part.zipIdx
    (fun s y z hy hs => by
      obtain ⟨c, k⟩ := y
      have hk : k < part.length := by have := List.mem_zipIdx hy; omega
      have hc : c ∈ part := by
        have := (List.mem_zipIdx hy).2.2
        rw [this]; exact List.getElem_mem _
      have hk2 : at_ + k < s.length := by omega
      refine ⟨_, (z.up 0 (.int k)).up 1 (.int c), rfl, ?_, by simpa using hs⟩
      have h1 : s[at_ + k]? = some (s.getD (at_ + k) 0) := by simp [hk2]
      have h2 := setIx_emadd (e := PyData.int) s at_ k ((s.getD (at_ + k) 0 - lead * c) % p) hk2
      have hm := b_mul .plain lead c (mulOk_r (by have := hb c hc; omega) (by have := hb c hc; omega))
      have hm2 := b_mod .plain (s.getD (at_ + k) 0 - lead * c) (p : Int) (by omega)
      generalize s.getD (at_ + k) 0 = w at h1 h2 hm2
      simp [b_divided_0, eD, h1, h2, Sc.up, hm, hm2]) left z hl
  have e := fold_innerR p 0 at_ lead part 0 left
  rw [e] at h
  exact ⟨z', h⟩
theorem cut_neg1 {α : Type} (l : List α) (h : l ≠ []) : cut l none (some (-1)) = l.dropLast := by
  have hl : 0 < l.length := List.length_pos_iff.mpr h
  unfold cut
  have e : sBound l.length l.length (some (-1)) = l.length - 1 := by
    simp only [sBound]
    rw [if_pos (by decide)]
    omega
  rw [e]
  show (l.drop 0).take (l.length - 1 - 0) = _
  rw [List.drop_zero, Nat.sub_zero, List.dropLast_eq_take]
theorem divided_s (p : Nat) (hp : 0 < p) (r o : List Int) (hr : r.length ≤ 100) (ho : o.length ≤ r.length) (hb : bdd o) : F_divided g [.int p, tp r, tp o] = some (.ret (.tuple [tp (divV p r o).1, lD .int (divV p r o).2])) := by
  unfold F_divided
  generalize hG : G.with g (c_divided g) = GG
  have hfn : GG.fns = c_divided g := by rw [← hG]; rfl
  have hfu : GG.fuel = g.fuel := by rw [← hG]; rfl
  have hco : GG.consts = g.consts := by rw [← hG]; rfl
  have his : GG.isx = g.isx := by rw [← hG]; rfl
  have hxm : GG.exm = g.exm := by rw [← hG]; rfl
  unfold c_divided at hfn
  clear hG
  rw [runF3]
  obtain ⟨part, hpart⟩ : ∃ part, part = o ++ [1] := ⟨_, rfl⟩
  have hbp : bdd part := fun x hx => by
    rw [hpart] at hx
    rcases List.mem_append.mp hx with hx | hx
    · exact hb x hx
    · rw [List.mem_singleton] at hx; subst hx; decide
  have hpl : part.length = o.length + 1 := by rw [hpart]; simp
  obtain ⟨N, hN⟩ : ∃ N, N = r.length + 1 - o.length := ⟨_, rfl⟩
  have key : ∀ (k : Nat) (s : List Int × List Int) (s4 : Slot) (o6 o7 o8 o9 : Option D), k ≤ N → s.1.length = r.length + 1 → s.2.length ≤ 200 - k → (s4 = .own (part.map .int) ∨ s4 = .val (lD .int part)) →
      ∃ s4' q6 q7 q8 q9, (s4' = .own (part.map .int) ∨ s4' = .val (lD .int part)) ∧ forL (.one 6) (ex GG b_divided_1) ((List.range k).reverse.map fun (k : Nat) => PyData.int k) [.val (.int p), .val (tp r), .val (tp o), .own (s.1.map .int), s4, .own (s.2.map .int), os o6, os o7, os o8, os o9] =
        some (.nx [.val (.int p), .val (tp r), .val (tp o), .own ((divL p o k s).1.map .int), s4', .own ((divL p o k s).2.map .int), os q6, os q7, os q8, os q9]) := by
    intro k
    induction k with
    | zero => intro s s4 o6 o7 o8 o9 _ _ _ h4; exact ⟨s4, o6, o7, o8, o9, h4, rfl⟩
    | succ k ih =>
      intro s s4 o6 o7 o8 o9 hk hs1 hs2 h4
      rw [List.range_succ, List.reverse_append]
      show ∃ s4' q6 q7 q8 q9, _ ∧ (match ex GG b_divided_1 [.val (.int p), .val (tp r), .val (tp o), .own (s.1.map .int), s4, .own (s.2.map .int), .val (.int k), os o7, os o8, os o9] with
        | some (.nx ρ2) => forL (.one 6) (ex GG b_divided_1) ((List.range k).reverse.map fun (k : Nat) => PyData.int k) ρ2
        | x => x) = _
      have hko : k + o.length < s.1.length := by omega
      have hlead : s.1[k + o.length]? = some (s.1.getD (k + o.length) 0) := by simp [hko]
      obtain ⟨lead, hld⟩ : ∃ lead, lead = s.1.getD (k + o.length) 0 := ⟨_, rfl⟩
      rw [← hld] at hlead
      obtain ⟨z', e1⟩ := div_in GG p hp (tp r) (tp o) part hbp ((s.2 ++ [lead]).map .int) k (r.length + 1) lead s.1 hs1 (by omega) (fun i => if i = 0 then o8 else o9)
      have e1 : forL (.two 8 9) (ex GG b_divided_0) (part.zipIdx.map (eD .int)) [.val (.int p), .val (tp r), .val (tp o), .own (s.1.map .int), .val (lD .int part), .own ((s.2 ++ [lead]).map .int), .val (.int k), .val (.int lead), os o8, os o9] = _ := e1
      have t1 : ex GG (.set 7 (.idx (.var 3) (.bin .add (.var 6) (.bf .len (.var 2))))) [.val (.int p), .val (tp r), .val (tp o), .own (s.1.map .int), s4, .own (s.2.map .int), .val (.int k), os o7, os o8, os o9] = some (.nx [.val (.int p), .val (tp r), .val (tp o), .own (s.1.map .int), s4, .own (s.2.map .int), .val (.int k), .val (.int lead), os o8, os o9]) := by
        have hlo := len_tp o
        simp [hlo, hlead]
      have hlt : (s.2.map PyData.int).length < sizeLine := Nat.lt_of_le_of_lt (by simp; omega : _ ≤ 1000) (by decide)
      have t2 : ex GG (.app 5 (.var 7)) [.val (.int p), .val (tp r), .val (tp o), .own (s.1.map .int), s4, .own (s.2.map .int), .val (.int k), .val (.int lead), os o8, os o9] = some (.nx [.val (.int p), .val (tp r), .val (tp o), .own (s.1.map .int), s4, .own ((s.2 ++ [lead]).map .int), .val (.int k), .val (.int lead), os o8, os o9]) := by
        rw [List.length_map] at hlt
        simp [hlt]
      have t3 : ex GG (.for_ (.two 8 9) (.enum (.var 4)) b_divided_0) [.val (.int p), .val (tp r), .val (tp o), .own (s.1.map .int), s4, .own ((s.2 ++ [lead]).map .int), .val (.int k), .val (.int lead), os o8, os o9] = some (.nx [.val (.int p), .val (tp r), .val (tp o), .own ((innerR p lead part k s.1).map .int), .val (lD .int part), .own ((s.2 ++ [lead]).map .int), .val (.int k), .val (.int lead), os (z' 0), os (z' 1)]) := by
        rcases h4 with rfl | rfl
        · refine (ex_for (k := .via [4]) (p := []) (x := lD (eD .int) part.zipIdx) (by simp) rfl).trans ?_
          refine Eq.trans ?_ e1
          cases o8 <;> cases o9 <;> rfl
        · refine (ex_for (k := .via []) (p := []) (x := lD (eD .int) part.zipIdx) (by simp) rfl).trans ?_
          exact e1
      obtain ⟨s4', q6, q7, q8, q9, h4', e2⟩ := ih (innerR p lead part k s.1, s.2 ++ [lead]) (.val (lD .int part)) (some (.int k)) (some (.int lead)) (z' 0) (z' 1) (by omega) (by rw [innerR_len]; exact hs1) (by simp; omega) (.inr rfl)
      refine ⟨s4', q6, q7, q8, q9, h4', ?_⟩
      have hb : ex GG b_divided_1 [.val (.int p), .val (tp r), .val (tp o), .own (s.1.map .int), s4, .own (s.2.map .int), .val (.int k), os o7, os o8, os o9] = some (.nx [.val (.int p), .val (tp r), .val (tp o), .own ((innerR p lead part k s.1).map .int), .val (lD .int part), .own ((s.2 ++ [lead]).map .int), .val (.int k), .val (.int lead), os (z' 0), os (z' 1)]) := by
        unfold b_divided_1
        exact (ex_cons t1).trans ((ex_cons t2).trans ((ex_cons t3).trans rfl))
      rw [hb]
      have e3 : divL p o (k + 1) s = divL p o k (innerR p lead part k s.1, s.2 ++ [lead]) := by
        rw [hld, hpart]; rfl
      rw [e3]
      exact e2
  obtain ⟨s4', q6, q7, q8, q9, h4', e2⟩ := key N (r ++ [1], []) (.own (part.map .int)) none none none none (Nat.le_refl _) (by simp) (by simp) (.inl rfl)
  have hdl := divL_len p o N (r ++ [1], [])
  have hv : divV p r o = ((divL p o N (r ++ [1], [])).2.reverse.dropLast, (divL p o N (r ++ [1], [])).1.take o.length) := by rw [hN]; rfl
  rw [hv]
  generalize divL p o N (r ++ [1], []) = s at e2 hdl
  obtain ⟨d1, d2⟩ := hdl
  have d1 : s.1.length = r.length + 1 := by rw [d1]; simp
  have d2 : s.2.length = N := by rw [d2]; simp
  have hfr := full_s g r (by omega)
  have hfo := full_s g o (by omega)
  rw [← hpart] at hfo
  have hrng : ev GG (.range3 (.bin .sub (.bf .len (.var 3)) (.bf .len (.var 4))) (.neg (.int 1)) (.neg (.int 1))) [.val (.int p), .val (tp r), .val (tp o), .own ((r ++ [1]).map .int), .own (part.map .int), .own [], .un, .un, .un, .un] = some (.ok .plain [] (lD (fun (k : Nat) => PyData.int k) (List.range N).reverse)) := by
    have e0 : ((r ++ [1]).map PyData.int).length = r.length + 1 := by simp
    have e1 : ((r.length + 1 : Nat) : Int) - (part.length : Int) = (N : Int) - 1 := by omega
    have hr3 : rng3 (.int ((N : Int) - 1)) (.int (-1)) (.int (-1)) = some (.ok .plain [] (lD (fun (k : Nat) => PyData.int k) (List.range N).reverse)) := by
      show (if (-1 : Int) = -1 ∧ (small ((N : Int) - 1) && small (-1)) = true then some (Rs.ok .plain [] (.list (rangeDown ((N : Int) - 1) ((N : Int) - 1 - (-1)).toNat))) else none) = _
      have hs : small ((N : Int) - 1) = true := Nat.ble_eq_true_of_le (by omega)
      rw [if_pos ⟨rfl, by rw [hs]; rfl⟩, show ((N : Int) - 1 - (-1)).toNat = N by omega]
      congr 2
      unfold rangeDown lD
      congr 1
      refine List.ext_getElem (by simp) fun i h1 h2 => ?_
      have hi : i < N := by simpa using h1
      simp
      omega
    have hlen : bfun .len (.list ((r ++ [1]).map PyData.int)) = some (.plain, .int ((r.length + 1 : Nat) : Int)) := by
      show some (Kd.plain, PyData.int (((r ++ [1]).map PyData.int).length : Nat)) = _
      rw [e0]
    have hlen2 : bfun .len (.list (part.map PyData.int)) = some (.plain, .int (part.length : Int)) := by
      show some (Kd.plain, PyData.int ((part.map PyData.int).length : Nat)) = _
      rw [List.length_map]
    rw [evE_range3, evE_bin, evE_bf, evE_var]
    simp only [List.getElem?_cons_succ, List.getElem?_cons_zero, map2_ok, hlen, hlen2, Option.map_some, evE_bf, evE_var, b_sub, d_int, e1, evE_neg, evE_int, hr3]
  obtain ⟨Q, hQ⟩ : ∃ Q, Q = s.2.reverse := ⟨_, rfl⟩
  have hQ0 : Q ≠ [] := fun e => by
    have h1 : Q.length = 0 := by rw [e]; rfl
    rw [hQ, List.length_reverse] at h1
    omega
  have hcut1 : cutD (lD .int Q) none (some (-1)) = some (.fresh, lD .int Q.dropLast) := by
    show some (Kd.fresh, PyData.list (cut (Q.map PyData.int) none (some (-1)))) = _
    rw [cut_neg1 _ (by simpa using hQ0), ← List.map_dropLast]
    rfl
  have hrev : revD (lD PyData.int s.2) = some (.fresh, lD .int Q) := by rw [hQ]; exact rev_lD s.2
  have hcut2 : cutD (lD .int s.1) none (some (o.length : Int)) = some (.fresh, lD .int (s.1.take o.length)) := by
    show some (Kd.fresh, PyData.list (cut (s.1.map PyData.int) none (some (o.length : Int)))) = _
    rw [cut_to _ _ (by simp; omega), ← List.map_take]
    rfl
  have t1 : ex GG (.set 3 (.call 0 (.cons (.var 1) .nil))) [.val (.int p), .val (tp r), .val (tp o), .un, .un, .un, .un, .un, .un, .un] = some (.nx [.val (.int p), .val (tp r), .val (tp o), .own ((r ++ [1]).map .int), .un, .un, .un, .un, .un, .un]) := by
    generalize (r ++ [1]).map PyData.int = rr at hfr
    simp [hfn, hfr]
  have t2 : ex GG (.set 4 (.call 0 (.cons (.var 2) .nil))) [.val (.int p), .val (tp r), .val (tp o), .own ((r ++ [1]).map .int), .un, .un, .un, .un, .un, .un] = some (.nx [.val (.int p), .val (tp r), .val (tp o), .own ((r ++ [1]).map .int), .own (part.map .int), .un, .un, .un, .un, .un]) := by
    generalize part.map PyData.int = rr at hfo
    simp [hfn, hfo]
  have t3 : ex GG (.set 5 (.lst .nil)) [.val (.int p), .val (tp r), .val (tp o), .own ((r ++ [1]).map .int), .own (part.map .int), .un, .un, .un, .un, .un] = some (.nx [.val (.int p), .val (tp r), .val (tp o), .own ((r ++ [1]).map .int), .own (part.map .int), .own [], .un, .un, .un, .un]) := rfl
  have t4 : ex GG (.for_ (.one 6) (.range3 (.bin .sub (.bf .len (.var 3)) (.bf .len (.var 4))) (.neg (.int 1)) (.neg (.int 1))) b_divided_1) [.val (.int p), .val (tp r), .val (tp o), .own ((r ++ [1]).map .int), .own (part.map .int), .own [], .un, .un, .un, .un] = some (.nx [.val (.int p), .val (tp r), .val (tp o), .own (s.1.map .int), s4', .own (s.2.map .int), os q6, os q7, os q8, os q9]) := by
    rw [ex_for hrng rfl]
    exact e2
  show fin (ex GG b_divided [.val (.int p), .val (tp r), .val (tp o), .un, .un, .un, .un, .un, .un, .un]) = _
  unfold b_divided
  rw [ex_cons t1, ex_cons t2, ex_cons t3, ex_cons t4]
  have hlo := len_tp o
  show _ = some (Rf.ret (.tuple [tp s.2.reverse.dropLast, _]))
  rw [← hQ]
  simp [-rev_lD, isMiss, hrev, hcut1, hcut2, hlo, Vi.part, sizeLine_eq]
end
end Vi

set_option maxRecDepth 100000
set_option maxHeartbeats 4000000
namespace Vi
open PySem PySem.Spec PyProof.Rows L2 Lean.Grind
def divB (p : Nat) (r o : List Int) : Bool := (divV p r o).2.all fun x => decide (x = 0)
/-- the first of the shortest that divide -/
def firstV (p : Nat) (r : List Int) : List Int := ((List.range (r.length / 2)).findSome? fun j => (rowsV p (j + 1)).find? (divB p r)).getD r
def wholeB (p : Nat) (r : List Int) : Bool := decide (firstV p r = r)
theorem findSome_if {α β : Type} (c : α → Bool) (h : α → β) : ∀ l : List α, l.findSome? (fun x => if c x then some (h x) else none) = (l.find? c).map h
  | [] => rfl
  | x :: l => by
    rw [List.findSome?_cons, List.find?_cons]
    cases q : c x with
    | true => rfl
    | false => exact findSome_if c h l
section
variable (g : G)
theorem part_in (GG : G) (hfn : GG.fns = c_first_part g) (p : Nat) (hp : 2 ≤ p) (hp2 : p ≤ 100) (r : List Int) (hr : r.length ≤ 100) (m : Nat) (hm0 : 0 < m) (hm : m ≤ r.length) (hm2 : m ≤ 20) (hb : p ^ m ≤ 10000) (z : Sc) :
    (match (rowsV p m).find? (divB p r) with
      | some o => ex GG b_first_part_1 [.val (.int p), .val (tp r), .val (.int m), os (z 0)] = some (.rt (tp o))
      | none => ∃ z' : Sc, ex GG b_first_part_1 [.val (.int p), .val (tp r), .val (.int m), os (z 0)] = some (.nx [.val (.int p), .val (tp r), .val (.int m), os (z' 0)])) := by
  have hrows := rows_of_s g p m hp hp2 hm2 hb hm0
  have hx := forL_exit (tg := .one 3) (body := ex GG b_first_part_0) tp (fun z => [.val (.int p), .val (tp r), .val (.int m), os (z 0)]) (fun o => if divB p r o then some (.rt (tp o)) else none)
    (fun x s ρ h e => by
      split at h
      · cases h; cases e
      · cases h) (rowsV p m) (fun o z ho => by
      refine ⟨_, rfl, ?_⟩
      have hol := rowsV_mem ho
      have hd := divided_s g p (by omega) r o hr (by omega) (rowsV_bd (by omega) ho)
      have hdl : (divV p r o).2.length ≤ 1000 := by
        show (List.take _ _).length ≤ 1000
        rw [List.length_take]; omega
      have ha := any_left_s g (divV p r o).2 hdl
      have e : ((divV p r o).2.any fun x => decide (x ≠ 0)) = !divB p r o := by
        unfold divB
        rw [Bool.eq_iff_iff, Bool.not_eq_true', List.any_eq_true, ← Bool.not_eq_true, List.all_eq_true]
        simp
      rw [e] at ha
      cases hq : divB p r o with
      | true =>
        rw [hq] at ha
        show ex GG b_first_part_0 [.val (.int p), .val (tp r), .val (.int m), .val (tp o)] = some (.rt (tp o))
        simp [b_first_part_0, hfn, c_first_part, hd, ha]
      | false =>
        rw [hq] at ha
        refine ⟨z.up 0 (tp o), ?_⟩
        show ex GG b_first_part_0 [.val (.int p), .val (tp r), .val (.int m), .val (tp o)] = _
        simp [b_first_part_0, hfn, c_first_part, hd, ha]) z
  rw [findSome_if] at hx
  have hit : ev GG (.call 0 (.cons (.var 0) (.cons (.var 2) .nil))) [.val (.int p), .val (tp r), .val (.int m), os (z 0)] = some (.ok .plain [] (lD tp (rowsV p m))) := by
    simp [hfn, c_first_part, hrows]
  have hfor : ∀ s, ex GG (.cons (.for_ (.one 3) (.call 0 (.cons (.var 0) (.cons (.var 2) .nil))) b_first_part_0) s) [.val (.int p), .val (tp r), .val (.int m), os (z 0)] = (match forL (.one 3) (ex GG b_first_part_0) ((rowsV p m).map tp) [.val (.int p), .val (tp r), .val (.int m), os (z 0)] with
      | some (.nx ρ1) => ex GG s ρ1
      | x => x) := fun s => by
    rw [exE_cons, ex_for hit rfl]
    rfl
  unfold b_first_part_1
  rw [hfor]
  cases hq : (rowsV p m).find? (divB p r) with
  | some o =>
    rw [hq] at hx
    have hx : forL (.one 3) (ex GG b_first_part_0) ((rowsV p m).map tp) [.val (.int p), .val (tp r), .val (.int m), os (z 0)] = some (.rt (tp o)) := hx
    rw [hx]
  | none =>
    rw [hq] at hx
    obtain ⟨z', hx⟩ := hx
    exact ⟨z', by rw [hx]; rfl⟩
theorem first_part_s (p : Nat) (hp : 2 ≤ p) (hp2 : p ≤ 100) (r : List Int) (hr : r.length ≤ 20) (hb : p ^ (r.length / 2) ≤ 10000) : F_first_part g [.int p, tp r] = some (.ret (tp (firstV p r))) := by
  unfold F_first_part
  generalize hG : g.with (c_first_part g) = GG
  have hfn : GG.fns = c_first_part g := by rw [← hG]; rfl
  rw [runF2]
  have hx := forL_exit (tg := .one 2) (body := ex GG b_first_part_1) (fun (j : Nat) => PyData.int ((j + 1 : Nat) : Int)) (fun z => [.val (.int p), .val (tp r), os (z 1), os (z 0)]) (fun j => ((rowsV p (j + 1)).find? (divB p r)).map fun o => .rt (tp o))
    (fun x s ρ h e => by
      cases q : (rowsV p (x + 1)).find? (divB p r) with
      | none => rw [q] at h; cases h
      | some o => rw [q] at h; cases h; cases e) (List.range (r.length / 2)) (fun j z hj => by
      have hj : j < r.length / 2 := List.mem_range.mp hj
      refine ⟨_, rfl, ?_⟩
      have hi := part_in g GG hfn p hp hp2 r (by omega) (j + 1) (by omega) (by omega) (by omega) (Nat.le_trans (Nat.pow_le_pow_right (by omega) (by omega)) hb) z
      cases q : (rowsV p (j + 1)).find? (divB p r) with
      | some o => rw [q] at hi; exact hi
      | none =>
        rw [q] at hi
        obtain ⟨z', hi⟩ := hi
        exact ⟨fun i => if i = 1 then some (.int ((j + 1 : Nat) : Int)) else z' i, hi⟩) Sc.no
  have hcmp : (List.range (r.length / 2)).findSome? (fun j => ((rowsV p (j + 1)).find? (divB p r)).map fun o => SR.rt (tp o)) = ((List.range (r.length / 2)).findSome? fun j => (rowsV p (j + 1)).find? (divB p r)).map fun o => SR.rt (tp o) := by
    rw [List.map_findSome?]
    rfl
  rw [hcmp] at hx
  have hit : ev GG (.range2 (.int 1) (.bin .add (.bin .fdiv (.bf .len (.var 1)) (.int 2)) (.int 1))) [.val (.int p), .val (tp r), .un, .un] = some (.ok .plain [] (lD (fun (j : Nat) => PyData.int ((j + 1 : Nat) : Int)) (List.range (r.length / 2)))) := by
    have hl := len_tp r
    have hd := b_fdiv .plain (r.length : Int) 2 (by decide)
    have hr2 : rng2 (.int 1) (.int ((r.length : Int) / 2 + 1)) = some (.ok .plain [] (lD (fun (j : Nat) => PyData.int ((j + 1 : Nat) : Int)) (List.range (r.length / 2)))) := by
      show (if (small 1 && small ((r.length : Int) / 2 + 1)) = true then some (Rs.ok .plain [] (.list (rangeD 1 ((r.length : Int) / 2 + 1 - 1).toNat))) else none) = _
      have hs : small ((r.length : Int) / 2 + 1) = true := Nat.ble_eq_true_of_le (by omega)
      rw [if_pos (by rw [hs]; rfl), show ((r.length : Int) / 2 + 1 - 1).toNat = r.length / 2 by omega, rangeD_one]
      rfl
    simp [hl, hd, hr2]
  show fin (ex GG b_first_part [.val (.int p), .val (tp r), .un, .un]) = _
  unfold b_first_part
  have hfor : ex GG (.for_ (.one 2) (.range2 (.int 1) (.bin .add (.bin .fdiv (.bf .len (.var 1)) (.int 2)) (.int 1))) b_first_part_1) [.val (.int p), .val (tp r), .un, .un] = forL (.one 2) (ex GG b_first_part_1) ((List.range (r.length / 2)).map fun (j : Nat) => PyData.int ((j + 1 : Nat) : Int)) [.val (.int p), .val (tp r), .un, .un] := by
    rw [ex_for hit rfl]; rfl
  rw [exE_cons, hfor]
  unfold firstV
  cases q : (List.range (r.length / 2)).findSome? fun j => (rowsV p (j + 1)).find? (divB p r) with
  | some o =>
    rw [q] at hx
    have hx : forL (.one 2) (ex GG b_first_part_1) ((List.range (r.length / 2)).map fun (j : Nat) => PyData.int ((j + 1 : Nat) : Int)) [.val (.int p), .val (tp r), .un, .un] = some (.rt (tp o)) := hx
    rw [hx]
    rfl
  | none =>
    rw [q] at hx
    obtain ⟨z', hx⟩ := hx
    have hx : forL (.one 2) (ex GG b_first_part_1) ((List.range (r.length / 2)).map fun (j : Nat) => PyData.int ((j + 1 : Nat) : Int)) [.val (.int p), .val (tp r), .un, .un] = _ := hx
    rw [hx]
    rfl
theorem is_whole_s (p : Nat) (hp : 2 ≤ p) (hp2 : p ≤ 100) (r : List Int) (hr : r.length ≤ 20) (hb : p ^ (r.length / 2) ≤ 10000) : F_is_whole g [.int p, tp r] = some (.ret (.bool (wholeB p r))) := by
  unfold F_is_whole
  generalize hG : G.with g (c_is_whole g) = GG
  have hfn : GG.fns = c_is_whole g := by rw [← hG]; rfl
  have hfu : GG.fuel = g.fuel := by rw [← hG]; rfl
  have hco : GG.consts = g.consts := by rw [← hG]; rfl
  have his : GG.isx = g.isx := by rw [← hG]; rfl
  have hxm : GG.exm = g.exm := by rw [← hG]; rfl
  unfold c_is_whole at hfn
  clear hG
  rw [runF2]
  have h := first_part_s g p hp hp2 r hr hb
  have hc := c_eqT (firstV p r) r
  unfold wholeB
  generalize firstV p r = o at h hc
  simp [b_is_whole, hfn, h, hc]
end
end Vi

set_option maxRecDepth 100000
set_option maxHeartbeats 4000000
namespace Vi
open PySem PySem.Spec PyProof.Rows L2 Lean.Grind
def intsD : List D → List Int
  | [] => []
  | .int x :: l => x :: intsD l
  | _ :: l => intsD l
theorem intsD_map (l : List Int) : intsD (l.map .int) = l := by
  induction l with
  | nil => rfl
  | cons x l ih => show x :: intsD (l.map .int) = _; rw [ih]
theorem figs_ints {p : Int} : ∀ {l : List D}, l.all (withinB 0 (p - 1)) = true → l = (intsD l).map .int ∧ ∀ x ∈ intsD l, 0 ≤ x ∧ x < p
  | [], _ => ⟨rfl, fun x hx => by cases hx⟩
  | d :: l, h => by
    rw [List.all_cons, Bool.and_eq_true] at h
    obtain ⟨h1, h2⟩ := figs_ints h.2
    cases d with
    | int x =>
      have hx := h.1
      simp [withinB] at hx
      refine ⟨by show _ = PyData.int x :: (intsD l).map .int; rw [← h1], fun y hy => ?_⟩
      rcases List.mem_cons.mp hy with rfl | hy
      · exact ⟨hx.1, by omega⟩
      · exact h2 y hy
    | _ => cases h.1
/-- whether it is a field -/
def fieldB : D → Bool
  | .tuple [.int p, .tuple l] => primeB (.int p) && (figsB p 1 8 (.tuple l) && (decide (p ^ l.length ≤ 256) && wholeB p.toNat (intsD l)))
  | _ => false
section
variable (g : G)
theorem is_field_g [GFig g] (d : D) (hd : ∀ a l, d = .tuple [a, .tuple l] → l.length ≤ 1000000) : F_is_field g [d] = some (.ret (.bool (fieldB d))) := by
  unfold F_is_field
  generalize hG : G.with g (c_is_field g) = GG
  have hfn : GG.fns = c_is_field g := by rw [← hG]; rfl
  have hfu : GG.fuel = g.fuel := by rw [← hG]; rfl
  have hco : GG.consts = g.consts := by rw [← hG]; rfl
  have his : GG.isx = g.isx := by rw [← hG]; rfl
  have hxm : GG.exm = g.exm := by rw [← hG]; rfl
  unfold c_is_field at hfn
  clear hG
  rw [runF1]
  have hfig := GFig.figs (g := g)
  have hnum := GFig.nums (g := g)
  have notup : isType .tuple d = false → fin (ex GG b_is_field ([.val d] ++ List.replicate (1 - 1) .un)) = some (.ret (.bool false)) := fun h => by
    simp [b_is_field, h]
  cases d with
  | tuple l =>
    by_cases hl : l.length = 2
    · obtain ⟨a, b, rfl⟩ : ∃ a b, l = [a, b] := by
        match l, hl with
        | [a, b], _ => exact ⟨a, b, rfl⟩
      have hp := is_prime_s g a
      have hlen : bfun .len (.tuple [a, b]) = some (.plain, .int 2) := rfl
      have hty : isType .tuple (.tuple [a, b]) = true := rfl
      cases hq : primeB a with
      | false =>
        rw [hq] at hp
        have e : fieldB (.tuple [a, b]) = false := by
          cases a with
          | int p =>
            cases b with
            | tuple l => show (primeB (.int p) && _) = false; rw [hq]; rfl
            | _ => rfl
          | _ => rfl
        rw [e]
        simp [b_is_field, hfn, hp, hlen, hty]
      | true =>
        rw [hq] at hp
        cases a with
        | int p =>
          have hpc : p = 2 ∨ p = 3 ∨ p = 5 ∨ p = 7 := by
            simp [primeB] at hq
            omega
          have ha := are_figures_s g p 1 8 b (fun l e => hd (.int p) l (by rw [e]))
          cases hq2 : figsB p 1 8 b with
          | false =>
            rw [hq2] at ha
            have e : fieldB (.tuple [.int p, b]) = false := by
              cases b with
              | tuple l => show (primeB (.int p) && (figsB p 1 8 (.tuple l) && _)) = false; rw [hq2, hq]; rfl
              | _ => rfl
            rw [e]
            simp [b_is_field, hfn, hp, hlen, hty, hco, hfig, ha]
          | true =>
            rw [hq2] at ha
            cases b with
            | tuple l =>
              have hq3 := hq2
              simp only [figsB, Bool.and_eq_true, decide_eq_true_eq] at hq3
              obtain ⟨⟨hl1, hl2⟩, hall⟩ := hq3
              obtain ⟨hi1, hi2⟩ := figs_ints hall
              have hil : (intsD l).length = l.length := by
                conv => rhs; rw [hi1]
                simp
              have ht := times_as_eq g p l.length (by omega) (by omega)
              have hlen2 : bfun .len (.tuple l) = some (.plain, .int l.length) := rfl
              have ep : (p.toNat : Int) = p := by omega
              have e : fieldB (.tuple [.int p, .tuple l]) = (decide (p ^ l.length ≤ 256) && wholeB p.toNat (intsD l)) := by
                show (primeB (.int p) && (figsB p 1 8 (.tuple l) && _)) = _
                rw [hq, hq2]; rfl
              rw [e]
              by_cases h256 : p ^ l.length ≤ 256
              · have hpl : p.toNat ^ ((intsD l).length / 2) ≤ 10000 := by
                  have h1 : p.toNat ^ ((intsD l).length / 2) ≤ 7 ^ 4 := by
                    refine Nat.le_trans (Nat.pow_le_pow_left (show p.toNat ≤ 7 by omega) _) (Nat.pow_le_pow_right (by decide) (by omega))
                  omega
                have hw := is_whole_s g p.toNat (by omega) (by omega) (intsD l) (by omega) hpl
                rw [ep] at hw
                have hw : F_is_whole g [.int p, .tuple l] = some (.ret (.bool (wholeB p.toNat (intsD l)))) := by
                  rw [hi1]
                  rw [intsD_map]
                  exact hw
                generalize hpw : p ^ l.length = w at ht h256
                have h256' : ¬ (256 < w) := by omega
                simp [b_is_field, hfn, hp, hlen, hty, hco, hfig, ha, hnum, hlen2, ht, h256, h256', hw]
              · generalize hpw : p ^ l.length = w at ht h256
                have h256' : 256 < w := by omega
                simp [b_is_field, hfn, hp, hlen, hty, hco, hfig, ha, hnum, hlen2, ht, h256, h256']
            | _ => cases hq2
        | _ => cases hq
    · have e : fieldB (.tuple l) = false := by
        match l, hl with
        | [], _ => rfl
        | [a], _ => cases a <;> rfl
        | [_, _], h => exact absurd rfl h
        | a :: b :: _ :: _, _ => cases a <;> first | rfl | (cases b <;> rfl)
      rw [e]
      have hlen : bfun .len (.tuple l) = some (.plain, .int l.length) := rfl
      have hty : isType .tuple (.tuple l) = true := rfl
      have hne : ¬ ((l.length : Int) = 2) := by omega
      simp [b_is_field, hfn, hlen, hty, hne]
  | _ => exact notup rfl
end
/-- the fields of the table are fields -/
def okW (t : Nat × List Int × Nat × Nat) : Bool := wholeB t.1 t.2.1
theorem table_whole : TABLE.all okW = true := by decide +kernel
theorem fieldB_fld (f : Fld) : fieldB f.D = true := by
  have h1 := f.okF
  have h2 : wholeB f.p f.r = true := List.all_eq_true.mp table_whole _ f.ok
  have hn := f.n_le
  have hn0 := f.n_pos
  have hpc := f.p_cases
  have hq := f.q_le
  show (primeB (.int f.p) && (figsB f.p 1 8 (tp f.r) && (decide ((f.p : Int) ^ (f.r.map PyData.int).length ≤ 256) && wholeB (f.p : Int).toNat (intsD (f.r.map .int))))) = true
  rw [intsD_map, Int.toNat_natCast, h2, List.length_map]
  have e1 : primeB (.int f.p) = true := by
    rcases hpc with h | h | h | h <;> rw [h] <;> rfl
  have e2 : figsB f.p 1 8 (tp f.r) = true := by
    show ((decide ((1 : Int) ≤ ((f.r.map PyData.int).length : Int)) && decide (((f.r.map PyData.int).length : Int) ≤ 8)) && (f.r.map PyData.int).all (withinB 0 ((f.p : Int) - 1))) = true
    rw [List.length_map, decide_eq_true (show (1 : Int) ≤ (f.r.length : Int) from by have : f.r.length = f.n := rfl; omega), decide_eq_true (show (f.r.length : Int) ≤ 8 from by have : f.r.length = f.n := rfl; omega)]
    rw [Bool.and_self, Bool.true_and, List.all_map, List.all_eq_true]
    intro x hx
    have := f.r_in.2 x hx
    show (decide (0 ≤ x) && decide (x ≤ (f.p : Int) - 1)) = true
    rw [decide_eq_true this.1, decide_eq_true (by omega)]; rfl
  have e3 : decide ((f.p : Int) ^ f.r.length ≤ 256) = true := by
    refine _root_.decide_eq_true ?_
    rw [← Int.natCast_pow]
    have : f.p ^ f.r.length = f.q := rfl
    omega
  rw [e1, e2, e3]
  rfl
theorem GOk.of (g : G) [GFig g] (h : 1000000 ≤ g.fuel) : GOk g := ⟨h, fun f => by
  have := is_field_g g f.D (fun a l e => by
    have e : PyData.tuple [.int f.p, .tuple (f.r.map .int)] = .tuple [a, .tuple l] := e
    injection e with e
    have e := (List.cons.inj (List.cons.inj e).2).1
    injection e with e
    rw [← e, List.length_map]
    have := f.n_le
    show f.n ≤ _
    omega)
  rw [fieldB_fld] at this
  exact this⟩
end Vi

set_option maxRecDepth 100000
set_option maxHeartbeats 4000000
namespace Vi
open PySem PySem.Spec PyProof.Rows L2 Lean.Grind
section
variable (g : G) {f : Fld} {ns : List Int}
theorem cell_i (hs : Script ns) (k : Nat) (i : Int) (hi : (k : Int) = i) : ∃ c, Builtin.Int.intBits c ≤ 1048576 ∧ F_L_cell g [sD ns, .int i] = some (.ret (.int c)) := by
  subst hi
  exact ⟨_, hs.at k, L_cell_s g ns k⟩
theorem fld_i (hs : Script ns) (k : Nat) (i : Int) (hi : (k : Int) = i) : ∃ f : Fld, f.drawn ∧ F_L_field g [sD ns, .int i] = some (.ret f.D) := by
  subst hi
  exact L_field_s g hs k
theorem num_i (hs : Script ns) (f : Fld) (k : Nat) (i : Int) (hi : (k : Int) = i) : ∃ c, ∃ a : Num f, F_L_cell g [sD ns, .int i] = some (.ret (.int c)) ∧ F_L_number g [f.D, .int c] = some (.ret a.D) := by
  subst hi
  exact ⟨_, _, L_cell_s g ns k, L_number_s g f _ (Nat.le_trans (hs.at k) (by decide))⟩
theorem row_i [GOk g] (hs : Script ns) (f : Fld) (k : Nat) (i : Int) (hi : (k : Int) = i) : ∃ R : List (Num f), R.length ≤ 5 ∧ nf R ∧ F_L_row g [f.D, sD ns, .int i] = some (.ret (rD R)) := by
  subst hi
  exact L_row_s g hs GOk.fuel k
end
end Vi

set_option maxRecDepth 100000
set_option maxHeartbeats 4000000
namespace Vi
open PySem PySem.Spec PyProof.Rows L2 Lean.Grind
class GOften (g : G) : Prop where
  often : g.consts.lookup (Str.ofString "MOST_OFTEN") = some (.int 1000000)
@[simp] theorem f_intB (b : Bool) : bfun .int (.bool b) = some (.plain, .int (if b then 1 else 0)) := rfl
@[simp] theorem f_intI (b : Int) : bfun .int (.int b) = some (.plain, .int b) := rfl
section
variable (g : G) [GOk g] [GOften g] {f : Fld}
theorem power_s (a : Num f) (k : Int) (h1 : -1000000 ≤ k) (h2 : k ≤ 1000000) :
    F_power g [f.D, a.D, .int k] = if a = 0 then (if k < 0 then some (.ex "Zero") else some (.ret (if k = 0 then (1 : Num f) else 0).D)) else some (.ret (a ^ (k % ((f.q : Int) - 1)).toNat).D) := by
  unfold F_power
  generalize hG : G.with g (c_power g) = GG
  have hfn : GG.fns = c_power g := by rw [← hG]; rfl
  have hfu : GG.fuel = g.fuel := by rw [← hG]; rfl
  have hco : GG.consts = g.consts := by rw [← hG]; rfl
  have his : GG.isx = g.isx := by rw [← hG]; rfl
  have hxm : GG.exm = g.exm := by rw [← hG]; rfl
  unfold c_power at hfn
  clear hG
  rw [runF3]
  have hw := is_within_s g (.int k) (-1000000) 1000000
  have hwb : withinB (-1000000) 1000000 (.int k) = true := by
    show (decide (-1000000 ≤ k) && decide (k ≤ 1000000)) = true
    simp [h1, h2]
  rw [hwb] at hw
  have ho := GOften.often (g := g)
  have hq := f.q_two
  by_cases h : a = 0
  · subst h
    rw [if_pos rfl]
    by_cases hk : k < 0
    · simp [b_power, hfn, hw, hco, ho, hk, sizeLine_eq]
    · by_cases hk0 : k = 0
      · subst hk0
        have : (((1 : Int)) : Num f) = 1 := rfl
        simp [b_power, hfn, hw, hco, ho, sizeLine_eq, this]
      · have : (((0 : Int)) : Num f) = 0 := rfl
        simp [b_power, hfn, hw, hco, ho, hk, hk0, sizeLine_eq, this]
  · rw [if_neg h]
    have hm := b_mod .plain k ((f.q : Int) - 1) (by omega)
    have e : k % ((f.q : Int) - 1) = (((k % ((f.q : Int) - 1)).toNat : Nat) : Int) := by
      rw [Int.toNat_of_nonneg (Int.emod_nonneg _ (by omega))]
    have hlt : k % ((f.q : Int) - 1) < (f.q : Int) - 1 := Int.emod_lt_of_pos _ (by omega)
    have hql := f.q_le
    have hp := power_of_s g a (k % ((f.q : Int) - 1)).toNat (by omega)
    rw [← e] at hp
    simp [b_power, hfn, hw, hco, ho, h, sizeLine_eq, hm, hp]
/-- a power, from 0 times on -/
theorem power_nat (a : Num f) (k : Nat) (h2 : k ≤ 1000000) (i : Int) (hi : (k : Int) = i) : F_power g [f.D, a.D, .int i] = some (.ret (a ^ k).D) := by
  subst hi
  rw [power_s g a k (by omega) (by omega)]
  by_cases h : a = 0
  · subst h
    rw [if_pos rfl, if_neg (by omega)]
    by_cases hk : k = 0
    · subst hk; rfl
    · rw [if_neg (by omega), Num.zero_pow' (by omega)]
  · rw [if_neg h]
    have hq := f.q_two
    have e : ((k : Int) % ((f.q : Int) - 1)).toNat = k % (f.q - 1) := by
      rw [show (f.q : Int) - 1 = ((f.q - 1 : Nat) : Int) by omega, ← Int.natCast_emod, Int.toNat_natCast]
    rw [e, Num.pow_mod h]
end
end Vi

set_option maxRecDepth 100000
set_option maxHeartbeats 4000000
namespace Vi
open PySem PySem.Spec PyProof.Rows L2 Lean.Grind
theorem foldl_sm {f : Fld} (F : Nat → Num f) : ∀ n, (List.range n).foldl (fun s t => s + F t) 0 = sm n F
  | 0 => rfl
  | n + 1 => by
    rw [List.range_succ, List.foldl_append, foldl_sm F n]; rfl
theorem foldl_pm {f : Fld} (F : Nat → Num f) : ∀ n, (List.range n).foldl (fun s t => s * F t) 1 = pm n F
  | 0 => rfl
  | n + 1 => by
    rw [List.range_succ, List.foldl_append, foldl_pm F n]; rfl
theorem foldl_map' {α β γ : Type} (h : α → β) (F : γ → β → γ) : ∀ (l : List α) (s : γ), (l.map h).foldl F s = l.foldl (fun s x => F s (h x)) s
  | [], _ => rfl
  | x :: l, s => by rw [List.map_cons, List.foldl_cons, foldl_map' h F l]; rfl
section
variable (g : G) {f : Fld}
@[simp] theorem b_modn (ka : Kd) (f : Fld) (k : Int) : binop ka .mod (.int k) (.int f.n) = some (.plain, .int (k % f.n)) := b_mod ka k f.n (by have := f.n_pos; omega)
@[simp] theorem b_modp (ka : Kd) (f : Fld) (k : Int) : binop ka .mod (.int k) (.int f.p) = some (.plain, .int (k % f.p)) := b_mod ka k f.p f.p_pos
theorem look_part_ok (m : Nat) (hm0 : 0 < m) (hm : f.n % m = 0) : F_look_part g [f.D, .int m] = some (.ret .none) := by
  unfold F_look_part
  generalize hG : G.with g (c_look_part g) = GG
  have hfn : GG.fns = c_look_part g := by rw [← hG]; rfl
  have hfu : GG.fuel = g.fuel := by rw [← hG]; rfl
  have hco : GG.consts = g.consts := by rw [← hG]; rfl
  have his : GG.isx = g.isx := by rw [← hG]; rfl
  have hxm : GG.exm = g.exm := by rw [← hG]; rfl
  unfold c_look_part at hfn
  clear hG
  rw [runF2]
  have hn := f.n_pos
  have hle : m ≤ f.n := Nat.le_of_dvd hn (Nat.dvd_of_mod_eq_zero hm)
  have hw := is_within_s g (.int m) 1 f.n
  have hwb : withinB 1 f.n (.int m) = true := by
    show (decide ((1 : Int) ≤ m) && decide ((m : Int) ≤ f.n)) = true
    simp; omega
  rw [hwb] at hw
  have hmd := b_mod .plain (f.n : Int) m (by omega)
  have e : (f.n : Int) % (m : Int) = 0 := by omega
  rw [e] at hmd
  simp [b_look_part, hfn, hw, hmd]
theorem look_part_no (d : D) (h : withinB 1 f.n d = false ∨ ∃ m : Nat, d = .int m ∧ 0 < m ∧ f.n % m ≠ 0) : F_look_part g [f.D, d] = some (.ex "BadWhole") := by
  unfold F_look_part
  generalize hG : G.with g (c_look_part g) = GG
  have hfn : GG.fns = c_look_part g := by rw [← hG]; rfl
  have hfu : GG.fuel = g.fuel := by rw [← hG]; rfl
  have hco : GG.consts = g.consts := by rw [← hG]; rfl
  have his : GG.isx = g.isx := by rw [← hG]; rfl
  have hxm : GG.exm = g.exm := by rw [← hG]; rfl
  unfold c_look_part at hfn
  clear hG
  rw [runF2]
  have hw := is_within_s g d 1 f.n
  rcases h with h | ⟨m, rfl, hm0, hm⟩
  · rw [h] at hw
    simp [b_look_part, hfn, hw]
  · cases q : withinB 1 f.n (.int m) with
    | false =>
      rw [q] at hw
      simp [b_look_part, hfn, hw]
    | true =>
      rw [q] at hw
      have hmd := b_mod .plain (f.n : Int) m (by omega)
      have e : ¬ (f.n : Int) % (m : Int) = 0 := by omega
      simp [b_look_part, hfn, hw, hmd, e]
variable [GOk g]
@[simp] theorem raised_to_s (a : Num f) (k : Nat) : F_raised_to g [f.D, a.D, .int k] = some (.ret (a ^ (f.p ^ k)).D) := by
  unfold F_raised_to
  generalize hG : G.with g (c_raised_to g) = GG
  have hfn : GG.fns = c_raised_to g := by rw [← hG]; rfl
  have hfu : GG.fuel = g.fuel := by rw [← hG]; rfl
  have hco : GG.consts = g.consts := by rw [← hG]; rfl
  have his : GG.isx = g.isx := by rw [← hG]; rfl
  have hxm : GG.exm = g.exm := by rw [← hG]; rfl
  unfold c_raised_to at hfn
  clear hG
  rw [runF3]
  have h1 := times_as_eq g f.p (k % f.n) (by have := f.p_le; omega) (by have := Nat.mod_lt k f.n_pos; have := f.n_le; omega)
  have hlt : f.p ^ (k % f.n) < 2 ^ 24 := by
    have h2 : f.p ^ (k % f.n) ≤ f.p ^ f.n := Nat.pow_le_pow_right (by have := f.p_two; omega) (Nat.le_of_lt (Nat.mod_lt _ f.n_pos))
    have : f.p ^ f.n = f.q := rfl
    have := f.q_le
    omega
  have h3 := power_of_s g a (f.p ^ (k % f.n)) hlt
  rw [fr_mod] at h3
  have e : (k : Int) % (f.n : Int) = ((k % f.n : Nat) : Int) := by rw [Int.natCast_emod]
  have e2 : ((f.p : Int) ^ (k % f.n)) = ((f.p ^ (k % f.n) : Nat) : Int) := by rw [Int.natCast_pow]
  rw [e2] at h1
  rw [← e] at h1
  generalize ((f.p ^ (k % f.n) : Nat) : Int) = w at h1 h3
  simp [b_raised_to, hfn, h1, h3]
@[simp] theorem raised_to_1 (a : Num f) : F_raised_to g [f.D, a.D, .int 1] = some (.ret (a ^ f.p).D) := by
  have := raised_to_s g a 1
  rw [Nat.pow_one] at this
  exact this
theorem raised_s (a : Num f) (k : Nat) (hk : k ≤ 99) : F_raised g [f.D, a.D, .int k] = some (.ret (a ^ (f.p ^ k)).D) := by
  unfold F_raised
  generalize hG : G.with g (c_raised g) = GG
  have hfn : GG.fns = c_raised g := by rw [← hG]; rfl
  have hfu : GG.fuel = g.fuel := by rw [← hG]; rfl
  have hco : GG.consts = g.consts := by rw [← hG]; rfl
  have his : GG.isx = g.isx := by rw [← hG]; rfl
  have hxm : GG.exm = g.exm := by rw [← hG]; rfl
  unfold c_raised at hfn
  clear hG
  rw [runF3]
  have hw := is_within_s g (.int k) 0 99
  have hwb : withinB 0 99 (.int k) = true := by
    show (decide ((0 : Int) ≤ k) && decide ((k : Int) ≤ 99)) = true
    simp; omega
  rw [hwb] at hw
  simp [b_raised, hfn, hw, sizeLine_eq]
theorem steps_of_s (a : Num f) (m : Nat) (hm0 : 0 < m) (hbig : m < 1000) : F_steps_of g [f.D, a.D, .int m] = some (.lst (((List.range (f.n / m)).map fun t => a ^ (f.p ^ (m * t))).map Num.D)) := by
  unfold F_steps_of
  generalize hG : G.with g (c_steps_of g) = GG
  have hfn : GG.fns = c_steps_of g := by rw [← hG]; rfl
  have hfu : GG.fuel = g.fuel := by rw [← hG]; rfl
  have hco : GG.consts = g.consts := by rw [← hG]; rfl
  have his : GG.isx = g.isx := by rw [← hG]; rfl
  have hxm : GG.exm = g.exm := by rw [← hG]; rfl
  unfold c_steps_of at hfn
  clear hG
  rw [runF3]
  have hn := f.n_le
  have hd := Nat.div_le_self f.n m
  have hcomp : ev GG (.comp (.one 3) (.range1 (.bin .fdiv (.bf .len (.idx (.var 0) (.int 1))) (.var 2))) .miss (.call 0 (.cons (.var 0) (.cons (.var 1) (.cons (.bin .mul (.var 2) (.var 3)) .nil))))) [.val f.D, .val a.D, .val (.int m), .un] = some (.ok .fresh [] (nD ((List.range (f.n / m)).map fun t => a ^ (f.p ^ (m * t))))) := by
    · have hdv := b_fdiv .plain (f.n : Int) m ⟨by omega, by omega⟩
      have e : (f.n : Int) / (m : Int) = ((f.n / m : Nat) : Int) := by rw [Int.natCast_ediv]
      refine ev_comp_m (k := .plain) (x := .list (rangeD 0 (f.n / m))) (fun (k : Nat) => PyData.int k) Num.D (fun t => a ^ (f.p ^ (m * t))) (List.range (f.n / m)) (ev_range1 (k := .plain) (p := []) (n := f.n / m) (by rw [← e]; simp [hdv]) (by omega)) (by rw [rangeD_map]; rfl) rfl rfl (fun t ht => ?_) (by simp; omega)
      have ht := List.mem_range.mp ht
      have hm := b_mul .plain (m : Int) (t : Int) (mulOk_r (by omega) (by omega))
      have hr := raised_to_s g a (m * t)
      rw [Int.natCast_mul] at hr
      simp [compF, isMiss, bindT, Tg.wipe, compE, hfn, hm, hr]
  generalize ((List.range (f.n / m)).map fun t => a ^ (f.p ^ (m * t))) = L at hcomp
  simp [b_steps_of, hcomp]
  rfl
theorem trace_s (a : Num f) (m : Nat) (hm0 : 0 < m) (hm : f.n % m = 0) : F_trace g [f.D, a.D, .int m] = some (.ret (trN a m).D) := by
  unfold F_trace
  generalize hG : G.with g (c_trace g) = GG
  have hfn : GG.fns = c_trace g := by rw [← hG]; rfl
  have hfu : GG.fuel = g.fuel := by rw [← hG]; rfl
  have hco : GG.consts = g.consts := by rw [← hG]; rfl
  have his : GG.isx = g.isx := by rw [← hG]; rfl
  have hxm : GG.exm = g.exm := by rw [← hG]; rfl
  unfold c_trace at hfn
  clear hG
  rw [runF3]
  have hle : m ≤ f.n := Nat.le_of_dvd f.n_pos (Nat.dvd_of_mod_eq_zero hm)
  have hn := f.n_le
  have h1 := look_part_ok g (f := f) m hm0 hm
  have h2 := steps_of_s g a m hm0 (by omega)
  obtain ⟨z', h, _⟩ := forL_fold (tg := .one 4) (body := ex GG b_trace_0) (e := Num.D (f := f))
    (fun (s : Num f) z => [.val f.D, .val a.D, .val (.int m), .val s.D, os (z 0)]) (fun s c => s + c) (fun _ => True) ((List.range (f.n / m)).map fun t => a ^ (f.p ^ (m * t)))
    (fun s c z _ _ => ⟨_, z.up 0 c.D, rfl, by simp [b_trace_0, hfn], trivial⟩) 0 Sc.no trivial
  rw [foldl_map', foldl_sm fun t => a ^ (f.p ^ (m * t))] at h
  have e : trN a m = sm (f.n / m) fun t => a ^ (f.p ^ (m * t)) := rfl
  rw [e]
  generalize ((List.range (f.n / m)).map fun t => a ^ (f.p ^ (m * t))) = L at h h2
  try simp at h
  simp [b_trace, hfn, h1, h2, h, sizeLine_eq]
theorem norm_s (a : Num f) (m : Nat) (hm0 : 0 < m) (hm : f.n % m = 0) : F_norm g [f.D, a.D, .int m] = some (.ret (nrN a m).D) := by
  unfold F_norm
  generalize hG : G.with g (c_norm g) = GG
  have hfn : GG.fns = c_norm g := by rw [← hG]; rfl
  have hfu : GG.fuel = g.fuel := by rw [← hG]; rfl
  have hco : GG.consts = g.consts := by rw [← hG]; rfl
  have his : GG.isx = g.isx := by rw [← hG]; rfl
  have hxm : GG.exm = g.exm := by rw [← hG]; rfl
  unfold c_norm at hfn
  clear hG
  rw [runF3]
  have hle : m ≤ f.n := Nat.le_of_dvd f.n_pos (Nat.dvd_of_mod_eq_zero hm)
  have hn := f.n_le
  have h1 := look_part_ok g (f := f) m hm0 hm
  have h2 := steps_of_s g a m hm0 (by omega)
  obtain ⟨z', h, _⟩ := forL_fold (tg := .one 4) (body := ex GG b_norm_0) (e := Num.D (f := f))
    (fun (s : Num f) z => [.val f.D, .val a.D, .val (.int m), .val s.D, os (z 0)]) (fun s c => s * c) (fun _ => True) ((List.range (f.n / m)).map fun t => a ^ (f.p ^ (m * t)))
    (fun s c z _ _ => ⟨_, z.up 0 c.D, rfl, by simp [b_norm_0, hfn], trivial⟩) 1 Sc.no trivial
  rw [foldl_map', foldl_pm fun t => a ^ (f.p ^ (m * t))] at h
  have e : nrN a m = pm (f.n / m) fun t => a ^ (f.p ^ (m * t)) := rfl
  have e1 : (((1 : Int)) : Num f) = 1 := rfl
  rw [e]
  generalize ((List.range (f.n / m)).map fun t => a ^ (f.p ^ (m * t))) = L at h h2
  try simp at h
  simp [b_norm, hfn, h1, h2, h, sizeLine_eq, e1]
theorem lesser_s (m : Nat) (hm0 : 0 < m) (hm : f.n % m = 0) : F_lesser g [f.D, .int m] = some (.lst ((f.low m).map Num.D)) := by
  unfold F_lesser
  generalize hG : G.with g (c_lesser g) = GG
  have hfn : GG.fns = c_lesser g := by rw [← hG]; rfl
  have hfu : GG.fuel = g.fuel := by rw [← hG]; rfl
  have hco : GG.consts = g.consts := by rw [← hG]; rfl
  have his : GG.isx = g.isx := by rw [← hG]; rfl
  have hxm : GG.exm = g.exm := by rw [← hG]; rfl
  unfold c_lesser at hfn
  clear hG
  rw [runF2]
  have h1 := look_part_ok g (f := f) m hm0 hm
  have hq := f.q_le
  have hcomp : ev GG (.comp (.one 2) (.call 2 (.cons (.var 0) .nil)) (.cmp .eq (.call 3 (.cons (.var 0) (.cons (.var 2) (.cons (.var 1) .nil)))) (.var 2)) (.var 2)) [.val f.D, .val (.int m), .un] = some (.ok .fresh [] (nD ((f.all.filter fun a => decide (a ^ (f.p ^ m) = a)).map id))) := by
    refine ev_comp_em (k := .plain) (x := nD f.all) Num.D Num.D (fun a => decide (a ^ (f.p ^ m) = a)) id f.all (by simp [hfn]) rfl rfl rfl (fun a _ => ?_) (by rw [f.all_len]; omega)
    by_cases h : a ^ (f.p ^ m) = a
    · simp [compF, isMiss, bindT, Tg.wipe, compE, hfn, h]
    · simp [compF, isMiss, bindT, Tg.wipe, compE, hfn, h]
  rw [List.map_id] at hcomp
  have e : f.low m = f.all.filter fun a => decide (a ^ (f.p ^ m) = a) := rfl
  rw [← e] at hcomp
  generalize f.low m = L at hcomp
  simp [b_lesser, hfn, h1, hcomp]
  rfl
theorem L_raised_s (a : Num f) (k : Nat) (hk : k ≤ 1000) : F_L_raised g [f.D, a.D, .int k] = some (.ret (a ^ (f.p ^ k)).D) := by
  unfold F_L_raised
  generalize hG : G.with g (c_L_raised g) = GG
  have hfn : GG.fns = c_L_raised g := by rw [← hG]; rfl
  have hfu : GG.fuel = g.fuel := by rw [← hG]; rfl
  have hco : GG.consts = g.consts := by rw [← hG]; rfl
  have his : GG.isx = g.isx := by rw [← hG]; rfl
  have hxm : GG.exm = g.exm := by rw [← hG]; rfl
  unfold c_L_raised at hfn
  clear hG
  rw [runF3]
  obtain ⟨z', h, _⟩ := forL_fold (tg := .one 3) (body := ex GG b_L_raised_0) (e := fun (k : Nat) => PyData.int k)
    (fun (s : Num f) z => [.val f.D, .val s.D, .val (.int k), os (z 0)]) (fun s c => s ^ f.p) (fun _ => True) (List.range k)
    (fun s c z _ _ => ⟨_, z.up 0 (.int c), rfl, by
      have := L_power_s g s f.p (by have := f.p_le; omega)
      simp [b_L_raised_0, hfn, this], trivial⟩) a Sc.no trivial
  have e : ∀ (l : List Nat) (s : Num f), l.foldl (fun s _ => s ^ f.p) s = s ^ (f.p ^ l.length) := by
    intro l
    induction l with
    | nil => intro s; show s = s ^ (f.p ^ 0); rw [Nat.pow_zero, Semiring.pow_one]
    | cons x l ih => intro s; rw [List.foldl_cons, ih, List.length_cons, ← Num.pow_mul', Nat.pow_succ, Nat.mul_comm]
  rw [e, List.length_range] at h
  have hr : ev GG (.range1 (.var 2)) [.val f.D, .val a.D, .val (.int k), .un] = some (.ok .plain [] (lD (fun (k : Nat) => PyData.int k) (List.range k))) := by
    rw [ev_range1 (k := .plain) (p := []) (n := k) rfl (by omega), rangeD_map]; rfl
  try simp at h
  simp [b_L_raised, hr, h]
end
section
variable (g : G) {f : Fld}
@[simp] theorem L_figure_s (f : Fld) (x : Int) : F_L_figure g [f.D, .int x] = some (.ret ((x : Int) : Num f).D) := by
  unfold F_L_figure
  generalize hG : G.with g (c_L_figure g) = GG
  have hfn : GG.fns = c_L_figure g := by rw [← hG]; rfl
  have hfu : GG.fuel = g.fuel := by rw [← hG]; rfl
  have hco : GG.consts = g.consts := by rw [← hG]; rfl
  have his : GG.isx = g.isx := by rw [← hG]; rfl
  have hxm : GG.exm = g.exm := by rw [← hG]; rfl
  unfold c_L_figure at hfn
  clear hG
  rw [runF2]
  have h0 := f.n_pos
  have e : (f.n : Int) - 1 = ((f.n - 1 : Nat) : Int) := by omega
  have h2 := b_repN (e := PyData.int) .plain 0 (f.n - 1) (by have := f.n_le; omega)
  have h3 : binop .plain .add (.tuple [.int (x % f.p)]) (tD PyData.int (List.replicate (f.n - 1) 0)) = some (.plain, ((x : Int) : Num f).D) := by
    have := b_addtD (e := PyData.int) .plain [(x % (f.p : Int) : Int)] (List.replicate (f.n - 1) 0) (by simp; have := f.n_le; omega)
    exact this
  simp only [tp_tD] at h2 h3
  simp [b_L_figure, sizeLine_eq, e, h2, h3]
end
end Vi

set_option maxRecDepth 100000
set_option maxHeartbeats 4000000
namespace Vi
open PySem PySem.Spec PyProof.Rows L2 Lean.Grind
abbrev nI : Nat → D := fun k => PyData.int k
/-- how many figures the lesser fields have -/
def Fld.divs (f : Fld) : List Nat := ((List.range f.n).filter fun j => decide (f.n % (j + 1) = 0)).map (· + 1)
theorem divs_mem {f : Fld} {m : Nat} (h : m ∈ f.divs) : 0 < m ∧ f.n % m = 0 := by
  unfold Fld.divs at h
  obtain ⟨j, hj, rfl⟩ := List.mem_map.mp h
  have := (List.mem_filter.mp hj).2
  exact ⟨by omega, by simpa using this⟩
theorem divs_pos (f : Fld) : 0 < f.divs.length := by
  refine List.length_pos_of_mem (a := 1) ?_
  unfold Fld.divs
  refine List.mem_map.mpr ⟨0, List.mem_filter.mpr ⟨List.mem_range.mpr f.n_pos, ?_⟩, rfl⟩
  simp [Nat.mod_one]
/-- one of a list, by a drawn number -/
theorem pick {α : Type} (L : List α) (h : 0 < L.length) (c : Int) : ∃ (k : Nat) (x : α), c % (L.length : Int) = k ∧ L[k]? = some x ∧ x ∈ L := by
  have h1 := Int.emod_nonneg c (by omega : (L.length : Int) ≠ 0)
  have h2 := Int.emod_lt_of_pos c (by omega : (0 : Int) < (L.length : Int))
  have hk : (c % (L.length : Int)).toNat < L.length := by omega
  refine ⟨(c % (L.length : Int)).toNat, L[(c % (L.length : Int)).toNat], by omega, List.getElem?_eq_getElem hk, List.getElem_mem hk⟩
theorem ev_divs {GG : G} {tg : Nat} {f : Fld} {ρ : REnv} {hi md : E} (hhi : ev GG hi ρ = some (.ok .plain [] (.int f.n)))
    (hf : tgFree (.one tg) ρ = true) (he : noExc ρ = true) (hlt : tg < ρ.length) (hmd : ∀ j : Nat, ev GG md (ρ.set tg (.val (.int ((j : Int) + 1)))) = some (.ok .plain [] (.int f.n))) :
    ev GG (.comp (.one tg) (.range2 (.int 1) (.bin .add hi (.int 1))) (.cmp .eq (.bin .mod md (.var tg)) (.int 0)) (.var tg)) ρ = some (.ok .fresh [] (lD nI f.divs)) := by
  have hn := f.n_le
  have hr2 : rng2 (.int 1) (.int ((f.n : Int) + 1)) = some (.ok .plain [] (lD (fun (j : Nat) => PyData.int ((j : Int) + 1)) (List.range f.n))) := by
    show (if (small 1 && small ((f.n : Int) + 1)) = true then some (Rs.ok .plain [] (.list (rangeD 1 ((f.n : Int) + 1 - 1).toNat))) else none) = _
    have hs : small ((f.n : Int) + 1) = true := Nat.ble_eq_true_of_le (by omega)
    rw [if_pos (by rw [hs]; rfl), show ((f.n : Int) + 1 - 1).toNat = f.n by omega, rangeD_one]
    rfl
  have hw : ρ.set tg .un = ρ.set tg .un := rfl
  refine ev_comp_em (k := .plain) (x := lD (fun (j : Nat) => PyData.int ((j : Int) + 1)) (List.range f.n)) (fun (j : Nat) => PyData.int ((j : Int) + 1)) nI (fun j => decide (f.n % (j + 1) = 0)) (· + 1) (List.range f.n) (by simp [hhi, hr2]) rfl hf he (fun j hj => ?_) (by simp; omega)
  have hb : bindT (.one tg) (.int ((j : Int) + 1)) ((Tg.one tg).wipe ρ) = some (ρ.set tg (.val (.int ((j : Int) + 1)))) := by
    show (if tg < (ρ.set tg .un).length then some ((ρ.set tg .un).set tg (.val (.int ((j : Int) + 1)))) else none) = _
    rw [if_pos (by simpa using hlt), List.set_set]
  have hv : (ρ.set tg (.val (.int ((j : Int) + 1))))[tg]? = some (.val (.int ((j : Int) + 1))) := by
    rw [List.getElem?_set_self (by simpa using hlt)]
  have hm := b_mod .plain (f.n : Int) ((j : Int) + 1) (by omega)
  have e : ((f.n : Int) % ((j : Int) + 1) = 0) ↔ (f.n % (j + 1) = 0) := by
    rw [show (j : Int) + 1 = ((j + 1 : Nat) : Int) by omega, ← Int.natCast_emod]
    omega
  unfold compF
  rw [hb]
  simp only [isMiss]
  by_cases h : f.n % (j + 1) = 0
  · have h' := e.mpr h
    simp [evE_cmp, hmd, hv, hm, h, h', compE]
  · have h' : ¬ ((f.n : Int) % ((j : Int) + 1) = 0) := fun x => h (e.mp x)
    simp [evE_cmp, hmd, hv, hm, h, h']
end Vi

set_option maxRecDepth 100000
set_option maxHeartbeats 4000000
namespace Vi
open PySem PySem.Spec PyProof.Rows L2 Lean.Grind
@[simp] theorem get0_num {f : Fld} (a : Num f) : getAt a.D 0 = some (.int (a.v.getD 0 0)) := getT_tp a.v 0 (by rw [a.len]; exact f.n_pos)
section
variable (g : G) [GOk g] {f : Fld}
theorem alike_of_s (a : Num f) : F_alike_of g [f.D, a.D] = some (.lst ((alR a).map Num.D)) := by
  have hg := GOk.fuel (g := g)
  have hn := f.n_le
  have hle := hm_le a
  unfold F_alike_of
  generalize hG : G.with g (c_alike_of g) = GG
  have hfn : GG.fns = c_alike_of g := by rw [← hG]; rfl
  have hfu : GG.fuel = g.fuel := by rw [← hG]; rfl
  have hco : GG.consts = g.consts := by rw [← hG]; rfl
  have his : GG.isx = g.isx := by rw [← hG]; rfl
  have hxm : GG.exm = g.exm := by rw [← hG]; rfl
  unfold c_alike_of at hfn
  clear hG
  rw [runF2]
  have e0 : ([a] : List (Num f)) = (List.range (0 + 1)).map fun k => a ^ (f.p ^ k) := by
    show [a] = [a ^ (f.p ^ 0)]
    rw [Nat.pow_zero, Semiring.pow_one]
  have hit := al_it a f.n 0 (by have := hm_pos a; omega) (by omega)
  rw [← e0] at hit
  obtain ⟨z', h, _⟩ := whileL_run (c := ev GG (.cmp .ne (.call 0 (.cons (.var 0) (.cons (.idx (.var 2) (.neg (.int 1))) (.cons (.int 1) .nil)))) (.var 1))) (body := ex GG b_alike_of_0)
    (fun (s : List (Num f)) z => [.val f.D, .val a.D, .own (s.map Num.D)]) (alC a) alF (fun s => ∃ j, j + 1 ≤ hmN a ∧ s = (List.range (j + 1)).map fun k => a ^ (f.p ^ k))
    (fun s z ⟨j, hj, hsj⟩ => by
      have hs : s ≠ [] := by rw [hsj]; simp
      exact ⟨.plain, [], .bool (!decide (lastR s ^ f.p = a)), by simp [hfn, lastR_some hs], rfl⟩)
    (fun s z ⟨j, hj, hsj⟩ hC => by
      have hs : s ≠ [] := by rw [hsj]; simp
      have hs2 : s.length ≤ 100 := by rw [hsj]; simp; omega
      refine ⟨z, ?_, j + 1, ?_, ?_⟩
      · have hlt : s.length < sizeLine := Nat.lt_of_le_of_lt hs2 (by decide)
        simp [b_alike_of_0, hfn, lastR_some hs, hlt, alF]
      · have hne : j + 1 ≠ hmN a := fun e => by
          have hx := hm_fix a
          rw [← e, Nat.pow_succ] at hx
          rw [hsj] at hC
          unfold alC at hC
          rw [al_last, ← Num.pow_mul', hx] at hC
          simp at hC
        omega
      · rw [hsj]
        unfold alF
        rw [al_last, List.range_succ (n := j + 1), List.map_append, ← Num.pow_mul', ← Nat.pow_succ]
        rfl) f.n GG.fuel [a] Sc.no ⟨0, by have := hm_pos a; omega, e0⟩ (by rw [hfu]; omega) (by rw [hit]; exact al_end a)
  rw [hit] at h
  generalize alR a = L at h
  simp at h
  simp [b_alike_of, sizeLine_eq, h]
  rfl
theorem alike_s (a : Num f) : F_alike g [f.D, a.D] = some (.lst ((alR a).map Num.D)) := by
  unfold F_alike
  generalize hG : G.with g (c_alike g) = GG
  have hfn : GG.fns = c_alike g := by rw [← hG]; rfl
  have hfu : GG.fuel = g.fuel := by rw [← hG]; rfl
  have hco : GG.consts = g.consts := by rw [← hG]; rfl
  have his : GG.isx = g.isx := by rw [← hG]; rfl
  have hxm : GG.exm = g.exm := by rw [← hG]; rfl
  unfold c_alike at hfn
  clear hG
  rw [runF2]
  have h := alike_of_s g a
  generalize (alR a).map Num.D = L at h
  simp [b_alike, hfn, h, sizeLine_eq]
theorem home_s (a : Num f) : F_home g [f.D, a.D] = some (.ret (.int (hmN a))) := by
  unfold F_home
  generalize hG : G.with g (c_home g) = GG
  have hfn : GG.fns = c_home g := by rw [← hG]; rfl
  have hfu : GG.fuel = g.fuel := by rw [← hG]; rfl
  have hco : GG.consts = g.consts := by rw [← hG]; rfl
  have his : GG.isx = g.isx := by rw [← hG]; rfl
  have hxm : GG.exm = g.exm := by rw [← hG]; rfl
  unfold c_home at hfn
  clear hG
  rw [runF2]
  have h := alike_of_s g a
  have hl : ((alR a).map Num.D).length = hmN a := by rw [List.length_map, alR_len]
  generalize (alR a).map Num.D = L at h hl
  simp [b_home, hfn, h, sizeLine_eq, hl]
theorem least_row_s (a : Num f) : F_least_row g [f.D, a.D] = some (.ret (tp (lsV a))) := by
  have hn := f.n_le
  have hle := hm_le a
  have hll := alR_len a
  unfold F_least_row
  generalize hG : G.with g (c_least_row g) = GG
  have hfn : GG.fns = c_least_row g := by rw [← hG]; rfl
  have hfu : GG.fuel = g.fuel := by rw [← hG]; rfl
  have hco : GG.consts = g.consts := by rw [← hG]; rfl
  have his : GG.isx = g.isx := by rw [← hG]; rfl
  have hxm : GG.exm = g.exm := by rw [← hG]; rfl
  unfold c_least_row at hfn
  clear hG
  rw [runF2]
  have h := alike_of_s g a
  have e1 : (((1 : Int)) : Num f) = 1 := rfl
  obtain ⟨z', hl, _⟩ := forL_foldi (tg := .one 3) (body := ex GG b_least_row_0) (e := Num.D (f := f))
    (fun (s : List (Num f)) z => [.val f.D, .val a.D, .val (rD s), os (z 0)]) (fun R c => mulR R [0 - c, 1]) (fun i s => s.length = i + 1) (alR a) 0
    (fun i s z hi hs => by
      have hrr := root_row_s g (alR a)[i]
      have hrt := row_times_s g s [0 - (alR a)[i], 1] (by omega) (by simp)
      have hs0 : s ≠ [] := fun e => by rw [e] at hs; simp at hs
      refine ⟨_, z.up 0 ((alR a)[i]).D, rfl, ?_, ?_⟩
      · generalize (alR a)[i] = c at hrr hrt
        simp [b_least_row_0, hfn, hrr, hrt]
      · rw [mulR_len _ _ hs0 (by simp), hs]; simp) [1] Sc.no rfl
  have hpl := prR_len (alR a)
  have hp : (alR a).foldl (fun R c => mulR R [0 - c, 1]) [1] = prR (alR a) := rfl
  rw [hp] at hl
  have hne : prR (alR a) ≠ [] := fun e => by rw [e] at hpl; simp at hpl
  obtain ⟨R, hR⟩ : ∃ R, R = prR (alR a) := ⟨_, rfl⟩
  have hcut : cutD (rD R) none (some (-1)) = some (.plain, rD R.dropLast) := by
    show some (Kd.plain, PyData.tuple (cut (R.map Num.D) none (some (-1)))) = _
    rw [cut_neg1 _ (by rw [hR]; simpa using hne), ← List.map_dropLast]
    rfl
  have hsl : ev GG (.slc (.var 2) .miss (.neg (.int 1))) [.val f.D, .val a.D, .val (rD R), os (z' 0)] = some (.ok .plain [] (rD R.dropLast)) := by
    simp [isMiss, Vi.part, hcut]
  have hcomp : ev GG (.comp (.one 3) (.slc (.var 2) .miss (.neg (.int 1))) .miss (.idx (.var 3) (.int 0))) [.val f.D, .val a.D, .val (rD R), os (z' 0)] = some (.ok .fresh [] (lD .int (R.dropLast.map fun c => c.v.getD 0 0))) := by
    refine ev_comp_m (k := .plain) (x := rD R.dropLast) Num.D PyData.int (fun c => c.v.getD 0 0) R.dropLast hsl rfl ?_ ?_ (fun c _ => ?_) (by rw [List.length_dropLast, hR, hpl, hll]; omega)
    · cases z' 0 <;> rfl
    · cases z' 0 <;> rfl
    · have g0 := get0_num c
      simp only [List.getD_eq_getElem?_getD] at g0
      cases z' 0 <;> simp [compF, isMiss, bindT, Tg.wipe, compE, g0]
  have hls : lsV a = R.dropLast.map fun c => c.v.getD 0 0 := by rw [hR]; rfl
  rw [hls]
  rw [← hR] at hl
  generalize (R.dropLast.map fun c => c.v.getD 0 0) = out at hcomp
  have hl1 : forL (.one 3) (ex GG b_least_row_0) ((alR a).map Num.D) [.val f.D, .val a.D, .val (.tuple [(1 : Num f).D]), .un] = some (.nx [.val f.D, .val a.D, .val (rD R), os (z' 0)]) := hl
  generalize (alR a).map Num.D = L at h hl1
  have hi : items (.list L) = some L := rfl
  simp [b_least_row, hfn, h, e1, put_plain, hi, hl1, hcomp, sizeLine_eq]
end
end Vi

set_option maxRecDepth 100000
set_option maxHeartbeats 4000000
namespace Vi
open PySem PySem.Spec PyProof.Rows L2 Lean.Grind
/-- one figure of a product -/
def cvF {f : Fld} (R S : List (Num f)) (p : Nat) (s : Num f) (k : Nat) : Num f := if inW p k S.length then s + R.getD k 0 * S.getD (p - k) 0 else s
theorem cv_fold {f : Fld} (R S : List (Num f)) (p : Nat) : ∀ n, (List.range n).foldl (cvF R S p) 0 = sm n fun k => if k ≤ p then R.getD k 0 * S.getD (p - k) 0 else 0
  | 0 => rfl
  | n + 1 => by
    rw [List.range_succ, List.foldl_append, cv_fold R S p n]
    show cvF R S p _ n = sm n _ + _
    unfold cvF inW
    by_cases h : n ≤ p
    · by_cases h2 : p - n < S.length
      · simp [h, h2]
      · have h3 := getD_len S (p - n) (by omega)
        rw [h3]
        simp only [h, h2, decide_true, decide_false, Bool.and_false, if_true]
        simp
        grind
    · simp [h]
      grind
theorem cv_eq {f : Fld} (R S : List (Num f)) (p : Nat) : (List.range R.length).foldl (cvF R S p) 0 = (ps R * ps S).co p := by
  rw [cv_fold, PS.mul_co]
  have e2 : sm (p + 1) (fun k => (ps R).co k * (ps S).co (p - k)) = sm (p + 1) fun k => if k ≤ p then R.getD k 0 * S.getD (p - k) 0 else 0 := sm_congr _ fun k hk => by rw [if_pos (by omega)]; rfl
  rw [e2]
  have a1 := sm_more (fun k => if k ≤ p then R.getD k 0 * S.getD (p - k) 0 else 0) R.length (p + 1) (fun i hi => by
    show (if i ≤ p then R.getD i 0 * S.getD (p - i) 0 else 0) = 0
    rw [getD_len R i hi]; split <;> grind)
  have a2 := sm_more (fun k => if k ≤ p then R.getD k 0 * S.getD (p - k) 0 else 0) (p + 1) R.length (fun i hi => by
    show (if i ≤ p then R.getD i 0 * S.getD (p - i) 0 else 0) = 0
    rw [if_neg (by omega)])
  rw [← a1, ← a2, Nat.add_comm]
section
variable (g : G) {f : Fld}
@[simp] theorem L_multiplied_s (R S : List (Num f)) (hR : R.length ≤ 1000) (hS : S.length ≤ 1000) : F_L_multiplied g [f.D, rD R, rD S] = some (.ret (rD (mulR R S))) := by
  unfold F_L_multiplied
  generalize hG : G.with g (c_L_multiplied g) = GG
  have hfn : GG.fns = c_L_multiplied g := by rw [← hG]; rfl
  have hfu : GG.fuel = g.fuel := by rw [← hG]; rfl
  have hco : GG.consts = g.consts := by rw [← hG]; rfl
  have his : GG.isx = g.isx := by rw [← hG]; rfl
  have hxm : GG.exm = g.exm := by rw [← hG]; rfl
  unfold c_L_multiplied at hfn
  clear hG
  rw [runF3]
  obtain ⟨N, hN⟩ : ∃ N, N = R.length + S.length - 1 := ⟨_, rfl⟩
  have inner : ∀ (p : Nat) (acc : List (Num f)) (z : Sc), ∃ z' : Sc, forL (.one 6) (ex GG b_L_multiplied_0) ((List.range R.length).map fun (k : Nat) => PyData.int k) [.val f.D, .val (rD R), .val (rD S), .own (acc.map Num.D), .val (.int p), .val (0 : Num f).D, os (z 0)] =
      some (.nx [.val f.D, .val (rD R), .val (rD S), .own (acc.map Num.D), .val (.int p), .val ((ps R * ps S).co p).D, os (z' 0)]) := fun p acc z => by
    obtain ⟨z', h, _⟩ := forL_fold (tg := .one 6) (body := ex GG b_L_multiplied_0) (fun (k : Nat) => PyData.int k) (fun (s : Num f) z => [.val f.D, .val (rD R), .val (rD S), .own (acc.map Num.D), .val (.int p), .val s.D, os (z 0)])
      (cvF R S p) (fun _ => True) (List.range R.length) (fun s k z hk _ => by
        have hk := List.mem_range.mp hk
        have g1 : getAt (rD R) (k : Int) = some (R.getD k 0).D := by rw [getT_tD]; simp [hk]
        refine ⟨_, z.up 0 (.int k), rfl, ?_, trivial⟩
        unfold cvF inW
        by_cases h1 : k ≤ p
        · have e1 : (p : Int) - (k : Int) = ((p - k : Nat) : Int) := by omega
          by_cases h2 : p - k < S.length
          · have g2 : getAt (rD S) ((p - k : Nat) : Int) = some (S.getD (p - k) 0).D := by rw [getT_tD]; simp [h2]
            generalize R.getD k 0 = x at g1
            generalize S.getD (p - k) 0 = y at g2
            simp [b_L_multiplied_0, hfn, e1, h1, h2, g1, g2]
          · simp [b_L_multiplied_0, e1, h1, h2]
        · have e2 : ¬ (0 : Int) ≤ (p : Int) - (k : Int) := by omega
          simp [b_L_multiplied_0, e2, h1]) 0 z trivial
    rw [cv_eq] at h
    exact ⟨z', h⟩
  obtain ⟨z', h, _⟩ := forL_foldi (tg := .one 4) (body := ex GG b_L_multiplied_1) (fun (k : Nat) => PyData.int k) (fun (s : List (Num f)) z => [.val f.D, .val (rD R), .val (rD S), .own (s.map Num.D), os (z 2), os (z 1), os (z 0)])
    (fun s p => s ++ [(ps R * ps S).co p]) (fun i s => s.length = i) (List.range N) 0 (fun i s z hi hs => by
      have hi : i < N := by simpa using hi
      rw [List.getElem_range]
      obtain ⟨z1, e1⟩ := inner i s z
      have hlt : s.length < sizeLine := Nat.lt_of_le_of_lt (by omega : s.length ≤ 10000) (by decide)
      refine ⟨[.val f.D, .val (rD R), .val (rD S), .own (s.map Num.D), .val (.int i), os (z 1), os (z 0)], fun j => if j = 2 then some (.int i) else if j = 1 then some ((ps R * ps S).co i).D else z1 0, rfl, ?_, by simp; omega⟩
      have hr : ev GG (.range1 (.bf .len (.var 1))) [.val f.D, .val (rD R), .val (rD S), .own (s.map Num.D), .val (.int i), .val (0 : Num f).D, os (z 0)] = some (.ok .plain [] (lD (fun (k : Nat) => PyData.int k) (List.range R.length))) := by
        rw [ev_range1 (k := .plain) (p := []) (n := R.length) (by simp) (by omega), rangeD_map]; rfl
      generalize (ps R * ps S).co i = w at e1
      simp [b_L_multiplied_1, hfn, hr, e1, hlt]) [] Sc.no rfl
  rw [foldl_map, List.nil_append] at h
  have hr : ev GG (.range1 (.bin .sub (.bin .add (.bf .len (.var 1)) (.bf .len (.var 2))) (.int 1))) [.val f.D, .val (rD R), .val (rD S), .own [], .un, .un, .un] = some (.ok .plain [] (lD (fun (k : Nat) => PyData.int k) (List.range N))) := by
    have hr1 : rng1 (.int ((R.length : Int) + (S.length : Int) - 1)) = some (.ok .plain [] (lD (fun (k : Nat) => PyData.int k) (List.range N))) := by
      show (if small ((R.length : Int) + (S.length : Int) - 1) then some (Rs.ok .plain [] (.list (rangeD 0 ((R.length : Int) + (S.length : Int) - 1).toNat))) else none) = _
      have hs : small ((R.length : Int) + (S.length : Int) - 1) = true := Nat.ble_eq_true_of_le (by omega)
      rw [if_pos hs, show ((R.length : Int) + (S.length : Int) - 1).toNat = N by omega, rangeD_map]
      rfl
    simp [hr1]
  by_cases hR0 : R = []
  · subst hR0
    have e : mulR [] S = [] := if_pos (.inl rfl)
    rw [e]
    generalize (List.range N).map (fun x => (ps ([] : List (Num f)) * ps S).co x) = L at h
    try simp at h
    simp [b_L_multiplied, hr, h, sizeLine_eq]
    rfl
  · by_cases hS0 : S = []
    · subst hS0
      have e : mulR R [] = [] := if_pos (.inr rfl)
      rw [e]
      generalize (List.range N).map (fun x => (ps R * ps ([] : List (Num f))).co x) = L at h
      try simp at h
      simp [b_L_multiplied, hr, h, sizeLine_eq, hR0]
      rfl
    · have e : mulR R S = (List.range N).map fun p => (ps R * ps S).co p := by
        have hl := mulR_len R S hR0 hS0
        refine List.ext_getElem (by rw [hl, hN]; simp) fun i h1 h2 => ?_
        have : (mulR R S)[i] = (ps (mulR R S)).co i := by rw [ps_co]; simp [h1]
        rw [this, ps_mulR]
        simp
      rw [← e] at h
      generalize mulR R S = L at h
      try simp at h
      simp [b_L_multiplied, hr, h, sizeLine_eq, hR0, hS0]
end
end Vi

set_option maxRecDepth 100000
set_option maxHeartbeats 0
namespace Vi
open PySem PySem.Spec PyProof.Rows L2
def b_L_sum_0 : S := (.cons (.set 5 (.call 0 (.cons (.var 0) .nil))) (.cons (.ite (.cmp .lt (.var 4) (.bf .len (.var 1))) (.cons (.set 5 (.call 1 (.cons (.var 0) (.cons (.var 5) (.cons (.idx (.var 1) (.var 4)) .nil))))) .nil) .nil) (.cons (.ite (.cmp .lt (.var 4) (.bf .len (.var 2))) (.cons (.set 5 (.call 1 (.cons (.var 0) (.cons (.var 5) (.cons (.idx (.var 2) (.var 4)) .nil))))) .nil) .nil) (.cons (.app 3 (.var 5)) .nil))))
def b_L_sum_1 : S := (.cons (.pop 3) .nil)
def b_L_sum : S := (.cons (.set 3 (.lst .nil)) (.cons (.for_ (.one 4) (.range1 (.max2 (.bf .len (.var 1)) (.bf .len (.var 2)))) b_L_sum_0) (.cons (.whl (.land (.cmp .ne (.var 3) (.lst .nil)) (.one (.cmp .eq (.idx (.var 3) (.neg (.int 1))) (.call 0 (.cons (.var 0) .nil))))) b_L_sum_1) (.cons (.ret (.bf .tuple (.var 3))) .nil))))
noncomputable def c_L_sum (g : G) : List (Str × Fn) := [("_law_nought", F_L_nought g), ("_law_plus", F_L_plus g)]
noncomputable def F_L_sum (g : G) : Fn := runF (g.with (c_L_sum g)) 3 6 b_L_sum
def b_law_0 : S := (.cons (.par 6 7 (.var 7) (.idx (.call 8 (.cons (.var 1) (.cons (.var 6) (.cons (.var 7) .nil)))) (.int 1))) .nil)
def b_law_1 : S := (.cons (.ite (.cmp .ne (.idx (.call 8 (.cons (.var 1) (.cons (.var 9) (.cons (.var 8) .nil)))) (.int 1)) (.tup .nil)) (.cons (.ret (.bl false)) .nil) .nil) .nil)
def b_law : S := (.cons (.set 1 (.call 0 (.cons (.var 0) (.cons (.int 5) .nil)))) (.cons (.set 2 (.call 1 (.cons (.var 1) (.cons (.var 0) (.cons (.int 0) .nil))))) (.cons (.set 3 (.call 1 (.cons (.var 1) (.cons (.var 0) (.cons (.int 2) .nil))))) (.cons (.set 4 (.call 3 (.cons (.var 1) (.cons (.call 2 (.cons (.var 0) (.cons (.int 4) .nil))) .nil)))) (.cons (.ite (.cmp .ne (.call 4 (.cons (.var 1) (.cons (.var 2) (.cons (.var 4) .nil)))) (.call 5 (.cons (.var 1) (.cons (.var 2) (.cons (.var 4) .nil))))) (.cons (.ret (.bl false)) .nil) .nil) (.cons (.ite (.cmp .ne (.call 6 (.cons (.var 1) (.cons (.var 2) (.cons (.var 3) .nil)))) (.call 7 (.cons (.var 1) (.cons (.var 2) (.cons (.var 3) .nil))))) (.cons (.ret (.bl false)) .nil) .nil) (.cons (.ite (.cmp .ne (.var 3) (.tup .nil)) (.cons (.set 5 (.call 8 (.cons (.var 1) (.cons (.var 2) (.cons (.var 3) .nil))))) (.cons (.ite (.cmp .ge (.bf .len (.idx (.var 5) (.int 1))) (.bf .len (.var 3))) (.cons (.ret (.bl false)) .nil) .nil) (.cons (.ite (.cmp .ne (.call 9 (.cons (.var 1) (.cons (.call 7 (.cons (.var 1) (.cons (.idx (.var 5) (.int 0)) (.cons (.var 3) .nil)))) (.cons (.idx (.var 5) (.int 1)) .nil)))) (.var 2)) (.cons (.ret (.bl false)) .nil) .nil) .nil))) .nil) (.cons (.set 6 (.var 2)) (.cons (.set 7 (.var 3)) (.cons (.whl (.cmp .ne (.var 7) (.tup .nil)) b_law_0) (.cons (.set 8 (.call 10 (.cons (.var 1) (.cons (.var 2) (.cons (.var 3) .nil))))) (.cons (.ite (.cmp .eq (.var 6) (.tup .nil)) (.cons (.ret (.cmp .eq (.var 8) (.tup .nil))) .nil) .nil) (.cons (.ite (.lor (.cmp .eq (.var 8) (.tup .nil)) (.lor (.cmp .ne (.idx (.var 8) (.neg (.int 1))) (.call 11 (.cons (.var 1) .nil))) (.one (.cmp .ne (.bf .len (.var 8)) (.bf .len (.var 6)))))) (.cons (.ret (.bl false)) .nil) .nil) (.cons (.for_ (.one 9) (.tup (.cons (.var 2) (.cons (.var 3) (.cons (.var 6) .nil)))) b_law_1) (.cons (.ret (.cmp .eq (.call 10 (.cons (.var 1) (.cons (.var 3) (.cons (.var 2) .nil)))) (.var 8))) .nil)))))))))))))))
noncomputable def c_law (g : G) : List (Str × Fn) := [("_law_field", F_L_field g), ("_law_row", F_L_row g), ("_law_cell", F_L_cell g), ("_law_number", F_L_number g), ("value", F_value g), ("_law_at", F_L_at g), ("multiplied", F_multiplied g), ("_law_multiplied", F_L_multiplied g), ("divided_by", F_divided_by g), ("_law_sum", F_L_sum g), ("common_row", F_common_row g), ("_law_one", F_L_one g)]
noncomputable def F_law (g : G) : Fn := runF (g.with (c_law g)) 1 10 b_law
def g0 : G where
  fns := []
  consts := [("MOST_FIGURES", .int 8), ("MOST_NUMBERS", .int 256), ("MOST_ROW", .int 9), ("PRIMES", .tuple [.int 2, .int 3, .int 5, .int 7])]
  isx := []
  exm := []
  rai := ["BadField", "BadNumber", "BadRow", "Zero"]
  fuel := 4194304
section
open Lean.Grind
-- uses U4
def sumL {f : Fld} (R S : List (Num f)) : List (Num f) := (List.range (max R.length S.length)).map fun k => if k < S.length then (if k < R.length then 0 + R.getD k 0 else 0) + S.getD k 0 else (if k < R.length then 0 + R.getD k 0 else 0)
theorem ps_sumL {f : Fld} (R S : List (Num f)) : ps (sumL R S) = ps R + ps S := PS.ext fun n => by
  rw [PS.add_co, ps_co, ps_co, ps_co]
  unfold sumL
  by_cases h : n < max R.length S.length
  · simp only [List.getD_eq_getElem?_getD, List.getElem?_map, List.getElem?_range h, Option.map_some, Option.getD_some]
    by_cases h1 : n < R.length
    · by_cases h2 : n < S.length
      · simp [h1, h2] <;> grind
      · simp [h1, h2] <;> grind
    · by_cases h2 : n < S.length
      · simp [h1, h2] <;> grind
      · omega
  · rw [getD_len R n (by omega), getD_len S n (by omega)]
    have : (List.range (max R.length S.length))[n]? = none := List.getElem?_eq_none (by simp; omega)
    simp only [List.getD_eq_getElem?_getD, List.getElem?_map, this]
    show (0 : Num f) = 0 + 0
    grind
theorem L_sum_s (g : G) (hg : 1000000 ≤ g.fuel) {f : Fld} (R S : List (Num f)) (hR : R.length ≤ 1000) (hS : S.length ≤ 1000) : F_L_sum g [f.D, rD R, rD S] = some (.ret (rD (cutR (sumL R S)))) := by
  unfold F_L_sum
  generalize hG : G.with g (c_L_sum g) = GG
  have hfn : GG.fns = c_L_sum g := by rw [← hG]; rfl
  have hfu : GG.fuel = g.fuel := by rw [← hG]; rfl
  have hco : GG.consts = g.consts := by rw [← hG]; rfl
  have his : GG.isx = g.isx := by rw [← hG]; rfl
  have hxm : GG.exm = g.exm := by rw [← hG]; rfl
  unfold c_L_sum at hfn
  clear hG
  rw [runF3]
  obtain ⟨N, hN⟩ : ∃ N, N = max R.length S.length := ⟨_, rfl⟩
  obtain ⟨w, hw⟩ : ∃ w : Nat → Num f, w = fun k => if k < S.length then (if k < R.length then 0 + R.getD k 0 else 0) + S.getD k 0 else (if k < R.length then 0 + R.getD k 0 else 0) := ⟨_, rfl⟩
  have hsl : sumL R S = (List.range N).map w := by rw [hN, hw]; rfl
  obtain ⟨z', h, _⟩ := forL_foldi (tg := .one 4) (body := ex GG b_L_sum_0) (fun (k : Nat) => PyData.int k) (fun (s : List (Num f)) z => [.val f.D, .val (rD R), .val (rD S), .own (s.map Num.D), os (z 0), os (z 1)])
    (fun s k => s ++ [w k]) (fun i s => s.length = i) (List.range N) 0 (fun i s z hi hs => by
      have hi : i < N := by simpa using hi
      rw [List.getElem_range]
      have hlt : s.length < sizeLine := Nat.lt_of_le_of_lt (by omega : s.length ≤ 10000) (by decide)
      refine ⟨_, (z.up 0 (.int i)).up 1 (w i).D, rfl, ?_, by simp; omega⟩
      by_cases h1 : i < R.length
      · have g1 : getAt (rD R) (i : Int) = some (R.getD i 0).D := by rw [getT_tD]; simp [h1]
        by_cases h2 : i < S.length
        · have g2 : getAt (rD S) (i : Int) = some (S.getD i 0).D := by rw [getT_tD]; simp [h2]
          have e : w i = 0 + R.getD i 0 + S.getD i 0 := by rw [hw]; simp [h1, h2]
          rw [e]
          generalize R.getD i 0 = x at g1
          generalize S.getD i 0 = y at g2
          simp [b_L_sum_0, hfn, h1, h2, g1, g2, hlt, Sc.up]
        · have e : w i = 0 + R.getD i 0 := by rw [hw]; simp [h1, h2]
          rw [e]
          generalize R.getD i 0 = x at g1
          simp [b_L_sum_0, hfn, h1, h2, g1, hlt, Sc.up]
      · by_cases h2 : i < S.length
        · have g2 : getAt (rD S) (i : Int) = some (S.getD i 0).D := by rw [getT_tD]; simp [h2]
          have e : w i = 0 + S.getD i 0 := by rw [hw]; simp [h1, h2]
          rw [e]
          generalize S.getD i 0 = y at g2
          simp [b_L_sum_0, hfn, h1, h2, g2, hlt, Sc.up]
        · omega) [] Sc.no rfl
  rw [foldl_map, List.nil_append, ← hsl] at h
  have hr : ev GG (.range1 (.max2 (.bf .len (.var 1)) (.bf .len (.var 2)))) [.val f.D, .val (rD R), .val (rD S), .own [], .un, .un] = some (.ok .plain [] (lD (fun (k : Nat) => PyData.int k) (List.range N))) := by
    have e : (if R.length < S.length then (S.length : Int) else R.length) = (N : Int) := by split <;> omega
    rw [ev_range1 (k := .plain) (p := []) (n := N) (by simp [e]) (by omega), rangeD_map]; rfl
  have hlen : (sumL R S).length ≤ 1000 := by rw [hsl]; simp; omega
  obtain ⟨z2, h2, _⟩ := whileL_run (c := ev GG (.land (.cmp .ne (.var 3) (.lst .nil)) (.one (.cmp .eq (.idx (.var 3) (.neg (.int 1))) (.call 0 (.cons (.var 0) .nil)))))) (body := ex GG b_L_sum_1)
    (fun (s : List (Num f)) z => [.val f.D, .val (rD R), .val (rD S), .own (s.map Num.D), os (z 0), os (z 1)]) cutC List.dropLast (fun _ => True)
    (fun s z _ => by
      cases hsl : s.getLast? with
      | none =>
        have := List.getLast?_eq_none_iff.mp hsl
        subst this
        exact ⟨.plain, [], .bool false, by simp [hfn, sizeLine_eq]; rfl, rfl⟩
      | some c =>
        have : s ≠ [] := fun e => by rw [e] at hsl; simp at hsl
        exact ⟨.plain, [], .bool (decide (c = 0)), by simp [hfn, hsl, this, sizeLine_eq], by simp [cutC, hsl]⟩)
    (fun s z _ hC => by
      refine ⟨z, ?_, trivial⟩
      have hsn : s ≠ [] := fun e => by rw [e] at hC; simp [cutC] at hC
      simp [b_L_sum_1, hsn, List.map_dropLast])
    (sumL R S).length GG.fuel (sumL R S) z' trivial (by rw [hfu]; omega) (by rw [cutR_it]; exact cutC_cut _)
  rw [cutR_it] at h2
  generalize sumL R S = L at h h2
  try simp at h
  try simp at h2
  simp [b_L_sum, hfn, hr, h, h2, sizeLine_eq]
theorem law_gen (g : G) [GOk g] [GRow g] {ns : List Int} (hs : Script ns) : F_law g [sD ns] = some (.ret (.bool true)) := by
  have hg := GOk.fuel (g := g)
  obtain ⟨f, hf, e0⟩ := fld_i g hs 5 5 rfl
  obtain ⟨R, hR1, hR2, e1⟩ := row_i g hs f 0 0 rfl
  obtain ⟨S, hS1, hS2, e2⟩ := row_i g hs f 2 2 rfl
  obtain ⟨c4, x, e3, e3'⟩ := num_i g hs f 4 4 rfl
  generalize sD ns = sd at e0 e1 e2 e3
  have hR : okRow R := ⟨by omega, hR2⟩
  have hS : okRow S := ⟨by omega, hS2⟩
  have v1 := value_s g R hR x
  have p1 := multiplied_s g R S hR hS
  have p2 := L_multiplied_s g R S (by omega) (by omega)
  have q1 := common_row_s g R S hR hS
  have q2 := common_row_s g S R hS hR
  have q3 := com_comm hR2 hS2
  rw [← q3] at q2
  obtain ⟨u1, u2, u3, u4, u5, u6⟩ := eu_all hR2 hS2
  unfold F_law
  generalize hG : G.with g (c_law g) = GG
  have hfn : GG.fns = c_law g := by rw [← hG]; rfl
  have hfu : GG.fuel = g.fuel := by rw [← hG]; rfl
  have hco : GG.consts = g.consts := by rw [← hG]; rfl
  have his : GG.isx = g.isx := by rw [← hG]; rfl
  have hxm : GG.exm = g.exm := by rw [← hG]; rfl
  unfold c_law at hfn
  clear hG
  rw [runF1]
  have loop : ∀ o5 : Option D, ∃ z' : Sc, whileL (ev GG (.cmp .ne (.var 7) (.tup .nil))) (ex GG b_law_0) GG.fuel [.val sd, .val f.D, .val (rD R), .val (rD S), .val x.D, os o5, .val (rD R), .val (rD S), .un, .un] =
      some (.nx [.val sd, .val f.D, .val (rD R), .val (rD S), .val x.D, os o5, .val (rD (euR R S)), .val (rD []), .un, .un]) := fun o5 => by
    obtain ⟨z', h, _⟩ := whileL_run (c := ev GG (.cmp .ne (.var 7) (.tup .nil))) (body := ex GG b_law_0)
      (fun (y : List (Num f) × List (Num f)) z => [.val sd, .val f.D, .val (rD R), .val (rD S), .val x.D, os o5, .val (rD y.1), .val (rD y.2), .un, .un]) comC comF (fun y => nf y.1 ∧ nf y.2 ∧ y.1.length ≤ 9 ∧ y.2.length ≤ 9)
      (fun y z _ => ⟨.plain, [], .bool (comC y), by
        have : comC y = !decide (y.2 = []) := by
          unfold comC
          cases y.2 <;> simp
        rw [this]
        simp [sizeLine_eq], rfl⟩)
      (fun y z ⟨h1, h2, h3, h4⟩ hC => by
        have h0 : y.2 ≠ [] := fun e => by unfold comC at hC; rw [e] at hC; simp at hC
        have hd := divided_by_s g y.1 y.2 ⟨h3, h1⟩ ⟨h4, h2⟩ h0
        obtain ⟨d1, d2, d3, d4⟩ := divR_ok h1 h2 h0
        exact ⟨z, by simp [b_law_0, hfn, hd, comF], h2, d4, h4, by show (divR y.1 y.2).2.length ≤ 9; omega⟩)
      (S.length + 1) GG.fuel (R, S) Sc.no ⟨hR2, hS2, by show R.length ≤ 9; omega, by show S.length ≤ 9; omega⟩ (by rw [hfu]; omega) (com_nf _ _ hR2 hS2 (by simp))
    have hend := com_nf (S.length + 1) (R, S) hR2 hS2 (by simp)
    have hcm : ∀ y : List (Num f) × List (Num f), comC y = false → y.2 = [] := fun y h => by
      unfold comC at h
      simpa using h
    have he : (itW comC comF (S.length + 1) (R, S)).2 = [] := hcm _ hend
    refine ⟨z', ?_⟩
    have e : (itW comC comF (S.length + 1) (R, S)).1 = euR R S := rfl
    rw [he, e] at h
    exact h
  have hit : ∀ l : List D, items (.tuple l) = some l := fun l => rfl
  by_cases h : euR R S = []
  · obtain ⟨hr0, hs0⟩ := eu_nil hR2 hS2 h
    have hc : comR R S = [] := by
      have : comR R S = monR (euR R S) := rfl
      rw [this, h]; rfl
    rw [hc] at q1 q2
    obtain ⟨z', hl⟩ := loop none
    rw [h] at hl
    simp only [os_none] at hl
    subst hr0; subst hs0
    simp [b_law, hfn, e0, e1, e2, e3, e3', v1, p1, p2, sizeLine_eq, hl, q1]
  · obtain ⟨m1, m2, m3, m4, m5, m6, _, m8⟩ := com_all hR2 hS2 h
    have r1 := rest_nil hR2 m1 m2 m4
    have r2 := rest_nil hS2 m1 m2 m5
    have r3 := rest_nil u1 m1 m2 m6
    have hcl : okRow (comR R S) := ⟨by omega, m1⟩
    have hel : okRow (euR R S) := ⟨by omega, u1⟩
    have d1 := divided_by_s g R (comR R S) hR hcl m2
    have d2 := divided_by_s g S (comR R S) hS hcl m2
    have d3 := divided_by_s g (euR R S) (comR R S) hel hcl m2
    rw [r1] at d1
    rw [r2] at d2
    rw [r3] at d3
    have hlast := lastR_some m2
    rw [m3] at hlast
    by_cases hS0 : S = []
    · obtain ⟨z', hl⟩ := loop none
      simp only [os_none] at hl
      subst hS0
      simp [b_law, hfn, e0, e1, e2, e3, e3', v1, p1, p2, sizeLine_eq, hl, q1, q2, d1, d2, d3, h, m2, m8, hlast, hit, forL, bindT, b_law_1]
    · have d4 := divided_by_s g R S hR hS hS0
      obtain ⟨w1, w2, w3, w4⟩ := divR_ok hR2 hS2 hS0
      have hQl := divR_len hR2 hS2 hS0
      have hml := mulR_le (divR R S).1 S
      have p3 := L_multiplied_s g (divR R S).1 S (by omega) (by omega)
      have s1 := L_sum_s g hg (mulR (divR R S).1 S) (divR R S).2 (by omega) (by omega)
      have hsum : cutR (sumL (mulR (divR R S).1 S) (divR R S).2) = R := nf_ext (cut_nf _) hR2 (by rw [ps_cut, ps_sumL, ps_mulR, w1])
      rw [hsum] at s1
      have w2' : ¬ S.length ≤ (divR R S).2.length := by omega
      obtain ⟨z', hl⟩ := loop (some (.tuple [rD (divR R S).1, rD (divR R S).2]))
      simp only [os_some] at hl
      simp [b_law, hfn, e0, e1, e2, e3, e3', v1, p1, p2, p3, s1, d4, w2', hS0, put_plain, sizeLine_eq, hl, q1, q2, d1, d2, d3, h, m2, m8, hlast, hit, forL, bindT, b_law_1]
theorem law_plain (ns : List Int) (h : ns.length ≤ 63) (hb : ∀ z ∈ ns, Builtin.Int.intBits z ≤ 1048576) : F_law g0 [.list (ns.map .int)] = some (.ret (.bool true)) := by
  haveI : GFig g0 := ⟨rfl, rfl, rfl⟩
  haveI : GRow g0 := ⟨rfl⟩
  haveI : GOk g0 := GOk.of g0 (by decide)
  exact law_gen g0 ⟨h, hb⟩

end
def top (i : Nat) : Stmt := PySem.Challenge.pw_fieldsteps_k09_rows.main.body.getD i (.Pass ⟨0, 0, 0, 0⟩)
abbrev t_L_cell : Stmt := top 50
def d_L_cell : He.DefD := ⟨("_law_cell", none), "_law_cell", "_law_cell", defArgs t_L_cell, defBody t_L_cell, defScope t_L_cell, [], []⟩
abbrev n_L_cell : List Str := ["_law_script", "_law_k"]
noncomputable def cc_L_cell : List (Str × Fn) := []
theorem m_L_cell : mS (g0.with cc_L_cell) n_L_cell true b_L_cell (defScope t_L_cell) (.bl (defBody t_L_cell)) = true := by decide +kernel
abbrev t_L_mix : Stmt := top 51
def d_L_mix : He.DefD := ⟨("_law_mix", none), "_law_mix", "_law_mix", defArgs t_L_mix, defBody t_L_mix, defScope t_L_mix, [], []⟩
abbrev n_L_mix : List Str := ["_law_cell_here", "_law_prime", "_law_many"]
noncomputable def cc_L_mix : List (Str × Fn) := []
theorem m_L_mix : mS (g0.with cc_L_mix) n_L_mix true b_L_mix (defScope t_L_mix) (.bl (defBody t_L_mix)) = true := by decide +kernel
abbrev t_L_rows : Stmt := top 52
def d_L_rows : He.DefD := ⟨("_law_rows", none), "_law_rows", "_law_rows", defArgs t_L_rows, defBody t_L_rows, defScope t_L_rows, [], []⟩
abbrev n_L_rows : List Str := ["_law_prime", "_law_many", "_law_found", "_law_place", "_law_more", "_law_row_here", "_law_figure"]
noncomputable def cc_L_rows : List (Str × Fn) := []
theorem m_L_rows : mS (g0.with cc_L_rows) n_L_rows true b_L_rows (defScope t_L_rows) (.bl (defBody t_L_rows)) = true := by decide +kernel
abbrev t_L_product : Stmt := top 53
def d_L_product : He.DefD := ⟨("_law_product", none), "_law_product", "_law_product", defArgs t_L_product, defBody t_L_product, defScope t_L_product, [], []⟩
abbrev n_L_product : List Str := ["_law_prime", "_law_one_here", "_law_other", "_law_left", "_law_right", "_law_found", "_law_place", "_law_k"]
noncomputable def cc_L_product : List (Str × Fn) := []
theorem m_L_product : mS (g0.with cc_L_product) n_L_product true b_L_product (defScope t_L_product) (.bl (defBody t_L_product)) = true := by decide +kernel
abbrev t_L_is_rule : Stmt := top 54
def d_L_is_rule : He.DefD := ⟨("_law_is_rule", none), "_law_is_rule", "_law_is_rule", defArgs t_L_is_rule, defBody t_L_is_rule, defScope t_L_is_rule, [], []⟩
abbrev n_L_is_rule : List Str := ["_law_prime", "_law_rule", "_law_many", "_law_one_here", "_law_other"]
noncomputable def cc_L_is_rule : List (Str × Fn) := [("_law_rows", F_L_rows g0), ("_law_product", F_L_product g0)]
theorem m_L_is_rule : mS (g0.with cc_L_is_rule) n_L_is_rule true b_L_is_rule (defScope t_L_is_rule) (.bl (defBody t_L_is_rule)) = true := by decide +kernel
abbrev t_L_field : Stmt := top 55
def d_L_field : He.DefD := ⟨("_law_field", none), "_law_field", "_law_field", defArgs t_L_field, defBody t_L_field, defScope t_L_field, [], []⟩
abbrev n_L_field : List Str := ["_law_script", "_law_at_here", "_law_cell_here", "_law_some", "_law_many", "_law_prime", "_law_figures", "_law_rows_here", "_law_begin", "_law_row_here"]
noncomputable def cc_L_field : List (Str × Fn) := [("_law_cell", F_L_cell g0), ("_law_mix", F_L_mix g0), ("_law_rows", F_L_rows g0), ("_law_is_rule", F_L_is_rule g0)]
theorem m_L_field : mS (g0.with cc_L_field) n_L_field true b_L_field (defScope t_L_field) (.bl (defBody t_L_field)) = true := by decide +kernel
abbrev t_L_number : Stmt := top 56
def d_L_number : He.DefD := ⟨("_law_number", none), "_law_number", "_law_number", defArgs t_L_number, defBody t_L_number, defScope t_L_number, [], []⟩
abbrev n_L_number : List Str := ["_law_field_here", "_law_cell_here", "_law_k"]
noncomputable def cc_L_number : List (Str × Fn) := [("_law_mix", F_L_mix g0)]
theorem m_L_number : mS (g0.with cc_L_number) n_L_number true b_L_number (defScope t_L_number) (.bl (defBody t_L_number)) = true := by decide +kernel
abbrev t_L_nought : Stmt := top 61
def d_L_nought : He.DefD := ⟨("_law_nought", none), "_law_nought", "_law_nought", defArgs t_L_nought, defBody t_L_nought, defScope t_L_nought, [], []⟩
abbrev n_L_nought : List Str := ["_law_field_here"]
noncomputable def cc_L_nought : List (Str × Fn) := []
theorem m_L_nought : mS (g0.with cc_L_nought) n_L_nought true b_L_nought (defScope t_L_nought) (.bl (defBody t_L_nought)) = true := by decide +kernel
abbrev t_L_row : Stmt := top 63
def d_L_row : He.DefD := ⟨("_law_row", none), "_law_row", "_law_row", defArgs t_L_row, defBody t_L_row, defScope t_L_row, [], []⟩
abbrev n_L_row : List Str := ["_law_field_here", "_law_script", "_law_at_here", "_law_found", "_law_k"]
noncomputable def cc_L_row : List (Str × Fn) := [("_law_cell", F_L_cell g0), ("_law_mix", F_L_mix g0), ("_law_number", F_L_number g0), ("_law_nought", F_L_nought g0)]
theorem m_L_row : mS (g0.with cc_L_row) n_L_row true b_L_row (defScope t_L_row) (.bl (defBody t_L_row)) = true := by decide +kernel
abbrev t_is_within : Stmt := top 10
def d_is_within : He.DefD := ⟨("is_within", none), "is_within", "is_within", defArgs t_is_within, defBody t_is_within, defScope t_is_within, [], []⟩
abbrev n_is_within : List Str := ["thing", "low", "high"]
noncomputable def cc_is_within : List (Str × Fn) := []
theorem m_is_within : mS (g0.with cc_is_within) n_is_within true b_is_within (defScope t_is_within) (.bl (defBody t_is_within)) = true := by decide +kernel
abbrev t_is_prime : Stmt := top 11
def d_is_prime : He.DefD := ⟨("is_prime", none), "is_prime", "is_prime", defArgs t_is_prime, defBody t_is_prime, defScope t_is_prime, [], []⟩
abbrev n_is_prime : List Str := ["thing"]
noncomputable def cc_is_prime : List (Str × Fn) := [("is_within", F_is_within g0)]
theorem m_is_prime : mS (g0.with cc_is_prime) n_is_prime true b_is_prime (defScope t_is_prime) (.bl (defBody t_is_prime)) = true := by decide +kernel
abbrev t_are_figures : Stmt := top 12
def d_are_figures : He.DefD := ⟨("are_figures", none), "are_figures", "are_figures", defArgs t_are_figures, defBody t_are_figures, defScope t_are_figures, [], []⟩
abbrev n_are_figures : List Str := ["prime", "thing", "least", "most", "figure"]
noncomputable def cc_are_figures : List (Str × Fn) := [("is_within", F_is_within g0)]
theorem m_are_figures : mS (g0.with cc_are_figures) n_are_figures true b_are_figures (defScope t_are_figures) (.bl (defBody t_are_figures)) = true := by decide +kernel
abbrev t_times_as : Stmt := top 13
def d_times_as : He.DefD := ⟨("times_as", none), "times_as", "times_as", defArgs t_times_as, defBody t_times_as, defScope t_times_as, [], []⟩
abbrev n_times_as : List Str := ["number", "often", "found", "time"]
noncomputable def cc_times_as : List (Str × Fn) := []
theorem m_times_as : mS (g0.with cc_times_as) n_times_as true b_times_as (defScope t_times_as) (.bl (defBody t_times_as)) = true := by decide +kernel
abbrev t_rows_of : Stmt := top 16
def d_rows_of : He.DefD := ⟨("rows_of", none), "rows_of", "rows_of", defArgs t_rows_of, defBody t_rows_of, defScope t_rows_of, [], []⟩
abbrev n_rows_of : List Str := ["prime", "many", "found", "place", "longer", "row", "figure"]
noncomputable def cc_rows_of : List (Str × Fn) := []
theorem m_rows_of : mS (g0.with cc_rows_of) n_rows_of true b_rows_of (defScope t_rows_of) (.bl (defBody t_rows_of)) = true := by decide +kernel
abbrev t_full : Stmt := top 14
def d_full : He.DefD := ⟨("full", none), "full", "full", defArgs t_full, defBody t_full, defScope t_full, [], []⟩
abbrev n_full : List Str := ["rule"]
noncomputable def cc_full : List (Str × Fn) := []
theorem m_full : mS (g0.with cc_full) n_full true b_full (defScope t_full) (.bl (defBody t_full)) = true := by decide +kernel
abbrev t_divided : Stmt := top 15
def d_divided : He.DefD := ⟨("divided", none), "divided", "divided", defArgs t_divided, defBody t_divided, defScope t_divided, [], []⟩
abbrev n_divided : List Str := ["prime", "rule", "other", "left", "part", "found", "at", "lead", "place", "figure"]
noncomputable def cc_divided : List (Str × Fn) := [("full", F_full g0)]
theorem m_divided : mS (g0.with cc_divided) n_divided true b_divided (defScope t_divided) (.bl (defBody t_divided)) = true := by decide +kernel
abbrev t_any_left : Stmt := top 18
def d_any_left : He.DefD := ⟨("any_left", none), "any_left", "any_left", defArgs t_any_left, defBody t_any_left, defScope t_any_left, [], []⟩
abbrev n_any_left : List Str := ["rest", "figure"]
noncomputable def cc_any_left : List (Str × Fn) := []
theorem m_any_left : mS (g0.with cc_any_left) n_any_left true b_any_left (defScope t_any_left) (.bl (defBody t_any_left)) = true := by decide +kernel
abbrev t_first_part : Stmt := top 17
def d_first_part : He.DefD := ⟨("first_part", none), "first_part", "first_part", defArgs t_first_part, defBody t_first_part, defScope t_first_part, [], []⟩
abbrev n_first_part : List Str := ["prime", "rule", "many", "other"]
noncomputable def cc_first_part : List (Str × Fn) := [("rows_of", F_rows_of g0), ("divided", F_divided g0), ("any_left", F_any_left g0)]
theorem m_first_part : mS (g0.with cc_first_part) n_first_part true b_first_part (defScope t_first_part) (.bl (defBody t_first_part)) = true := by decide +kernel
abbrev t_is_whole : Stmt := top 19
def d_is_whole : He.DefD := ⟨("is_whole", none), "is_whole", "is_whole", defArgs t_is_whole, defBody t_is_whole, defScope t_is_whole, [], []⟩
abbrev n_is_whole : List Str := ["prime", "rule"]
noncomputable def cc_is_whole : List (Str × Fn) := [("first_part", F_first_part g0)]
theorem m_is_whole : mS (g0.with cc_is_whole) n_is_whole true b_is_whole (defScope t_is_whole) (.bl (defBody t_is_whole)) = true := by decide +kernel
abbrev t_is_field : Stmt := top 21
def d_is_field : He.DefD := ⟨("is_field", none), "is_field", "is_field", defArgs t_is_field, defBody t_is_field, defScope t_is_field, [], []⟩
abbrev n_is_field : List Str := ["thing"]
noncomputable def cc_is_field : List (Str × Fn) := [("is_prime", F_is_prime g0), ("are_figures", F_are_figures g0), ("times_as", F_times_as g0), ("is_whole", F_is_whole g0)]
theorem m_is_field : mS (g0.with cc_is_field) n_is_field true b_is_field (defScope t_is_field) (.bl (defBody t_is_field)) = true := by decide +kernel
abbrev t_checked : Stmt := top 22
def d_checked : He.DefD := ⟨("checked", none), "checked", "checked", defArgs t_checked, defBody t_checked, defScope t_checked, [], []⟩
abbrev n_checked : List Str := ["field"]
noncomputable def cc_checked : List (Str × Fn) := [("is_field", F_is_field g0)]
theorem m_checked : mS (g0.with cc_checked) n_checked true b_checked (defScope t_checked) (.bl (defBody t_checked)) = true := by decide +kernel
abbrev t_is_number : Stmt := top 24
def d_is_number : He.DefD := ⟨("is_number", none), "is_number", "is_number", defArgs t_is_number, defBody t_is_number, defScope t_is_number, [], []⟩
abbrev n_is_number : List Str := ["field", "thing"]
noncomputable def cc_is_number : List (Str × Fn) := [("are_figures", F_are_figures g0)]
theorem m_is_number : mS (g0.with cc_is_number) n_is_number true b_is_number (defScope t_is_number) (.bl (defBody t_is_number)) = true := by decide +kernel
abbrev t_nought : Stmt := top 26
def d_nought : He.DefD := ⟨("nought", none), "nought", "nought", defArgs t_nought, defBody t_nought, defScope t_nought, [], []⟩
abbrev n_nought : List Str := ["field"]
noncomputable def cc_nought : List (Str × Fn) := []
theorem m_nought : mS (g0.with cc_nought) n_nought true b_nought (defScope t_nought) (.bl (defBody t_nought)) = true := by decide +kernel
abbrev t_is_row : Stmt := top 36
def d_is_row : He.DefD := ⟨("is_row", none), "is_row", "is_row", defArgs t_is_row, defBody t_is_row, defScope t_is_row, [], []⟩
abbrev n_is_row : List Str := ["field", "thing", "one"]
noncomputable def cc_is_row : List (Str × Fn) := [("is_number", F_is_number g0), ("nought", F_nought g0)]
theorem m_is_row : mS (g0.with cc_is_row) n_is_row true b_is_row (defScope t_is_row) (.bl (defBody t_is_row)) = true := by decide +kernel
abbrev t_look_rows : Stmt := top 37
def d_look_rows : He.DefD := ⟨("look_rows", none), "look_rows", "look_rows", defArgs t_look_rows, defBody t_look_rows, defScope t_look_rows, [], []⟩
abbrev n_look_rows : List Str := ["field", "some", "row"]
noncomputable def cc_look_rows : List (Str × Fn) := [("checked", F_checked g0), ("is_row", F_is_row g0)]
theorem m_look_rows : mS (g0.with cc_look_rows) n_look_rows true b_look_rows (defScope t_look_rows) (.bl (defBody t_look_rows)) = true := by decide +kernel
abbrev t_look_numbers : Stmt := top 25
def d_look_numbers : He.DefD := ⟨("look_numbers", none), "look_numbers", "look_numbers", defArgs t_look_numbers, defBody t_look_numbers, defScope t_look_numbers, [], []⟩
abbrev n_look_numbers : List Str := ["field", "some", "one"]
noncomputable def cc_look_numbers : List (Str × Fn) := [("checked", F_checked g0), ("is_number", F_is_number g0)]
theorem m_look_numbers : mS (g0.with cc_look_numbers) n_look_numbers true b_look_numbers (defScope t_look_numbers) (.bl (defBody t_look_numbers)) = true := by decide +kernel
abbrev t_product_of : Stmt := top 31
def d_product_of : He.DefD := ⟨("product_of", none), "product_of", "product_of", defArgs t_product_of, defBody t_product_of, defScope t_product_of, [], []⟩
abbrev n_product_of : List Str := ["field", "one", "other", "prime", "rule", "many", "found", "place", "at", "left", "to", "right", "lead", "figure"]
noncomputable def cc_product_of : List (Str × Fn) := []
theorem m_product_of : mS (g0.with cc_product_of) n_product_of true b_product_of (defScope t_product_of) (.bl (defBody t_product_of)) = true := by decide +kernel
abbrev t_sum_of : Stmt := top 29
def d_sum_of : He.DefD := ⟨("sum_of", none), "sum_of", "sum_of", defArgs t_sum_of, defBody t_sum_of, defScope t_sum_of, [], []⟩
abbrev n_sum_of : List Str := ["field", "one", "other", "left", "right"]
noncomputable def cc_sum_of : List (Str × Fn) := []
theorem m_sum_of : mS (g0.with cc_sum_of) n_sum_of true b_sum_of (defScope t_sum_of) (.bl (defBody t_sum_of)) = true := by decide +kernel
abbrev t_value_of : Stmt := top 39
def d_value_of : He.DefD := ⟨("value_of", none), "value_of", "value_of", defArgs t_value_of, defBody t_value_of, defScope t_value_of, [], []⟩
abbrev n_value_of : List Str := ["field", "row", "number", "found", "one"]
noncomputable def cc_value_of : List (Str × Fn) := [("nought", F_nought g0), ("product_of", F_product_of g0), ("sum_of", F_sum_of g0)]
theorem m_value_of : mS (g0.with cc_value_of) n_value_of true b_value_of (defScope t_value_of) (.bl (defBody t_value_of)) = true := by decide +kernel
abbrev t_value : Stmt := top 45
def d_value : He.DefD := ⟨("value", none), "value", "value", defArgs t_value, defBody t_value, defScope t_value, [], []⟩
abbrev n_value : List Str := ["field", "row", "number"]
noncomputable def cc_value : List (Str × Fn) := [("look_rows", F_look_rows g0), ("look_numbers", F_look_numbers g0), ("value_of", F_value_of g0)]
theorem m_value : mS (g0.with cc_value) n_value true b_value (defScope t_value) (.bl (defBody t_value)) = true := by decide +kernel
abbrev t_L_one : Stmt := top 60
def d_L_one : He.DefD := ⟨("_law_one", none), "_law_one", "_law_one", defArgs t_L_one, defBody t_L_one, defScope t_L_one, [], []⟩
abbrev n_L_one : List Str := ["_law_field_here"]
noncomputable def cc_L_one : List (Str × Fn) := []
theorem m_L_one : mS (g0.with cc_L_one) n_L_one true b_L_one (defScope t_L_one) (.bl (defBody t_L_one)) = true := by decide +kernel
abbrev t_L_plus : Stmt := top 57
def d_L_plus : He.DefD := ⟨("_law_plus", none), "_law_plus", "_law_plus", defArgs t_L_plus, defBody t_L_plus, defScope t_L_plus, [], []⟩
abbrev n_L_plus : List Str := ["_law_field_here", "_law_one_here", "_law_other", "_law_k"]
noncomputable def cc_L_plus : List (Str × Fn) := []
theorem m_L_plus : mS (g0.with cc_L_plus) n_L_plus true b_L_plus (defScope t_L_plus) (.bl (defBody t_L_plus)) = true := by decide +kernel
abbrev t_L_step : Stmt := top 58
def d_L_step : He.DefD := ⟨("_law_step", none), "_law_step", "_law_step", defArgs t_L_step, defBody t_L_step, defScope t_L_step, [], []⟩
abbrev n_L_step : List Str := ["_law_field_here", "_law_number_here", "_law_prime", "_law_rule", "_law_lead", "_law_found", "_law_k", "_law_figure"]
noncomputable def cc_L_step : List (Str × Fn) := []
theorem m_L_step : mS (g0.with cc_L_step) n_L_step true b_L_step (defScope t_L_step) (.bl (defBody t_L_step)) = true := by decide +kernel
abbrev t_L_times : Stmt := top 59
def d_L_times : He.DefD := ⟨("_law_times", none), "_law_times", "_law_times", defArgs t_L_times, defBody t_L_times, defScope t_L_times, [], []⟩
abbrev n_L_times : List Str := ["_law_field_here", "_law_one_here", "_law_other", "_law_found", "_law_here", "_law_figure", "_law_part"]
noncomputable def cc_L_times : List (Str × Fn) := [("_law_plus", F_L_plus g0), ("_law_step", F_L_step g0)]
theorem m_L_times : mS (g0.with cc_L_times) n_L_times true b_L_times (defScope t_L_times) (.bl (defBody t_L_times)) = true := by decide +kernel
abbrev t_L_at : Stmt := top 62
def d_L_at : He.DefD := ⟨("_law_at", none), "_law_at", "_law_at", defArgs t_L_at, defBody t_L_at, defScope t_L_at, [], []⟩
abbrev n_L_at : List Str := ["_law_field_here", "_law_row_here", "_law_number_here", "_law_found", "_law_here", "_law_part"]
noncomputable def cc_L_at : List (Str × Fn) := [("_law_nought", F_L_nought g0), ("_law_one", F_L_one g0), ("_law_times", F_L_times g0), ("_law_plus", F_L_plus g0)]
theorem m_L_at : mS (g0.with cc_L_at) n_L_at true b_L_at (defScope t_L_at) (.bl (defBody t_L_at)) = true := by decide +kernel
abbrev t_row_times : Stmt := top 40
def d_row_times : He.DefD := ⟨("row_times", none), "row_times", "row_times", defArgs t_row_times, defBody t_row_times, defScope t_row_times, [], []⟩
abbrev n_row_times : List Str := ["field", "one", "other", "found", "place", "at", "left", "to", "right"]
noncomputable def cc_row_times : List (Str × Fn) := [("nought", F_nought g0), ("product_of", F_product_of g0), ("sum_of", F_sum_of g0)]
theorem m_row_times : mS (g0.with cc_row_times) n_row_times true b_row_times (defScope t_row_times) (.bl (defBody t_row_times)) = true := by decide +kernel
abbrev t_multiplied : Stmt := top 46
def d_multiplied : He.DefD := ⟨("multiplied", none), "multiplied", "multiplied", defArgs t_multiplied, defBody t_multiplied, defScope t_multiplied, [], []⟩
abbrev n_multiplied : List Str := ["field", "one", "other"]
noncomputable def cc_multiplied : List (Str × Fn) := [("look_rows", F_look_rows g0), ("row_times", F_row_times g0)]
theorem m_multiplied : mS (g0.with cc_multiplied) n_multiplied true b_multiplied (defScope t_multiplied) (.bl (defBody t_multiplied)) = true := by decide +kernel
abbrev t_L_multiplied : Stmt := top 64
def d_L_multiplied : He.DefD := ⟨("_law_multiplied", none), "_law_multiplied", "_law_multiplied", defArgs t_L_multiplied, defBody t_L_multiplied, defScope t_L_multiplied, [], []⟩
abbrev n_L_multiplied : List Str := ["_law_field_here", "_law_one_here", "_law_other", "_law_found", "_law_place", "_law_here", "_law_k"]
noncomputable def cc_L_multiplied : List (Str × Fn) := [("_law_nought", F_L_nought g0), ("_law_times", F_L_times g0), ("_law_plus", F_L_plus g0)]
theorem m_L_multiplied : mS (g0.with cc_L_multiplied) n_L_multiplied true b_L_multiplied (defScope t_L_multiplied) (.bl (defBody t_L_multiplied)) = true := by decide +kernel
abbrev t_size_of : Stmt := top 23
def d_size_of : He.DefD := ⟨("size_of", none), "size_of", "size_of", defArgs t_size_of, defBody t_size_of, defScope t_size_of, [], []⟩
abbrev n_size_of : List Str := ["field"]
noncomputable def cc_size_of : List (Str × Fn) := [("times_as", F_times_as g0)]
theorem m_size_of : mS (g0.with cc_size_of) n_size_of true b_size_of (defScope t_size_of) (.bl (defBody t_size_of)) = true := by decide +kernel
abbrev t_whole : Stmt := top 27
def d_whole : He.DefD := ⟨("whole", none), "whole", "whole", defArgs t_whole, defBody t_whole, defScope t_whole, [], []⟩
abbrev n_whole : List Str := ["field", "number"]
noncomputable def cc_whole : List (Str × Fn) := []
theorem m_whole : mS (g0.with cc_whole) n_whole true b_whole (defScope t_whole) (.bl (defBody t_whole)) = true := by decide +kernel
abbrev t_power_of : Stmt := top 32
def d_power_of : He.DefD := ⟨("power_of", none), "power_of", "power_of", defArgs t_power_of, defBody t_power_of, defScope t_power_of, [], []⟩
abbrev n_power_of : List Str := ["field", "number", "often", "found"]
noncomputable def cc_power_of : List (Str × Fn) := [("whole", F_whole g0), ("product_of", F_product_of g0)]
theorem m_power_of : mS (g0.with cc_power_of) n_power_of true b_power_of (defScope t_power_of) (.bl (defBody t_power_of)) = true := by decide +kernel
abbrev t_inverse_of : Stmt := top 33
def d_inverse_of : He.DefD := ⟨("inverse_of", none), "inverse_of", "inverse_of", defArgs t_inverse_of, defBody t_inverse_of, defScope t_inverse_of, [], []⟩
abbrev n_inverse_of : List Str := ["field", "number"]
noncomputable def cc_inverse_of : List (Str × Fn) := [("size_of", F_size_of g0), ("power_of", F_power_of g0)]
theorem m_inverse_of : mS (g0.with cc_inverse_of) n_inverse_of true b_inverse_of (defScope t_inverse_of) (.bl (defBody t_inverse_of)) = true := by decide +kernel
abbrev t_less : Stmt := top 30
def d_less : He.DefD := ⟨("less", none), "less", "less", defArgs t_less, defBody t_less, defScope t_less, [], []⟩
abbrev n_less : List Str := ["field", "one", "other", "left", "right"]
noncomputable def cc_less : List (Str × Fn) := []
theorem m_less : mS (g0.with cc_less) n_less true b_less (defScope t_less) (.bl (defBody t_less)) = true := by decide +kernel
abbrev t_cut : Stmt := top 38
def d_cut : He.DefD := ⟨("cut", none), "cut", "cut", defArgs t_cut, defBody t_cut, defScope t_cut, [], []⟩
abbrev n_cut : List Str := ["field", "row"]
noncomputable def cc_cut : List (Str × Fn) := [("nought", F_nought g0)]
theorem m_cut : mS (g0.with cc_cut) n_cut true b_cut (defScope t_cut) (.bl (defBody t_cut)) = true := by decide +kernel
abbrev t_row_less : Stmt := top 41
def d_row_less : He.DefD := ⟨("row_less", none), "row_less", "row_less", defArgs t_row_less, defBody t_row_less, defScope t_row_less, [], []⟩
abbrev n_row_less : List Str := ["field", "one", "other", "many", "left", "right", "a", "b"]
noncomputable def cc_row_less : List (Str × Fn) := [("nought", F_nought g0), ("less", F_less g0), ("cut", F_cut g0)]
theorem m_row_less : mS (g0.with cc_row_less) n_row_less true b_row_less (defScope t_row_less) (.bl (defBody t_row_less)) = true := by decide +kernel
abbrev t_row_divided : Stmt := top 42
def d_row_divided : He.DefD := ⟨("row_divided", none), "row_divided", "row_divided", defArgs t_row_divided, defBody t_row_divided, defScope t_row_divided, [], []⟩
abbrev n_row_divided : List Str := ["field", "one", "other", "back", "found", "place", "at"]
noncomputable def cc_row_divided : List (Str × Fn) := [("inverse_of", F_inverse_of g0), ("nought", F_nought g0), ("product_of", F_product_of g0), ("row_times", F_row_times g0), ("row_less", F_row_less g0), ("cut", F_cut g0)]
theorem m_row_divided : mS (g0.with cc_row_divided) n_row_divided true b_row_divided (defScope t_row_divided) (.bl (defBody t_row_divided)) = true := by decide +kernel
abbrev t_divided_by : Stmt := top 47
def d_divided_by : He.DefD := ⟨("divided_by", none), "divided_by", "divided_by", defArgs t_divided_by, defBody t_divided_by, defScope t_divided_by, [], []⟩
abbrev n_divided_by : List Str := ["field", "one", "other"]
noncomputable def cc_divided_by : List (Str × Fn) := [("look_rows", F_look_rows g0), ("row_divided", F_row_divided g0)]
theorem m_divided_by : mS (g0.with cc_divided_by) n_divided_by true b_divided_by (defScope t_divided_by) (.bl (defBody t_divided_by)) = true := by decide +kernel
abbrev t_L_sum : Stmt := top 65
def d_L_sum : He.DefD := ⟨("_law_sum", none), "_law_sum", "_law_sum", defArgs t_L_sum, defBody t_L_sum, defScope t_L_sum, [], []⟩
abbrev n_L_sum : List Str := ["_law_field_here", "_law_one_here", "_law_other", "_law_found", "_law_k", "_law_here"]
noncomputable def cc_L_sum : List (Str × Fn) := [("_law_nought", F_L_nought g0), ("_law_plus", F_L_plus g0)]
theorem m_L_sum : mS (g0.with cc_L_sum) n_L_sum true b_L_sum (defScope t_L_sum) (.bl (defBody t_L_sum)) = true := by decide +kernel
abbrev t_monic : Stmt := top 43
def d_monic : He.DefD := ⟨("monic", none), "monic", "monic", defArgs t_monic, defBody t_monic, defScope t_monic, [], []⟩
abbrev n_monic : List Str := ["field", "row", "back", "one"]
noncomputable def cc_monic : List (Str × Fn) := [("inverse_of", F_inverse_of g0), ("product_of", F_product_of g0)]
theorem m_monic : mS (g0.with cc_monic) n_monic true b_monic (defScope t_monic) (.bl (defBody t_monic)) = true := by decide +kernel
abbrev t_row_common : Stmt := top 44
def d_row_common : He.DefD := ⟨("row_common", none), "row_common", "row_common", defArgs t_row_common, defBody t_row_common, defScope t_row_common, [], []⟩
abbrev n_row_common : List Str := ["field", "one", "other"]
noncomputable def cc_row_common : List (Str × Fn) := [("row_divided", F_row_divided g0), ("monic", F_monic g0)]
theorem m_row_common : mS (g0.with cc_row_common) n_row_common true b_row_common (defScope t_row_common) (.bl (defBody t_row_common)) = true := by decide +kernel
abbrev t_common_row : Stmt := top 48
def d_common_row : He.DefD := ⟨("common_row", none), "common_row", "common_row", defArgs t_common_row, defBody t_common_row, defScope t_common_row, [], []⟩
abbrev n_common_row : List Str := ["field", "one", "other"]
noncomputable def cc_common_row : List (Str × Fn) := [("look_rows", F_look_rows g0), ("row_common", F_row_common g0)]
theorem m_common_row : mS (g0.with cc_common_row) n_common_row true b_common_row (defScope t_common_row) (.bl (defBody t_common_row)) = true := by decide +kernel
abbrev t_law : Stmt := top 66
def d_law : He.DefD := ⟨("law", none), "law", "law", defArgs t_law, defBody t_law, defScope t_law, [], []⟩
abbrev n_law : List Str := ["_law_script", "_law_field_here", "_law_one_here", "_law_other", "_law_number_here", "_law_found", "_law_due", "_law_rest", "_law_told", "_law_row_here"]
noncomputable def cc_law : List (Str × Fn) := [("_law_field", F_L_field g0), ("_law_row", F_L_row g0), ("_law_cell", F_L_cell g0), ("_law_number", F_L_number g0), ("value", F_value g0), ("_law_at", F_L_at g0), ("multiplied", F_multiplied g0), ("_law_multiplied", F_L_multiplied g0), ("divided_by", F_divided_by g0), ("_law_sum", F_L_sum g0), ("common_row", F_common_row g0), ("_law_one", F_L_one g0)]
theorem m_law : mS (g0.with cc_law) n_law true b_law (defScope t_law) (.bl (defBody t_law)) = true := by decide +kernel
def fn : List He.DefD := [d_L_cell, d_L_mix, d_L_rows, d_L_product, d_L_is_rule, d_L_field, d_L_number, d_L_nought, d_L_row, d_is_within, d_is_prime, d_are_figures, d_times_as, d_rows_of, d_full, d_divided, d_any_left, d_first_part, d_is_whole, d_is_field, d_checked, d_is_number, d_nought, d_is_row, d_look_rows, d_look_numbers, d_product_of, d_sum_of, d_value_of, d_value, d_L_one, d_L_plus, d_L_step, d_L_times, d_L_at, d_row_times, d_multiplied, d_L_multiplied, d_size_of, d_whole, d_power_of, d_inverse_of, d_less, d_cut, d_row_less, d_row_divided, d_divided_by, d_L_sum, d_monic, d_row_common, d_common_row, d_law]
def exAll (K : PySem.W.Frag) : Bool := wdB g0 K && (fn.all fun d => (He.Fa.glo d.name).ok K)
section
variable {P : Program} {w : World} {K : PySem.W.Frag} {mg : Str → Option Value} {base h : Heap}
theorem glo_fn (X : K.In h) (Gs : h.Ns mainGlobals mg) (e : exAll K = true) (i : Nat) {d : He.DefD} (hd : fn[i]? = some d) : mg d.name = some (.ref (He.ga K d.name)) := He.glo_ok X Gs (List.all_eq_true.mp (bb e).2 d (List.mem_of_getElem? hd))
theorem kn_L_cell (X : K.In h) (Gs : h.Ns mainGlobals mg) (c : He.SaysD [] fn K) (e : exAll K = true) : Kn P w K mg base 1 "_law_cell" (F_L_cell g0) := by
  obtain ⟨fd, F⟩ := c.def_ 0 (d := d_L_cell) rfl
  exact kn_ofL (N := n_L_cell) (ps := ["_law_script", "_law_k"]) F ⟨rfl, rfl, rfl, by decide +kernel, rfl, by decide +kernel, by decide +kernel⟩ rfl (by decide +kernel) m_L_cell (glo_fn X Gs e 0 (d := d_L_cell) rfl) (F.bindsN fun _ _ _ _ _ _ us hl => match us, hl with | [_, _], _ => rfl) (wd_of X Gs (bb e).1) all_nil
theorem kn_L_mix (X : K.In h) (Gs : h.Ns mainGlobals mg) (c : He.SaysD [] fn K) (e : exAll K = true) : Kn P w K mg base 1 "_law_mix" (F_L_mix g0) := by
  obtain ⟨fd, F⟩ := c.def_ 1 (d := d_L_mix) rfl
  exact kn_ofL (N := n_L_mix) (ps := ["_law_cell_here", "_law_prime", "_law_many"]) F ⟨rfl, rfl, rfl, by decide +kernel, rfl, by decide +kernel, by decide +kernel⟩ rfl (by decide +kernel) m_L_mix (glo_fn X Gs e 1 (d := d_L_mix) rfl) (F.bindsN fun _ _ _ _ _ _ us hl => match us, hl with | [_, _, _], _ => rfl) (wd_of X Gs (bb e).1) all_nil
theorem kn_L_rows (X : K.In h) (Gs : h.Ns mainGlobals mg) (c : He.SaysD [] fn K) (e : exAll K = true) : Kn P w K mg base 1 "_law_rows" (F_L_rows g0) := by
  obtain ⟨fd, F⟩ := c.def_ 2 (d := d_L_rows) rfl
  exact kn_ofL (N := n_L_rows) (ps := ["_law_prime", "_law_many"]) F ⟨rfl, rfl, rfl, by decide +kernel, rfl, by decide +kernel, by decide +kernel⟩ rfl (by decide +kernel) m_L_rows (glo_fn X Gs e 2 (d := d_L_rows) rfl) (F.bindsN fun _ _ _ _ _ _ us hl => match us, hl with | [_, _], _ => rfl) (wd_of X Gs (bb e).1) all_nil
theorem kn_L_product (X : K.In h) (Gs : h.Ns mainGlobals mg) (c : He.SaysD [] fn K) (e : exAll K = true) : Kn P w K mg base 1 "_law_product" (F_L_product g0) := by
  obtain ⟨fd, F⟩ := c.def_ 3 (d := d_L_product) rfl
  exact kn_ofL (N := n_L_product) (ps := ["_law_prime", "_law_one_here", "_law_other"]) F ⟨rfl, rfl, rfl, by decide +kernel, rfl, by decide +kernel, by decide +kernel⟩ rfl (by decide +kernel) m_L_product (glo_fn X Gs e 3 (d := d_L_product) rfl) (F.bindsN fun _ _ _ _ _ _ us hl => match us, hl with | [_, _, _], _ => rfl) (wd_of X Gs (bb e).1) all_nil
theorem kn_L_is_rule (X : K.In h) (Gs : h.Ns mainGlobals mg) (c : He.SaysD [] fn K) (e : exAll K = true) : Kn P w K mg base 2 "_law_is_rule" (F_L_is_rule g0) := by
  obtain ⟨fd, F⟩ := c.def_ 4 (d := d_L_is_rule) rfl
  exact kn_ofL (N := n_L_is_rule) (ps := ["_law_prime", "_law_rule"]) F ⟨rfl, rfl, rfl, by decide +kernel, rfl, by decide +kernel, by decide +kernel⟩ rfl (by decide +kernel) m_L_is_rule (glo_fn X Gs e 4 (d := d_L_is_rule) rfl) (F.bindsN fun _ _ _ _ _ _ us hl => match us, hl with | [_, _], _ => rfl) (wd_of X Gs (bb e).1) (all_cons ((kn_L_rows X Gs c e).mono (by decide)) (all_cons ((kn_L_product X Gs c e).mono (by decide)) all_nil))
theorem kn_L_field (X : K.In h) (Gs : h.Ns mainGlobals mg) (c : He.SaysD [] fn K) (e : exAll K = true) : Kn P w K mg base 3 "_law_field" (F_L_field g0) := by
  obtain ⟨fd, F⟩ := c.def_ 5 (d := d_L_field) rfl
  exact kn_ofL (N := n_L_field) (ps := ["_law_script", "_law_at_here"]) F ⟨rfl, rfl, rfl, by decide +kernel, rfl, by decide +kernel, by decide +kernel⟩ rfl (by decide +kernel) m_L_field (glo_fn X Gs e 5 (d := d_L_field) rfl) (F.bindsN fun _ _ _ _ _ _ us hl => match us, hl with | [_, _], _ => rfl) (wd_of X Gs (bb e).1) (all_cons ((kn_L_cell X Gs c e).mono (by decide)) (all_cons ((kn_L_mix X Gs c e).mono (by decide)) (all_cons ((kn_L_rows X Gs c e).mono (by decide)) (all_cons ((kn_L_is_rule X Gs c e).mono (by decide)) all_nil))))
theorem kn_L_number (X : K.In h) (Gs : h.Ns mainGlobals mg) (c : He.SaysD [] fn K) (e : exAll K = true) : Kn P w K mg base 2 "_law_number" (F_L_number g0) := by
  obtain ⟨fd, F⟩ := c.def_ 6 (d := d_L_number) rfl
  exact kn_ofL (N := n_L_number) (ps := ["_law_field_here", "_law_cell_here"]) F ⟨rfl, rfl, rfl, by decide +kernel, rfl, by decide +kernel, by decide +kernel⟩ rfl (by decide +kernel) m_L_number (glo_fn X Gs e 6 (d := d_L_number) rfl) (F.bindsN fun _ _ _ _ _ _ us hl => match us, hl with | [_, _], _ => rfl) (wd_of X Gs (bb e).1) (all_cons ((kn_L_mix X Gs c e).mono (by decide)) all_nil)
theorem kn_L_nought (X : K.In h) (Gs : h.Ns mainGlobals mg) (c : He.SaysD [] fn K) (e : exAll K = true) : Kn P w K mg base 1 "_law_nought" (F_L_nought g0) := by
  obtain ⟨fd, F⟩ := c.def_ 7 (d := d_L_nought) rfl
  exact kn_ofL (N := n_L_nought) (ps := ["_law_field_here"]) F ⟨rfl, rfl, rfl, by decide +kernel, rfl, by decide +kernel, by decide +kernel⟩ rfl (by decide +kernel) m_L_nought (glo_fn X Gs e 7 (d := d_L_nought) rfl) (F.bindsN fun _ _ _ _ _ _ us hl => match us, hl with | [_], _ => rfl) (wd_of X Gs (bb e).1) all_nil
theorem kn_L_row (X : K.In h) (Gs : h.Ns mainGlobals mg) (c : He.SaysD [] fn K) (e : exAll K = true) : Kn P w K mg base 3 "_law_row" (F_L_row g0) := by
  obtain ⟨fd, F⟩ := c.def_ 8 (d := d_L_row) rfl
  exact kn_ofL (N := n_L_row) (ps := ["_law_field_here", "_law_script", "_law_at_here"]) F ⟨rfl, rfl, rfl, by decide +kernel, rfl, by decide +kernel, by decide +kernel⟩ rfl (by decide +kernel) m_L_row (glo_fn X Gs e 8 (d := d_L_row) rfl) (F.bindsN fun _ _ _ _ _ _ us hl => match us, hl with | [_, _, _], _ => rfl) (wd_of X Gs (bb e).1) (all_cons ((kn_L_cell X Gs c e).mono (by decide)) (all_cons ((kn_L_mix X Gs c e).mono (by decide)) (all_cons ((kn_L_number X Gs c e).mono (by decide)) (all_cons ((kn_L_nought X Gs c e).mono (by decide)) all_nil))))
theorem kn_is_within (X : K.In h) (Gs : h.Ns mainGlobals mg) (c : He.SaysD [] fn K) (e : exAll K = true) : Kn P w K mg base 1 "is_within" (F_is_within g0) := by
  obtain ⟨fd, F⟩ := c.def_ 9 (d := d_is_within) rfl
  exact kn_ofL (N := n_is_within) (ps := ["thing", "low", "high"]) F ⟨rfl, rfl, rfl, by decide +kernel, rfl, by decide +kernel, by decide +kernel⟩ rfl (by decide +kernel) m_is_within (glo_fn X Gs e 9 (d := d_is_within) rfl) (F.bindsN fun _ _ _ _ _ _ us hl => match us, hl with | [_, _, _], _ => rfl) (wd_of X Gs (bb e).1) all_nil
theorem kn_is_prime (X : K.In h) (Gs : h.Ns mainGlobals mg) (c : He.SaysD [] fn K) (e : exAll K = true) : Kn P w K mg base 2 "is_prime" (F_is_prime g0) := by
  obtain ⟨fd, F⟩ := c.def_ 10 (d := d_is_prime) rfl
  exact kn_ofL (N := n_is_prime) (ps := ["thing"]) F ⟨rfl, rfl, rfl, by decide +kernel, rfl, by decide +kernel, by decide +kernel⟩ rfl (by decide +kernel) m_is_prime (glo_fn X Gs e 10 (d := d_is_prime) rfl) (F.bindsN fun _ _ _ _ _ _ us hl => match us, hl with | [_], _ => rfl) (wd_of X Gs (bb e).1) (all_cons ((kn_is_within X Gs c e).mono (by decide)) all_nil)
theorem kn_are_figures (X : K.In h) (Gs : h.Ns mainGlobals mg) (c : He.SaysD [] fn K) (e : exAll K = true) : Kn P w K mg base 2 "are_figures" (F_are_figures g0) := by
  obtain ⟨fd, F⟩ := c.def_ 11 (d := d_are_figures) rfl
  exact kn_ofL (N := n_are_figures) (ps := ["prime", "thing", "least", "most"]) F ⟨rfl, rfl, rfl, by decide +kernel, rfl, by decide +kernel, by decide +kernel⟩ rfl (by decide +kernel) m_are_figures (glo_fn X Gs e 11 (d := d_are_figures) rfl) (F.bindsN fun _ _ _ _ _ _ us hl => match us, hl with | [_, _, _, _], _ => rfl) (wd_of X Gs (bb e).1) (all_cons ((kn_is_within X Gs c e).mono (by decide)) all_nil)
theorem kn_times_as (X : K.In h) (Gs : h.Ns mainGlobals mg) (c : He.SaysD [] fn K) (e : exAll K = true) : Kn P w K mg base 1 "times_as" (F_times_as g0) := by
  obtain ⟨fd, F⟩ := c.def_ 12 (d := d_times_as) rfl
  exact kn_ofL (N := n_times_as) (ps := ["number", "often"]) F ⟨rfl, rfl, rfl, by decide +kernel, rfl, by decide +kernel, by decide +kernel⟩ rfl (by decide +kernel) m_times_as (glo_fn X Gs e 12 (d := d_times_as) rfl) (F.bindsN fun _ _ _ _ _ _ us hl => match us, hl with | [_, _], _ => rfl) (wd_of X Gs (bb e).1) all_nil
theorem kn_rows_of (X : K.In h) (Gs : h.Ns mainGlobals mg) (c : He.SaysD [] fn K) (e : exAll K = true) : Kn P w K mg base 1 "rows_of" (F_rows_of g0) := by
  obtain ⟨fd, F⟩ := c.def_ 13 (d := d_rows_of) rfl
  exact kn_ofL (N := n_rows_of) (ps := ["prime", "many"]) F ⟨rfl, rfl, rfl, by decide +kernel, rfl, by decide +kernel, by decide +kernel⟩ rfl (by decide +kernel) m_rows_of (glo_fn X Gs e 13 (d := d_rows_of) rfl) (F.bindsN fun _ _ _ _ _ _ us hl => match us, hl with | [_, _], _ => rfl) (wd_of X Gs (bb e).1) all_nil
theorem kn_full (X : K.In h) (Gs : h.Ns mainGlobals mg) (c : He.SaysD [] fn K) (e : exAll K = true) : Kn P w K mg base 1 "full" (F_full g0) := by
  obtain ⟨fd, F⟩ := c.def_ 14 (d := d_full) rfl
  exact kn_ofL (N := n_full) (ps := ["rule"]) F ⟨rfl, rfl, rfl, by decide +kernel, rfl, by decide +kernel, by decide +kernel⟩ rfl (by decide +kernel) m_full (glo_fn X Gs e 14 (d := d_full) rfl) (F.bindsN fun _ _ _ _ _ _ us hl => match us, hl with | [_], _ => rfl) (wd_of X Gs (bb e).1) all_nil
theorem kn_divided (X : K.In h) (Gs : h.Ns mainGlobals mg) (c : He.SaysD [] fn K) (e : exAll K = true) : Kn P w K mg base 2 "divided" (F_divided g0) := by
  obtain ⟨fd, F⟩ := c.def_ 15 (d := d_divided) rfl
  exact kn_ofL (N := n_divided) (ps := ["prime", "rule", "other"]) F ⟨rfl, rfl, rfl, by decide +kernel, rfl, by decide +kernel, by decide +kernel⟩ rfl (by decide +kernel) m_divided (glo_fn X Gs e 15 (d := d_divided) rfl) (F.bindsN fun _ _ _ _ _ _ us hl => match us, hl with | [_, _, _], _ => rfl) (wd_of X Gs (bb e).1) (all_cons ((kn_full X Gs c e).mono (by decide)) all_nil)
theorem kn_any_left (X : K.In h) (Gs : h.Ns mainGlobals mg) (c : He.SaysD [] fn K) (e : exAll K = true) : Kn P w K mg base 1 "any_left" (F_any_left g0) := by
  obtain ⟨fd, F⟩ := c.def_ 16 (d := d_any_left) rfl
  exact kn_ofL (N := n_any_left) (ps := ["rest"]) F ⟨rfl, rfl, rfl, by decide +kernel, rfl, by decide +kernel, by decide +kernel⟩ rfl (by decide +kernel) m_any_left (glo_fn X Gs e 16 (d := d_any_left) rfl) (F.bindsN fun _ _ _ _ _ _ us hl => match us, hl with | [_], _ => rfl) (wd_of X Gs (bb e).1) all_nil
theorem kn_first_part (X : K.In h) (Gs : h.Ns mainGlobals mg) (c : He.SaysD [] fn K) (e : exAll K = true) : Kn P w K mg base 3 "first_part" (F_first_part g0) := by
  obtain ⟨fd, F⟩ := c.def_ 17 (d := d_first_part) rfl
  exact kn_ofL (N := n_first_part) (ps := ["prime", "rule"]) F ⟨rfl, rfl, rfl, by decide +kernel, rfl, by decide +kernel, by decide +kernel⟩ rfl (by decide +kernel) m_first_part (glo_fn X Gs e 17 (d := d_first_part) rfl) (F.bindsN fun _ _ _ _ _ _ us hl => match us, hl with | [_, _], _ => rfl) (wd_of X Gs (bb e).1) (all_cons ((kn_rows_of X Gs c e).mono (by decide)) (all_cons ((kn_divided X Gs c e).mono (by decide)) (all_cons ((kn_any_left X Gs c e).mono (by decide)) all_nil)))
theorem kn_is_whole (X : K.In h) (Gs : h.Ns mainGlobals mg) (c : He.SaysD [] fn K) (e : exAll K = true) : Kn P w K mg base 4 "is_whole" (F_is_whole g0) := by
  obtain ⟨fd, F⟩ := c.def_ 18 (d := d_is_whole) rfl
  exact kn_ofL (N := n_is_whole) (ps := ["prime", "rule"]) F ⟨rfl, rfl, rfl, by decide +kernel, rfl, by decide +kernel, by decide +kernel⟩ rfl (by decide +kernel) m_is_whole (glo_fn X Gs e 18 (d := d_is_whole) rfl) (F.bindsN fun _ _ _ _ _ _ us hl => match us, hl with | [_, _], _ => rfl) (wd_of X Gs (bb e).1) (all_cons ((kn_first_part X Gs c e).mono (by decide)) all_nil)
theorem kn_is_field (X : K.In h) (Gs : h.Ns mainGlobals mg) (c : He.SaysD [] fn K) (e : exAll K = true) : Kn P w K mg base 5 "is_field" (F_is_field g0) := by
  obtain ⟨fd, F⟩ := c.def_ 19 (d := d_is_field) rfl
  exact kn_ofL (N := n_is_field) (ps := ["thing"]) F ⟨rfl, rfl, rfl, by decide +kernel, rfl, by decide +kernel, by decide +kernel⟩ rfl (by decide +kernel) m_is_field (glo_fn X Gs e 19 (d := d_is_field) rfl) (F.bindsN fun _ _ _ _ _ _ us hl => match us, hl with | [_], _ => rfl) (wd_of X Gs (bb e).1) (all_cons ((kn_is_prime X Gs c e).mono (by decide)) (all_cons ((kn_are_figures X Gs c e).mono (by decide)) (all_cons ((kn_times_as X Gs c e).mono (by decide)) (all_cons ((kn_is_whole X Gs c e).mono (by decide)) all_nil))))
theorem kn_checked (X : K.In h) (Gs : h.Ns mainGlobals mg) (c : He.SaysD [] fn K) (e : exAll K = true) : Kn P w K mg base 6 "checked" (F_checked g0) := by
  obtain ⟨fd, F⟩ := c.def_ 20 (d := d_checked) rfl
  exact kn_ofL (N := n_checked) (ps := ["field"]) F ⟨rfl, rfl, rfl, by decide +kernel, rfl, by decide +kernel, by decide +kernel⟩ rfl (by decide +kernel) m_checked (glo_fn X Gs e 20 (d := d_checked) rfl) (F.bindsN fun _ _ _ _ _ _ us hl => match us, hl with | [_], _ => rfl) (wd_of X Gs (bb e).1) (all_cons ((kn_is_field X Gs c e).mono (by decide)) all_nil)
theorem kn_is_number (X : K.In h) (Gs : h.Ns mainGlobals mg) (c : He.SaysD [] fn K) (e : exAll K = true) : Kn P w K mg base 3 "is_number" (F_is_number g0) := by
  obtain ⟨fd, F⟩ := c.def_ 21 (d := d_is_number) rfl
  exact kn_ofL (N := n_is_number) (ps := ["field", "thing"]) F ⟨rfl, rfl, rfl, by decide +kernel, rfl, by decide +kernel, by decide +kernel⟩ rfl (by decide +kernel) m_is_number (glo_fn X Gs e 21 (d := d_is_number) rfl) (F.bindsN fun _ _ _ _ _ _ us hl => match us, hl with | [_, _], _ => rfl) (wd_of X Gs (bb e).1) (all_cons ((kn_are_figures X Gs c e).mono (by decide)) all_nil)
theorem kn_nought (X : K.In h) (Gs : h.Ns mainGlobals mg) (c : He.SaysD [] fn K) (e : exAll K = true) : Kn P w K mg base 1 "nought" (F_nought g0) := by
  obtain ⟨fd, F⟩ := c.def_ 22 (d := d_nought) rfl
  exact kn_ofL (N := n_nought) (ps := ["field"]) F ⟨rfl, rfl, rfl, by decide +kernel, rfl, by decide +kernel, by decide +kernel⟩ rfl (by decide +kernel) m_nought (glo_fn X Gs e 22 (d := d_nought) rfl) (F.bindsN fun _ _ _ _ _ _ us hl => match us, hl with | [_], _ => rfl) (wd_of X Gs (bb e).1) all_nil
theorem kn_is_row (X : K.In h) (Gs : h.Ns mainGlobals mg) (c : He.SaysD [] fn K) (e : exAll K = true) : Kn P w K mg base 4 "is_row" (F_is_row g0) := by
  obtain ⟨fd, F⟩ := c.def_ 23 (d := d_is_row) rfl
  exact kn_ofL (N := n_is_row) (ps := ["field", "thing"]) F ⟨rfl, rfl, rfl, by decide +kernel, rfl, by decide +kernel, by decide +kernel⟩ rfl (by decide +kernel) m_is_row (glo_fn X Gs e 23 (d := d_is_row) rfl) (F.bindsN fun _ _ _ _ _ _ us hl => match us, hl with | [_, _], _ => rfl) (wd_of X Gs (bb e).1) (all_cons ((kn_is_number X Gs c e).mono (by decide)) (all_cons ((kn_nought X Gs c e).mono (by decide)) all_nil))
theorem kn_look_rows (X : K.In h) (Gs : h.Ns mainGlobals mg) (c : He.SaysD [] fn K) (e : exAll K = true) : Kn P w K mg base 7 "look_rows" (F_look_rows g0) := by
  obtain ⟨fd, F⟩ := c.def_ 24 (d := d_look_rows) rfl
  exact kn_ofL (N := n_look_rows) (ps := ["field", "some"]) F ⟨rfl, rfl, rfl, by decide +kernel, rfl, by decide +kernel, by decide +kernel⟩ rfl (by decide +kernel) m_look_rows (glo_fn X Gs e 24 (d := d_look_rows) rfl) (F.bindsN fun _ _ _ _ _ _ us hl => match us, hl with | [_, _], _ => rfl) (wd_of X Gs (bb e).1) (all_cons ((kn_checked X Gs c e).mono (by decide)) (all_cons ((kn_is_row X Gs c e).mono (by decide)) all_nil))
theorem kn_look_numbers (X : K.In h) (Gs : h.Ns mainGlobals mg) (c : He.SaysD [] fn K) (e : exAll K = true) : Kn P w K mg base 7 "look_numbers" (F_look_numbers g0) := by
  obtain ⟨fd, F⟩ := c.def_ 25 (d := d_look_numbers) rfl
  exact kn_ofL (N := n_look_numbers) (ps := ["field", "some"]) F ⟨rfl, rfl, rfl, by decide +kernel, rfl, by decide +kernel, by decide +kernel⟩ rfl (by decide +kernel) m_look_numbers (glo_fn X Gs e 25 (d := d_look_numbers) rfl) (F.bindsN fun _ _ _ _ _ _ us hl => match us, hl with | [_, _], _ => rfl) (wd_of X Gs (bb e).1) (all_cons ((kn_checked X Gs c e).mono (by decide)) (all_cons ((kn_is_number X Gs c e).mono (by decide)) all_nil))
theorem kn_product_of (X : K.In h) (Gs : h.Ns mainGlobals mg) (c : He.SaysD [] fn K) (e : exAll K = true) : Kn P w K mg base 1 "product_of" (F_product_of g0) := by
  obtain ⟨fd, F⟩ := c.def_ 26 (d := d_product_of) rfl
  exact kn_ofL (N := n_product_of) (ps := ["field", "one", "other"]) F ⟨rfl, rfl, rfl, by decide +kernel, rfl, by decide +kernel, by decide +kernel⟩ rfl (by decide +kernel) m_product_of (glo_fn X Gs e 26 (d := d_product_of) rfl) (F.bindsN fun _ _ _ _ _ _ us hl => match us, hl with | [_, _, _], _ => rfl) (wd_of X Gs (bb e).1) all_nil
theorem kn_sum_of (X : K.In h) (Gs : h.Ns mainGlobals mg) (c : He.SaysD [] fn K) (e : exAll K = true) : Kn P w K mg base 1 "sum_of" (F_sum_of g0) := by
  obtain ⟨fd, F⟩ := c.def_ 27 (d := d_sum_of) rfl
  exact kn_ofL (N := n_sum_of) (ps := ["field", "one", "other"]) F ⟨rfl, rfl, rfl, by decide +kernel, rfl, by decide +kernel, by decide +kernel⟩ rfl (by decide +kernel) m_sum_of (glo_fn X Gs e 27 (d := d_sum_of) rfl) (F.bindsN fun _ _ _ _ _ _ us hl => match us, hl with | [_, _, _], _ => rfl) (wd_of X Gs (bb e).1) all_nil
theorem kn_value_of (X : K.In h) (Gs : h.Ns mainGlobals mg) (c : He.SaysD [] fn K) (e : exAll K = true) : Kn P w K mg base 2 "value_of" (F_value_of g0) := by
  obtain ⟨fd, F⟩ := c.def_ 28 (d := d_value_of) rfl
  exact kn_ofL (N := n_value_of) (ps := ["field", "row", "number"]) F ⟨rfl, rfl, rfl, by decide +kernel, rfl, by decide +kernel, by decide +kernel⟩ rfl (by decide +kernel) m_value_of (glo_fn X Gs e 28 (d := d_value_of) rfl) (F.bindsN fun _ _ _ _ _ _ us hl => match us, hl with | [_, _, _], _ => rfl) (wd_of X Gs (bb e).1) (all_cons ((kn_nought X Gs c e).mono (by decide)) (all_cons ((kn_product_of X Gs c e).mono (by decide)) (all_cons ((kn_sum_of X Gs c e).mono (by decide)) all_nil)))
theorem kn_value (X : K.In h) (Gs : h.Ns mainGlobals mg) (c : He.SaysD [] fn K) (e : exAll K = true) : Kn P w K mg base 8 "value" (F_value g0) := by
  obtain ⟨fd, F⟩ := c.def_ 29 (d := d_value) rfl
  exact kn_ofL (N := n_value) (ps := ["field", "row", "number"]) F ⟨rfl, rfl, rfl, by decide +kernel, rfl, by decide +kernel, by decide +kernel⟩ rfl (by decide +kernel) m_value (glo_fn X Gs e 29 (d := d_value) rfl) (F.bindsN fun _ _ _ _ _ _ us hl => match us, hl with | [_, _, _], _ => rfl) (wd_of X Gs (bb e).1) (all_cons ((kn_look_rows X Gs c e).mono (by decide)) (all_cons ((kn_look_numbers X Gs c e).mono (by decide)) (all_cons ((kn_value_of X Gs c e).mono (by decide)) all_nil)))
theorem kn_L_one (X : K.In h) (Gs : h.Ns mainGlobals mg) (c : He.SaysD [] fn K) (e : exAll K = true) : Kn P w K mg base 1 "_law_one" (F_L_one g0) := by
  obtain ⟨fd, F⟩ := c.def_ 30 (d := d_L_one) rfl
  exact kn_ofL (N := n_L_one) (ps := ["_law_field_here"]) F ⟨rfl, rfl, rfl, by decide +kernel, rfl, by decide +kernel, by decide +kernel⟩ rfl (by decide +kernel) m_L_one (glo_fn X Gs e 30 (d := d_L_one) rfl) (F.bindsN fun _ _ _ _ _ _ us hl => match us, hl with | [_], _ => rfl) (wd_of X Gs (bb e).1) all_nil
theorem kn_L_plus (X : K.In h) (Gs : h.Ns mainGlobals mg) (c : He.SaysD [] fn K) (e : exAll K = true) : Kn P w K mg base 1 "_law_plus" (F_L_plus g0) := by
  obtain ⟨fd, F⟩ := c.def_ 31 (d := d_L_plus) rfl
  exact kn_ofL (N := n_L_plus) (ps := ["_law_field_here", "_law_one_here", "_law_other"]) F ⟨rfl, rfl, rfl, by decide +kernel, rfl, by decide +kernel, by decide +kernel⟩ rfl (by decide +kernel) m_L_plus (glo_fn X Gs e 31 (d := d_L_plus) rfl) (F.bindsN fun _ _ _ _ _ _ us hl => match us, hl with | [_, _, _], _ => rfl) (wd_of X Gs (bb e).1) all_nil
theorem kn_L_step (X : K.In h) (Gs : h.Ns mainGlobals mg) (c : He.SaysD [] fn K) (e : exAll K = true) : Kn P w K mg base 1 "_law_step" (F_L_step g0) := by
  obtain ⟨fd, F⟩ := c.def_ 32 (d := d_L_step) rfl
  exact kn_ofL (N := n_L_step) (ps := ["_law_field_here", "_law_number_here"]) F ⟨rfl, rfl, rfl, by decide +kernel, rfl, by decide +kernel, by decide +kernel⟩ rfl (by decide +kernel) m_L_step (glo_fn X Gs e 32 (d := d_L_step) rfl) (F.bindsN fun _ _ _ _ _ _ us hl => match us, hl with | [_, _], _ => rfl) (wd_of X Gs (bb e).1) all_nil
theorem kn_L_times (X : K.In h) (Gs : h.Ns mainGlobals mg) (c : He.SaysD [] fn K) (e : exAll K = true) : Kn P w K mg base 2 "_law_times" (F_L_times g0) := by
  obtain ⟨fd, F⟩ := c.def_ 33 (d := d_L_times) rfl
  exact kn_ofL (N := n_L_times) (ps := ["_law_field_here", "_law_one_here", "_law_other"]) F ⟨rfl, rfl, rfl, by decide +kernel, rfl, by decide +kernel, by decide +kernel⟩ rfl (by decide +kernel) m_L_times (glo_fn X Gs e 33 (d := d_L_times) rfl) (F.bindsN fun _ _ _ _ _ _ us hl => match us, hl with | [_, _, _], _ => rfl) (wd_of X Gs (bb e).1) (all_cons ((kn_L_plus X Gs c e).mono (by decide)) (all_cons ((kn_L_step X Gs c e).mono (by decide)) all_nil))
theorem kn_L_at (X : K.In h) (Gs : h.Ns mainGlobals mg) (c : He.SaysD [] fn K) (e : exAll K = true) : Kn P w K mg base 3 "_law_at" (F_L_at g0) := by
  obtain ⟨fd, F⟩ := c.def_ 34 (d := d_L_at) rfl
  exact kn_ofL (N := n_L_at) (ps := ["_law_field_here", "_law_row_here", "_law_number_here"]) F ⟨rfl, rfl, rfl, by decide +kernel, rfl, by decide +kernel, by decide +kernel⟩ rfl (by decide +kernel) m_L_at (glo_fn X Gs e 34 (d := d_L_at) rfl) (F.bindsN fun _ _ _ _ _ _ us hl => match us, hl with | [_, _, _], _ => rfl) (wd_of X Gs (bb e).1) (all_cons ((kn_L_nought X Gs c e).mono (by decide)) (all_cons ((kn_L_one X Gs c e).mono (by decide)) (all_cons ((kn_L_times X Gs c e).mono (by decide)) (all_cons ((kn_L_plus X Gs c e).mono (by decide)) all_nil))))
theorem kn_row_times (X : K.In h) (Gs : h.Ns mainGlobals mg) (c : He.SaysD [] fn K) (e : exAll K = true) : Kn P w K mg base 2 "row_times" (F_row_times g0) := by
  obtain ⟨fd, F⟩ := c.def_ 35 (d := d_row_times) rfl
  exact kn_ofL (N := n_row_times) (ps := ["field", "one", "other"]) F ⟨rfl, rfl, rfl, by decide +kernel, rfl, by decide +kernel, by decide +kernel⟩ rfl (by decide +kernel) m_row_times (glo_fn X Gs e 35 (d := d_row_times) rfl) (F.bindsN fun _ _ _ _ _ _ us hl => match us, hl with | [_, _, _], _ => rfl) (wd_of X Gs (bb e).1) (all_cons ((kn_nought X Gs c e).mono (by decide)) (all_cons ((kn_product_of X Gs c e).mono (by decide)) (all_cons ((kn_sum_of X Gs c e).mono (by decide)) all_nil)))
theorem kn_multiplied (X : K.In h) (Gs : h.Ns mainGlobals mg) (c : He.SaysD [] fn K) (e : exAll K = true) : Kn P w K mg base 8 "multiplied" (F_multiplied g0) := by
  obtain ⟨fd, F⟩ := c.def_ 36 (d := d_multiplied) rfl
  exact kn_ofL (N := n_multiplied) (ps := ["field", "one", "other"]) F ⟨rfl, rfl, rfl, by decide +kernel, rfl, by decide +kernel, by decide +kernel⟩ rfl (by decide +kernel) m_multiplied (glo_fn X Gs e 36 (d := d_multiplied) rfl) (F.bindsN fun _ _ _ _ _ _ us hl => match us, hl with | [_, _, _], _ => rfl) (wd_of X Gs (bb e).1) (all_cons ((kn_look_rows X Gs c e).mono (by decide)) (all_cons ((kn_row_times X Gs c e).mono (by decide)) all_nil))
theorem kn_L_multiplied (X : K.In h) (Gs : h.Ns mainGlobals mg) (c : He.SaysD [] fn K) (e : exAll K = true) : Kn P w K mg base 3 "_law_multiplied" (F_L_multiplied g0) := by
  obtain ⟨fd, F⟩ := c.def_ 37 (d := d_L_multiplied) rfl
  exact kn_ofL (N := n_L_multiplied) (ps := ["_law_field_here", "_law_one_here", "_law_other"]) F ⟨rfl, rfl, rfl, by decide +kernel, rfl, by decide +kernel, by decide +kernel⟩ rfl (by decide +kernel) m_L_multiplied (glo_fn X Gs e 37 (d := d_L_multiplied) rfl) (F.bindsN fun _ _ _ _ _ _ us hl => match us, hl with | [_, _, _], _ => rfl) (wd_of X Gs (bb e).1) (all_cons ((kn_L_nought X Gs c e).mono (by decide)) (all_cons ((kn_L_times X Gs c e).mono (by decide)) (all_cons ((kn_L_plus X Gs c e).mono (by decide)) all_nil)))
theorem kn_size_of (X : K.In h) (Gs : h.Ns mainGlobals mg) (c : He.SaysD [] fn K) (e : exAll K = true) : Kn P w K mg base 2 "size_of" (F_size_of g0) := by
  obtain ⟨fd, F⟩ := c.def_ 38 (d := d_size_of) rfl
  exact kn_ofL (N := n_size_of) (ps := ["field"]) F ⟨rfl, rfl, rfl, by decide +kernel, rfl, by decide +kernel, by decide +kernel⟩ rfl (by decide +kernel) m_size_of (glo_fn X Gs e 38 (d := d_size_of) rfl) (F.bindsN fun _ _ _ _ _ _ us hl => match us, hl with | [_], _ => rfl) (wd_of X Gs (bb e).1) (all_cons ((kn_times_as X Gs c e).mono (by decide)) all_nil)
theorem kn_whole (X : K.In h) (Gs : h.Ns mainGlobals mg) (c : He.SaysD [] fn K) (e : exAll K = true) : Kn P w K mg base 1 "whole" (F_whole g0) := by
  obtain ⟨fd, F⟩ := c.def_ 39 (d := d_whole) rfl
  exact kn_ofL (N := n_whole) (ps := ["field", "number"]) F ⟨rfl, rfl, rfl, by decide +kernel, rfl, by decide +kernel, by decide +kernel⟩ rfl (by decide +kernel) m_whole (glo_fn X Gs e 39 (d := d_whole) rfl) (F.bindsN fun _ _ _ _ _ _ us hl => match us, hl with | [_, _], _ => rfl) (wd_of X Gs (bb e).1) all_nil
theorem kn_power_of (X : K.In h) (Gs : h.Ns mainGlobals mg) (c : He.SaysD [] fn K) (e : exAll K = true) : Kn P w K mg base 2 "power_of" (F_power_of g0) := by
  obtain ⟨fd, F⟩ := c.def_ 40 (d := d_power_of) rfl
  exact kn_ofL (N := n_power_of) (ps := ["field", "number", "often"]) F ⟨rfl, rfl, rfl, by decide +kernel, rfl, by decide +kernel, by decide +kernel⟩ rfl (by decide +kernel) m_power_of (glo_fn X Gs e 40 (d := d_power_of) rfl) (F.bindsN fun _ _ _ _ _ _ us hl => match us, hl with | [_, _, _], _ => rfl) (wd_of X Gs (bb e).1) (all_cons ((kn_whole X Gs c e).mono (by decide)) (all_cons ((kn_product_of X Gs c e).mono (by decide)) all_nil))
theorem kn_inverse_of (X : K.In h) (Gs : h.Ns mainGlobals mg) (c : He.SaysD [] fn K) (e : exAll K = true) : Kn P w K mg base 3 "inverse_of" (F_inverse_of g0) := by
  obtain ⟨fd, F⟩ := c.def_ 41 (d := d_inverse_of) rfl
  exact kn_ofL (N := n_inverse_of) (ps := ["field", "number"]) F ⟨rfl, rfl, rfl, by decide +kernel, rfl, by decide +kernel, by decide +kernel⟩ rfl (by decide +kernel) m_inverse_of (glo_fn X Gs e 41 (d := d_inverse_of) rfl) (F.bindsN fun _ _ _ _ _ _ us hl => match us, hl with | [_, _], _ => rfl) (wd_of X Gs (bb e).1) (all_cons ((kn_size_of X Gs c e).mono (by decide)) (all_cons ((kn_power_of X Gs c e).mono (by decide)) all_nil))
theorem kn_less (X : K.In h) (Gs : h.Ns mainGlobals mg) (c : He.SaysD [] fn K) (e : exAll K = true) : Kn P w K mg base 1 "less" (F_less g0) := by
  obtain ⟨fd, F⟩ := c.def_ 42 (d := d_less) rfl
  exact kn_ofL (N := n_less) (ps := ["field", "one", "other"]) F ⟨rfl, rfl, rfl, by decide +kernel, rfl, by decide +kernel, by decide +kernel⟩ rfl (by decide +kernel) m_less (glo_fn X Gs e 42 (d := d_less) rfl) (F.bindsN fun _ _ _ _ _ _ us hl => match us, hl with | [_, _, _], _ => rfl) (wd_of X Gs (bb e).1) all_nil
theorem kn_cut (X : K.In h) (Gs : h.Ns mainGlobals mg) (c : He.SaysD [] fn K) (e : exAll K = true) : Kn P w K mg base 2 "cut" (F_cut g0) := by
  obtain ⟨fd, F⟩ := c.def_ 43 (d := d_cut) rfl
  exact kn_ofL (N := n_cut) (ps := ["field", "row"]) F ⟨rfl, rfl, rfl, by decide +kernel, rfl, by decide +kernel, by decide +kernel⟩ rfl (by decide +kernel) m_cut (glo_fn X Gs e 43 (d := d_cut) rfl) (F.bindsN fun _ _ _ _ _ _ us hl => match us, hl with | [_, _], _ => rfl) (wd_of X Gs (bb e).1) (all_cons ((kn_nought X Gs c e).mono (by decide)) all_nil)
theorem kn_row_less (X : K.In h) (Gs : h.Ns mainGlobals mg) (c : He.SaysD [] fn K) (e : exAll K = true) : Kn P w K mg base 3 "row_less" (F_row_less g0) := by
  obtain ⟨fd, F⟩ := c.def_ 44 (d := d_row_less) rfl
  exact kn_ofL (N := n_row_less) (ps := ["field", "one", "other"]) F ⟨rfl, rfl, rfl, by decide +kernel, rfl, by decide +kernel, by decide +kernel⟩ rfl (by decide +kernel) m_row_less (glo_fn X Gs e 44 (d := d_row_less) rfl) (F.bindsN fun _ _ _ _ _ _ us hl => match us, hl with | [_, _, _], _ => rfl) (wd_of X Gs (bb e).1) (all_cons ((kn_nought X Gs c e).mono (by decide)) (all_cons ((kn_less X Gs c e).mono (by decide)) (all_cons ((kn_cut X Gs c e).mono (by decide)) all_nil)))
theorem kn_row_divided (X : K.In h) (Gs : h.Ns mainGlobals mg) (c : He.SaysD [] fn K) (e : exAll K = true) : Kn P w K mg base 4 "row_divided" (F_row_divided g0) := by
  obtain ⟨fd, F⟩ := c.def_ 45 (d := d_row_divided) rfl
  exact kn_ofL (N := n_row_divided) (ps := ["field", "one", "other"]) F ⟨rfl, rfl, rfl, by decide +kernel, rfl, by decide +kernel, by decide +kernel⟩ rfl (by decide +kernel) m_row_divided (glo_fn X Gs e 45 (d := d_row_divided) rfl) (F.bindsN fun _ _ _ _ _ _ us hl => match us, hl with | [_, _, _], _ => rfl) (wd_of X Gs (bb e).1) (all_cons ((kn_inverse_of X Gs c e).mono (by decide)) (all_cons ((kn_nought X Gs c e).mono (by decide)) (all_cons ((kn_product_of X Gs c e).mono (by decide)) (all_cons ((kn_row_times X Gs c e).mono (by decide)) (all_cons ((kn_row_less X Gs c e).mono (by decide)) (all_cons ((kn_cut X Gs c e).mono (by decide)) all_nil))))))
theorem kn_divided_by (X : K.In h) (Gs : h.Ns mainGlobals mg) (c : He.SaysD [] fn K) (e : exAll K = true) : Kn P w K mg base 8 "divided_by" (F_divided_by g0) := by
  obtain ⟨fd, F⟩ := c.def_ 46 (d := d_divided_by) rfl
  exact kn_ofL (N := n_divided_by) (ps := ["field", "one", "other"]) F ⟨rfl, rfl, rfl, by decide +kernel, rfl, by decide +kernel, by decide +kernel⟩ rfl (by decide +kernel) m_divided_by (glo_fn X Gs e 46 (d := d_divided_by) rfl) (F.bindsN fun _ _ _ _ _ _ us hl => match us, hl with | [_, _, _], _ => rfl) (wd_of X Gs (bb e).1) (all_cons ((kn_look_rows X Gs c e).mono (by decide)) (all_cons ((kn_row_divided X Gs c e).mono (by decide)) all_nil))
theorem kn_L_sum (X : K.In h) (Gs : h.Ns mainGlobals mg) (c : He.SaysD [] fn K) (e : exAll K = true) : Kn P w K mg base 2 "_law_sum" (F_L_sum g0) := by
  obtain ⟨fd, F⟩ := c.def_ 47 (d := d_L_sum) rfl
  exact kn_ofL (N := n_L_sum) (ps := ["_law_field_here", "_law_one_here", "_law_other"]) F ⟨rfl, rfl, rfl, by decide +kernel, rfl, by decide +kernel, by decide +kernel⟩ rfl (by decide +kernel) m_L_sum (glo_fn X Gs e 47 (d := d_L_sum) rfl) (F.bindsN fun _ _ _ _ _ _ us hl => match us, hl with | [_, _, _], _ => rfl) (wd_of X Gs (bb e).1) (all_cons ((kn_L_nought X Gs c e).mono (by decide)) (all_cons ((kn_L_plus X Gs c e).mono (by decide)) all_nil))
theorem kn_monic (X : K.In h) (Gs : h.Ns mainGlobals mg) (c : He.SaysD [] fn K) (e : exAll K = true) : Kn P w K mg base 4 "monic" (F_monic g0) := by
  obtain ⟨fd, F⟩ := c.def_ 48 (d := d_monic) rfl
  exact kn_ofL (N := n_monic) (ps := ["field", "row"]) F ⟨rfl, rfl, rfl, by decide +kernel, rfl, by decide +kernel, by decide +kernel⟩ rfl (by decide +kernel) m_monic (glo_fn X Gs e 48 (d := d_monic) rfl) (F.bindsN fun _ _ _ _ _ _ us hl => match us, hl with | [_, _], _ => rfl) (wd_of X Gs (bb e).1) (all_cons ((kn_inverse_of X Gs c e).mono (by decide)) (all_cons ((kn_product_of X Gs c e).mono (by decide)) all_nil))
theorem kn_row_common (X : K.In h) (Gs : h.Ns mainGlobals mg) (c : He.SaysD [] fn K) (e : exAll K = true) : Kn P w K mg base 5 "row_common" (F_row_common g0) := by
  obtain ⟨fd, F⟩ := c.def_ 49 (d := d_row_common) rfl
  exact kn_ofL (N := n_row_common) (ps := ["field", "one", "other"]) F ⟨rfl, rfl, rfl, by decide +kernel, rfl, by decide +kernel, by decide +kernel⟩ rfl (by decide +kernel) m_row_common (glo_fn X Gs e 49 (d := d_row_common) rfl) (F.bindsN fun _ _ _ _ _ _ us hl => match us, hl with | [_, _, _], _ => rfl) (wd_of X Gs (bb e).1) (all_cons ((kn_row_divided X Gs c e).mono (by decide)) (all_cons ((kn_monic X Gs c e).mono (by decide)) all_nil))
theorem kn_common_row (X : K.In h) (Gs : h.Ns mainGlobals mg) (c : He.SaysD [] fn K) (e : exAll K = true) : Kn P w K mg base 8 "common_row" (F_common_row g0) := by
  obtain ⟨fd, F⟩ := c.def_ 50 (d := d_common_row) rfl
  exact kn_ofL (N := n_common_row) (ps := ["field", "one", "other"]) F ⟨rfl, rfl, rfl, by decide +kernel, rfl, by decide +kernel, by decide +kernel⟩ rfl (by decide +kernel) m_common_row (glo_fn X Gs e 50 (d := d_common_row) rfl) (F.bindsN fun _ _ _ _ _ _ us hl => match us, hl with | [_, _, _], _ => rfl) (wd_of X Gs (bb e).1) (all_cons ((kn_look_rows X Gs c e).mono (by decide)) (all_cons ((kn_row_common X Gs c e).mono (by decide)) all_nil))
theorem kn_law (X : K.In h) (Gs : h.Ns mainGlobals mg) (c : He.SaysD [] fn K) (e : exAll K = true) : Kn P w K mg base 9 "law" (F_law g0) := by
  obtain ⟨fd, F⟩ := c.def_ 51 (d := d_law) rfl
  exact kn_ofL (N := n_law) (ps := ["_law_script"]) F ⟨rfl, rfl, rfl, by decide +kernel, rfl, by decide +kernel, by decide +kernel⟩ rfl (by decide +kernel) m_law (glo_fn X Gs e 51 (d := d_law) rfl) (F.bindsN fun _ _ _ _ _ _ us hl => match us, hl with | [_], _ => rfl) (wd_of X Gs (bb e).1) (all_cons ((kn_L_field X Gs c e).mono (by decide)) (all_cons ((kn_L_row X Gs c e).mono (by decide)) (all_cons ((kn_L_cell X Gs c e).mono (by decide)) (all_cons ((kn_L_number X Gs c e).mono (by decide)) (all_cons ((kn_value X Gs c e).mono (by decide)) (all_cons ((kn_L_at X Gs c e).mono (by decide)) (all_cons ((kn_multiplied X Gs c e).mono (by decide)) (all_cons ((kn_L_multiplied X Gs c e).mono (by decide)) (all_cons ((kn_divided_by X Gs c e).mono (by decide)) (all_cons ((kn_L_sum X Gs c e).mono (by decide)) (all_cons ((kn_common_row X Gs c e).mono (by decide)) (all_cons ((kn_L_one X Gs c e).mono (by decide)) all_nil))))))))))))
end
abbrev R : PySem.W.OpenRow := PySem.W.OpenLaw.row PySem.Challenge.rw_fieldsteps_k09_rows
abbrev hk : PySem.W.Hook := hookV 4 fn exAll
def ob (s : PySem.W.SharedT) : AlV := obsV 4 fn exAll (HandSHeadRun.getT s)
theorem ob_eq (s : PySem.W.SharedT) : ob s = hk.obs s.abs := obsV_eq (HandSHeadRun.getT_eq s)
def loose : List Str := [.ofString "FieldError", .ofString "BadField", .ofString "BadNumber", .ofString "Zero", .ofString "BadRow", .ofString "PRIMES", .ofString "MOST_NUMBERS", .ofString "MOST_FIGURES", .ofString "MOST_ROW", .ofString "is_within", .ofString "is_prime", .ofString "are_figures", .ofString "times_as", .ofString "full", .ofString "divided", .ofString "rows_of", .ofString "first_part", .ofString "any_left", .ofString "is_whole", .ofString "is_field", .ofString "checked", .ofString "size_of", .ofString "is_number", .ofString "look_numbers", .ofString "nought", .ofString "whole", .ofString "sum_of", .ofString "less", .ofString "product_of", .ofString "power_of", .ofString "inverse_of", .ofString "is_row", .ofString "look_rows", .ofString "cut", .ofString "value_of", .ofString "row_times", .ofString "row_less", .ofString "row_divided", .ofString "monic", .ofString "row_common", .ofString "value", .ofString "multiplied", .ofString "divided_by", .ofString "common_row", .ofString "_law_cell", .ofString "_law_mix", .ofString "_law_rows", .ofString "_law_product", .ofString "_law_is_rule", .ofString "_law_field", .ofString "_law_number", .ofString "_law_plus", .ofString "_law_step", .ofString "_law_times", .ofString "_law_one", .ofString "_law_nought", .ofString "_law_at", .ofString "_law_row", .ofString "_law_multiplied", .ofString "_law_sum"]
theorem run (w : World) : HandSHeadRun.RunEq R (PySem.W.view R.prog [66]) hk ob 4000 loose w := by
  intro os
  kernel_rfl
theorem ff (w : World) (mg : Str → Option Value) (fa : Addr) (h : Heap) (Y : ∃ K : PySem.W.Frag, K.In h ∧ He.SaysD [] fn K ∧ exAll K = true) (Gs : h.Ns mainGlobals mg) (hmg : mg "law" = some (.ref fa)) :
    ∃ (K : PySem.W.Frag) (fd : FuncData), K.In h ∧ (∀ (s : Shared) (u : Value), BindsTo s fd ⟨[u], []⟩ [("_law_script", u)]) ∧
      ∀ base : Heap, K.In base → base.Ns mainGlobals mg → FnOk PySem.Challenge.pw_fieldsteps_k09_rows w K mg base (L2.CX PySem.Challenge.pw_fieldsteps_k09_rows w) 9 fa fd ["_law_script"] (spF K (F_law g0)) := by
  obtain ⟨K, KX, c, e⟩ := Y
  obtain ⟨fd, F⟩ := c.def_ 51 (d := d_law) rfl
  have e1 := hmg.symm.trans (glo_fn KX Gs e 51 (d := d_law) rfl)
  cases e1
  refine ⟨K, fd, KX, fun s v => (FunD.bindsA (ps := ["_law_script"]) F fun _ _ _ _ _ _ us hl => match us, hl with | [_], _ => rfl) s [v] rfl, fun base _ _ => ?_⟩
  exact fn_ofL (N := n_law) F ⟨rfl, rfl, rfl, by decide +kernel, rfl, by decide +kernel, by decide +kernel⟩ rfl (by decide +kernel) m_law (wd_of KX Gs (bb e).1) (all_cons ((kn_L_field KX Gs c e).mono (by decide)) (all_cons ((kn_L_row KX Gs c e).mono (by decide)) (all_cons ((kn_L_cell KX Gs c e).mono (by decide)) (all_cons ((kn_L_number KX Gs c e).mono (by decide)) (all_cons ((kn_value KX Gs c e).mono (by decide)) (all_cons ((kn_L_at KX Gs c e).mono (by decide)) (all_cons ((kn_multiplied KX Gs c e).mono (by decide)) (all_cons ((kn_L_multiplied KX Gs c e).mono (by decide)) (all_cons ((kn_divided_by KX Gs c e).mono (by decide)) (all_cons ((kn_L_sum KX Gs c e).mono (by decide)) (all_cons ((kn_common_row KX Gs c e).mono (by decide)) (all_cons ((kn_L_one KX Gs c e).mono (by decide)) all_nil))))))))))))
end Vi
open PySem PySem.W PySem.Calls PyProof.Rows
theorem PySem.Challenge.cw_fieldsteps_k09_rows_holds : PySem.Challenge.rw_fieldsteps_k09_rows.Holds := by
  w_on; o_law
  refine HandSHeadRun.head_any (r := OpenLaw.row PySem.Challenge.rw_fieldsteps_k09_rows) (q := view (OpenLaw.row PySem.Challenge.rw_fieldsteps_k09_rows).prog [66]) (H := Vi.hk) (ob := Vi.ob) (M := 4000) (loose := Vi.loose) (d := HandSHeadRun.topDef (OpenLaw.row PySem.Challenge.rw_fieldsteps_k09_rows).prog 66) (kwd := []) Vi.ob_eq
    (by kernel_rfl) (fun s => by kernel_rfl) Vi.run (by kernel_rfl) (by kernel_rfl) (by kernel_rfl) (by rfl) (by first | assumption | decide +kernel) (by decide +kernel) ⟨rfl, rfl, rfl, rfl, rfl, by decide +kernel⟩ ?hw ?hc
  case hw => w_witness2
  case hc =>
    refine Vi.walk_V (l := PySem.Challenge.rw_fieldsteps_k09_rows) (n := 63) (k := 9) (x := "_law_script") (F := Vi.F_law Vi.g0) rfl (by decide) (by kernel_rfl) ⟨rfl, by decide, by decide⟩ ?F Vi.law_plain
    intro w mg fa h Y G hmg0
    have hmg : mg ("law" : PySem.Str) = some (.ref fa) := by
      have e : (HandSHeadRun.topDef (OpenLaw.row PySem.Challenge.rw_fieldsteps_k09_rows).prog 66).name = ("law" : PySem.Str) := by kernel_rfl
      rw [← e]
      exact hmg0
    exact Vi.ff w mg fa h Y G hmg
