import PyProof.Rows.All
import HandS.ForMost
import HandS.ForExc
import HandS.Wide
import HandS.TupAny
import HandS.Deep
import HandS.IsInst
import HandS.CallSlots
import HandS.More
import HandS.Text
import HandS.SetFor
import HandS.Iter
import HandS.Zip
import HandS.Comp
import HandS.Strs
import PySem.Challenge.RW_slideback_k04_decks_told_otherwise
set_option Elab.async false
set_option linter.all false
set_option maxRecDepth 100000
set_option autoImplicit false
namespace PI
open PySem

inductive D where
  | non | bl (b : Bool) | int (i : Int) | str (x : Str)
  | tup (ds : List D) | lst (ds : List D) | scr (ds : List D) | ref (r : Nat) | dic0 | exc (c : String) (fs : List D)
inductive Sl where
  | no | val (d : D) | own (ds : List D)
inductive Cell where
  | lst (ds : List D) | ins (c : String) (fs : List (String × D))
inductive R where
  | d (x : D) | brw (i : Nat) | tmp (ds : List D)
structure Exn where
  cls : String
  fs : List D
abbrev PEnv := List Sl
abbrev PSto := List Cell

inductive BOp where
  | add | sub | mul | fdiv | mod | pow
  deriving DecidableEq
inductive COp where
  | eq | ne | lt | le | gt | ge | isin | notin | isn | notn
  deriving DecidableEq
inductive Bi where
  | len | abs | max2 | min2 | max1 | min1 | sum | any | all | int1 | str1 | list1 | tuple1 | sorted1 | lenset | repr | divmod
  deriving DecidableEq
inductive Me where
  | append | pop0 | pop1 | insert | clear | reverse | extend | index | count | join | split
  deriving DecidableEq
inductive Ty where
  | b (n : String) | own (c : String)
  deriving DecidableEq
inductive Tg where
  | name (i : Nat) | tup (is : List Nat)
  deriving DecidableEq

mutual
inductive E where
  | slot (i : Nat)
  | const (d : D)
  | bin (o : BOp) (a b : E)
  | neg (a : E)
  | cmp (o : COp) (a b : E)
  | chain (o o2 : COp) (a b c : E)
  | andv (a b : E)
  | orv (a b : E)
  | notv (a : E)
  | ite (c a b : E)
  | tup (es : Es)
  | lst (es : Es)
  | idx (a b : E)
  | slc (a : E) (lo hi : Eo)
  | comp (elt : E) (m : Bool) (tg : Tg) (src : Src) (ifs : Eo) (own : List Nat)
  | call (f : String) (es : Es)
  | bi (b : Bi) (es : Es)
  | me (m : Me) (o : E) (es : Es)
  | isi (a : E) (cs : List Ty)
inductive Es where
  | nil
  | cons (m : Bool) (e : E) (es : Es)
inductive Eo where
  | none
  | some (e : E)
inductive Src where
  | val (e : E)
  | rng1 (a : E)
  | rng2 (a b : E)
  | rng3 (a b c : E)
  | enum (a : E)
  | zip (a b : E)
end
mutual
inductive S where
  | asg (tg : Tg) (e : E)
  | aug (i : Nat) (o : BOp) (e : E)
  | sub (o i e : E) (m : Bool)
  | expr (e : E)
  | ret (e : E)
  | retn
  | iff (c : E) (a b : Ss)
  | whl (c : E) (b : Ss)
  | forr (tg : Tg) (src : Src) (b : Ss)
  | raise (c : String)
  | pass
  | brk
  | cnt
  | cell (i : Nat)
inductive Ss where
  | nil
  | cons (s : S) (ss : Ss)
end
/-- a def: its number of parameters, its number of slots, its body -/
structure FDef where
  np : Nat
  ns : Nat
  body : Ss

/-! ### values read -/
def oq {α : Type} (o : Option α) (Q : α → Prop) : Prop := match o with
  | some d => Q d
  | none => False
def refD (st : PSto) (r : Nat) : Option D := match st[r]? with
  | some (.lst ds) => some (.lst ds)
  | some (.ins _ _) => some (.ref r)
  | none => none
def derefD (st : PSto) : D → Option D
  | .ref r => refD st r
  | x => some x
def deref (env : PEnv) (st : PSto) : R → Option D
  | .d x => derefD st x
  | .tmp ds => some (.lst ds)
  | .brw i => match env[i]? with
    | some (.own ds) => some (.lst ds)
    | some (.val d) => derefD st d
    | _ => none
def dr (env : PEnv) (st : PSto) (r : R) (Q : D → Prop) : Prop := oq (deref env st r) Q
/-- a value goes where others may see it: frozen, or (m) a cell -/
def esc (m : Bool) (r : R) (env : PEnv) (st : PSto) (Q : D → PEnv → PSto → Prop) : Prop := match r with
  | .d x => Q x env st
  | .tmp ds => match m with
    | false => Q (.lst ds) env st
    | true => Q (.ref st.length) env (st ++ [.lst ds])
  | .brw i => match env[i]? with
    | some (.own ds) => match m with
      | false => Q (.lst ds) (env.set i (.val (.lst ds))) st
      | true => Q (.ref st.length) (env.set i (.val (.ref st.length))) (st ++ [.lst ds])
    | some (.val d) => Q d env st
    | _ => False
def escs : List (Bool × R) → PEnv → PSto → (List D → PEnv → PSto → Prop) → Prop
  | [], env, st, Q => Q [] env st
  | (m, r) :: rs, env, st, Q => esc m r env st fun d env1 st1 => escs rs env1 st1 fun ds env2 st2 => Q (d :: ds) env2 st2

/-! ### data as PyData -/
def mapO {α β : Type} (f : α → Option β) : List α → Option (List β)
  | [] => some []
  | x :: xs => match f x with
    | some y => match mapO f xs with
      | some ys => some (y :: ys)
      | none => none
    | none => none
def D.view (st : PSto) : Nat → D → Option PyData
  | 0, _ => none
  | _ + 1, .non => some .none
  | _ + 1, .bl b => some (.bool b)
  | _ + 1, .int i => some (.int i)
  | _ + 1, .str x => some (.str x)
  | n + 1, .tup ds => (mapO (D.view st n) ds).map .tuple
  | n + 1, .lst ds => (mapO (D.view st n) ds).map .list
  | n + 1, .scr ds => (mapO (D.view st n) ds).map .list
  | n + 1, .ref r => match st[r]? with
    | some (.lst ds) => (mapO (D.view st n) ds).map .list
    | _ => none
  | _ + 1, .dic0 => none
  | _ + 1, .exc _ _ => none
/-- data at hand -/
def vw (st : PSto) (x : D) (Q : PyData → Prop) : Prop := oq (D.view st 12 x) Q

/-! ### operators by values -/
abbrev KR := R → Prop
def CMulW (i j : Int) : Prop := i.natAbs.log2 + j.natAbs.log2 < 1000000
def CDivW (j : Int) : Prop := 0 < j ∧ j.natAbs.log2 < 9000
def CPow (i j : Int) : Prop := 0 ≤ j ∧ j ≤ 1000000 ∧ i.natAbs < 2 ^ 64
def opB (o : BOp) (x y : D) (Q : KR) : Prop := match o with
  | .add => match x, y with
    | .int i, .int j => Q (.d (.int (i + j)))
    | .str a, .str b => a.length + b.length ≤ sizeLine ∧ Q (.d (.str (a ++ b)))
    | .tup a, .tup b => a.length + b.length ≤ sizeLine ∧ Q (.d (.tup (a ++ b)))
    | .lst a, .lst b => a.length + b.length ≤ sizeLine ∧ Q (.tmp (a ++ b))
    | _, _ => False
  | .sub => match x, y with
    | .int i, .int j => Q (.d (.int (i - j)))
    | _, _ => False
  | .mul => match x, y with
    | .int i, .int j => CMulW i j ∧ Q (.d (.int (i * j)))
    | .lst a, .int k => -(2 ^ 63) ≤ k ∧ k < 2 ^ 63 ∧ a.length * k.toNat ≤ sizeLine ∧ Q (.tmp (List.replicate k.toNat a).flatten)
    | _, _ => False
  | .fdiv => match x, y with
    | .int i, .int j => CDivW j ∧ Q (.d (.int (i / j)))
    | _, _ => False
  | .mod => match x, y with
    | .int i, .int j => 0 < j ∧ Q (.d (.int (i % j)))
    | _, _ => False
  | .pow => match x, y with
    | .int i, .int j => CPow i j ∧ Q (.d (.int (i ^ j.toNat)))
    | _, _ => False
/-- == by values -/
def eqV (st : PSto) (x y : D) (Q : Bool → Prop) : Prop := match x, y with
  | .int i, .int j => Q (decide (i = j))
  | .str a, .str b => Q (decide (a = b))
  | .bl a, .bl b => Q (decide (a = b))
  | .non, .non => Q true
  | x, y => vw st x fun p => vw st y fun q => SeqAt.shaped p = true ∧ SeqAt.shaped q = true ∧ Q (PyData.eqv p q)
def inV (st : PSto) (x y : D) (Q : Bool → Prop) : Prop := match x, y with
  | .str a, .str b => (∃ c, a = ⟨#[c]⟩ ∧ Q (decide (c ∈ b.cps.toList)))
  | x, .lst _ => vw st x fun p => vw st y fun q => SeqAt.shaped p = true ∧ SeqAt.shaped q = true ∧ match q with
      | .list ds => Q (ds.any fun z => PyData.eqv z p)
      | _ => False
  | x, .tup _ => vw st x fun p => vw st y fun q => SeqAt.shaped p = true ∧ SeqAt.shaped q = true ∧ match q with
      | .tuple ds => Q (ds.any fun z => PyData.eqv z p)
      | _ => False
  | _, _ => False
def cmpV (o : COp) (st : PSto) (x y : D) (Q : Bool → Prop) : Prop := match o with
  | .eq => eqV st x y Q
  | .ne => eqV st x y fun b => Q (!b)
  | .lt => match x, y with
    | .int i, .int j => Q (decide (i < j))
    | _, _ => False
  | .le => match x, y with
    | .int i, .int j => Q (decide (i ≤ j))
    | _, _ => False
  | .gt => match x, y with
    | .int i, .int j => Q (decide (j < i))
    | _, _ => False
  | .ge => match x, y with
    | .int i, .int j => Q (decide (j ≤ i))
    | _, _ => False
  | .isin => inV st x y Q
  | .notin => inV st x y fun b => Q (!b)
  | .isn => match y with
    | .non => match x with
      | .non => Q true
      | _ => Q false
    | _ => False
  | .notn => match y with
    | .non => match x with
      | .non => Q false
      | _ => Q true
    | _ => False
def idxV (x y : D) (Q : KR) : Prop := match x, y with
  | .lst ds, .int i => oq (L2.atI ds i) fun d => Q (.d d)
  | .scr ds, .int i => oq (L2.atI ds i) fun d => Q (.d d)
  | .tup ds, .int i => oq (L2.atI ds i) fun d => Q (.d d)
  | .str s, .int i => s.length ≤ sizeLine ∧ oq (L2.atI s.cps.toList i) fun c => Q (.d (.str ⟨#[c]⟩))
  | _, _ => False
def cutD (xs : List D) (lo hi : Option Int) : List D := (xs.drop (HT.sIx xs.length 0 lo)).take (HT.sIx xs.length xs.length hi - HT.sIx xs.length 0 lo)
def slcV (x : D) (lo hi : Option Int) (Q : KR) : Prop := match x with
  | .lst ds => Q (.tmp (cutD ds lo hi))
  | .scr ds => Q (.tmp (cutD ds lo hi))
  | .tup ds => Q (.d (.tup (cutD ds lo hi)))
  | .str s => s.length ≤ sizeLine ∧ Q (.d (.str (L2.cutS s lo hi)))
  | _ => False
def asInts : List D → Option (List Int)
  | [] => some []
  | .int i :: r => (asInts r).map (i :: ·)
  | _ => none
def asBls : List D → Option (List Bool)
  | [] => some []
  | .bl i :: r => (asBls r).map (i :: ·)
  | _ => none
def asStrs : List D → Option (List Str)
  | [] => some []
  | .str i :: r => (asStrs r).map (i :: ·)
  | _ => none
/-- the texts, each once -/
def stepS (a : List Str) (x : Str) : List Str := if a.any (· == x) then a else a ++ [x]
def dedS (xs : List Str) : List Str := xs.foldl stepS []
def seqD : PyData → Prop
  | .list _ => True
  | .tuple _ => True
  | _ => False
/-- a built-in function, of read values -/
def biV (b : Bi) (st : PSto) (xs : List D) (Q : KR) : Prop := match b, xs with
  | .len, [.lst ds] => Q (.d (.int ds.length))
  | .len, [.scr ds] => Q (.d (.int ds.length))
  | .len, [.tup ds] => Q (.d (.int ds.length))
  | .len, [.str s] => s.length ≤ sizeLine ∧ Q (.d (.int s.length))
  | .abs, [.int i] => Q (.d (.int (if i < 0 then -i else i)))
  | .max2, [.int i, .int j] => Q (.d (.int (max i j)))
  | .min2, [.int i, .int j] => Q (.d (.int (min i j)))
  | .max1, [.lst ds] => oq (asInts ds) fun ns => 0 < ns.length ∧ ∀ m, m ∈ ns → (∀ y, y ∈ ns → y ≤ m) → Q (.d (.int m))
  | .min1, [.lst ds] => oq (asInts ds) fun ns => 0 < ns.length ∧ ∀ m, m ∈ ns → (∀ y, y ∈ ns → m ≤ y) → Q (.d (.int m))
  | .sum, [.lst ds] => oq (asInts ds) fun ns => Q (.d (.int ns.sum))
  | .any, [.lst ds] => oq (asBls ds) fun ns => Q (.d (.bl (ns.any id)))
  | .all, [.lst ds] => oq (asBls ds) fun ns => Q (.d (.bl (ns.all id)))
  | .int1, [.int i] => Q (.d (.int i))
  | .int1, [.bl k] => Q (.d (.int (if k then 1 else 0)))
  | .list1, [.lst ds] => Q (.tmp ds)
  | .list1, [.tup ds] => Q (.tmp ds)
  | .list1, [.scr ds] => Q (.tmp ds)
  | .tuple1, [.lst ds] => Q (.d (.tup ds))
  | .tuple1, [.tup ds] => Q (.d (.tup ds))
  | .lenset, [.lst ds] => oq (asStrs ds) fun ns => ns.length ≤ 4000 ∧ Q (.d (.int ((dedS ns).length : Nat)))
  | .repr, [x] => vw st x fun p => seqD p ∧ p.showable = true ∧ p.depth ≤ 12 ∧ p.shown.length ≤ sizeLine ∧ Q (.d (.str p.shown))
  | _, _ => False
def drs (env : PEnv) (st : PSto) : List (Bool × R) → (List D → Prop) → Prop
  | [], Q => Q []
  | (_, r) :: rs, Q => dr env st r fun d => drs env st rs fun ds => Q (d :: ds)
/-- the list that a method changes -/
def modL (r : R) (env : PEnv) (st : PSto) (F : List D → (List D → R → Prop) → Prop) (Q : R → PEnv → PSto → Prop) : Prop := match r with
  | .d (.ref k) => match st[k]? with
    | some (.lst ds) => F ds fun ds' r => Q r env (st.set k (.lst ds'))
    | _ => False
  | .brw i => match env[i]? with
    | some (.own ds) => F ds fun ds' r => Q r (env.set i (.own ds')) st
    | _ => False
  | _ => False
/-- whose method it is -/
def meT (m : Me) (x : D) : Prop := match x with
  | .lst _ => m ≠ .join ∧ m ≠ .split
  | .str _ => m = .join ∨ m = .split
  | _ => False
def ixOf (x y : D) (Q : Nat → Prop) : Prop := match x, y with
  | .lst ds, .str s => oq (asStrs ds) fun ys => ∃ j : Nat, ys[j]? = some s ∧ (∀ m, m < j → ys[m]? ≠ some s) ∧ Q j
  | .lst ds, .int s => oq (asInts ds) fun ys => ∃ j : Nat, ys[j]? = some s ∧ (∀ m, m < j → ys[m]? ≠ some s) ∧ Q j
  | _, _ => False
def cntOf (x y : D) (Q : Nat → Prop) : Prop := match x, y with
  | .lst ds, .int s => oq (asInts ds) fun ys => Q (ys.count s)
  | _, _ => False
def meV (m : Me) (o : R) (args : List (Bool × R)) (env : PEnv) (st : PSto) (Q : R → PEnv → PSto → Prop) : Prop := match m, args with
  | .append, [(b, r)] => esc b r env st fun d env st => modL o env st (fun ds K => ds.length < sizeLine ∧ K (ds ++ [d]) (.d .non)) Q
  | .pop0, [] => modL o env st (fun ds K => oq ds.getLast? fun d => K ds.dropLast (.d d)) Q
  | .pop1, [(_, r)] => dr env st r fun x => match x with
    | .int i => (-(2 ^ 63) ≤ i ∧ i < 2 ^ 63) ∧ modL o env st (fun ds K => oq (L2.ixN ds.length i) fun k => oq ds[k]? fun d => K (ds.eraseIdx k) (.d d)) Q
    | _ => False
  | .insert, [(_, i), (b, r)] => dr env st i fun x => match x with
    | .int i => esc b r env st fun d env st => modL o env st (fun ds K => ds.length < sizeLine ∧ 0 ≤ i ∧ i < 2 ^ 63 ∧ K (ds.take i.toNat ++ d :: ds.drop i.toNat) (.d .non)) Q
    | _ => False
  | .clear, [] => modL o env st (fun _ K => K [] (.d .non)) Q
  | .reverse, [] => modL o env st (fun ds K => K ds.reverse (.d .non)) Q
  | .join, [(_, r)] => dr env st o fun s => dr env st r fun x => match s, x with
    | .str s, .lst ds => oq (asStrs ds) fun ys => (ys.map (·.length)).sum + ys.length * s.length ≤ 16777216 ∧ Q (.d (.str (Txt.join s ys))) env st
    | _, _ => False
  | .index, [(_, r)] => dr env st o fun x => dr env st r fun y => ixOf x y fun j => Q (.d (.int (j : Nat))) env st
  | .count, [(_, r)] => dr env st o fun x => dr env st r fun y => cntOf x y fun j => Q (.d (.int (j : Nat))) env st
  | _, _ => False
/-- isinstance, by the classes told; sub: the own classes' -/
def tyN : D → Option String
  | .non => some "NoneType"
  | .bl _ => some "bool"
  | .int _ => some "int"
  | .str _ => some "str"
  | .tup _ => some "tuple"
  | .lst _ => some "list"
  | .scr _ => some "list"
  | .dic0 => some "dict"
  | .exc _ _ => none
  | .ref _ => none
def isTy (sub : String → String → Bool) (st : PSto) (x : D) : Ty → Option Bool
  | .b n => (tyN x).map fun a => a == n || (a == "bool" && n == "int")
  | .own c => match x with
    | .exc d _ => some (sub d c)
    | _ => none
def isTys (sub : String → String → Bool) (st : PSto) (x : D) : List Ty → Option Bool
  | [] => some false
  | t :: ts => match isTy sub st x t, isTys sub st x ts with
    | some a, some b => some (a || b)
    | _, _ => none

/-! ### targets, environments -/
def asgN (is : List Nat) (ds : List D) (env : PEnv) (Q : PEnv → Prop) : Prop := match is, ds with
  | [], [] => Q env
  | i :: is, d :: ds => asgN is ds (env.set i (.val d)) Q
  | _, _ => False
/-- an item goes to a target -/
def asgT (tg : Tg) (x : D) (env : PEnv) (Q : PEnv → Prop) : Prop := match tg with
  | .name i => Q (env.set i (.val x))
  | .tup is => match x with
    | .tup ds => asgN is ds env Q
    | _ => False
/-- a value goes to a target -/
def asgR (tg : Tg) (r : R) (env : PEnv) (st : PSto) (Q : PEnv → PSto → Prop) : Prop := match tg with
  | .name i => match r with
    | .d x => Q (env.set i (.val x)) st
    | .tmp ds => Q (env.set i (.own ds)) st
    | .brw j => esc false (.brw j) env st fun d env st => Q (env.set i (.val d)) st
  | .tup is => dr env st r fun x => match x with
    | .tup ds => asgN is ds env fun env => Q env st
    | _ => False
def wipeE (env : PEnv) : List Nat → PEnv
  | [] => env
  | v :: vs => (wipeE env vs).set v .no
/-- env' but for the slots told, which are env's -/
def backE (env env' : PEnv) : List Nat → PEnv
  | [] => env'
  | v :: vs => (backE env env' vs).set v (env.getD v .no)

/-! ### the meaning -/
abbrev QE := R → PEnv → PSto → Prop
abbrev QX := Exn → PEnv → PSto → Prop
/-- calls: the name, the arguments, the cells; what is wanted of the answer, of an exception -/
abbrev CallT := String → List D → PSto → (R → PSto → Prop) → (Exn → PSto → Prop) → Prop
structure Tab where
  fn : String → Option FDef
  sub : String → String → Bool

def compLoop (tg : Tg) (own : List Nat) (m : Bool) (elt : PEnv → PSto → QE → Prop) (tst : PEnv → PSto → (Bool → PEnv → PSto → Prop) → Prop) (chk : PSto → Prop) (Q : QE) : List D → List D → PEnv → PSto → Prop
  | [], acc, env, st => chk st ∧ Q (.tmp acc) env st
  | x :: xs, acc, env, st => chk st ∧ asgT tg x (wipeE env own) fun env1 => tst env1 st fun b env2 st2 => match b with
    | true => elt env2 st2 fun r env3 st3 => esc m r env3 st3 fun d env4 st4 => acc.length < sizeLine ∧ compLoop tg own m elt tst chk Q xs (acc ++ [d]) (backE env env4 own) st4
    | false => compLoop tg own m elt tst chk Q xs acc (backE env env2 own) st2
/-- what a loop walks: read once (and frozen); a cell is asked to stay -/
def srcL (r : R) (env : PEnv) (st : PSto) (Q : List D → (PSto → Prop) → PEnv → PSto → Prop) : Prop := match r with
  | .d (.ref k) => match st[k]? with
    | some (.lst ds) => Q ds (fun st' => ∃ c, st'[k]? = some (.lst c) ∧ c = ds) env st
    | _ => False
  | .d (.scr ds) => Q ds (fun _ => True) env st
  | r => esc false r env st fun d env st => match d with
    | .lst ds => Q ds (fun _ => True) env st
    | .tup ds => Q ds (fun _ => True) env st
    | _ => False
def isStr (r : R) (env : PEnv) (st : PSto) : Option Str := match deref env st r with
  | some (.str s) => some s
  | _ => none
def isLst (r : R) (env : PEnv) (st : PSto) : Prop := match deref env st r with
  | some (.lst _) => True
  | some (.scr _) => True
  | _ => False
def isTup (r : R) (env : PEnv) (st : PSto) : Prop := match deref env st r with
  | some (.tup _) => True
  | _ => False
def strSigns (s : Str) : List D := s.cps.toList.map fun c => .str ⟨#[c]⟩
def rngL (lo : Int) (n : Nat) : List D := (List.range n).map fun (k : Nat) => .int (lo + k)
def enumL (ds : List D) : List D := (List.range ds.length).zipWith (fun (k : Nat) d => .tup [.int k, d]) ds
def zipL (xs ys : List D) : List D := xs.zipWith (fun x y => .tup [x, y]) ys
def small62 (i : Int) : Prop := -(2 ^ 62) ≤ i ∧ i < 2 ^ 62
abbrev QS := List D → (PSto → Prop) → PEnv → PSto → Prop
section
variable (T : Tab) (CALL : CallT)
mutual
def wpE : QX → E → PEnv → PSto → QE → Prop
  | X, .slot i, env, st, Q => match env[i]? with
    | some (.val d) => Q (.d d) env st
    | some (.own _) => Q (.brw i) env st
    | _ => False
  | X, .const d, env, st, Q => Q (.d d) env st
  | X, .bin o a b, env, st, Q => wpE X a env st fun x env st => wpE X b env st fun y env st => dr env st x fun x => dr env st y fun y => opB o x y fun r => Q r env st
  | X, .neg a, env, st, Q => wpE X a env st fun x env st => dr env st x fun x => match x with
    | .int i => Q (.d (.int (-i))) env st
    | _ => False
  | X, .cmp o a b, env, st, Q => wpE X a env st fun x env st => wpE X b env st fun y env st => dr env st x fun x => dr env st y fun y => cmpV o st x y fun b => Q (.d (.bl b)) env st
  | X, .chain o o2 a b c, env, st, Q => wpE X a env st fun x env st => wpE X b env st fun y env st => dr env st x fun x' => dr env st y fun y' => cmpV o st x' y' fun k => match k with
    | true => wpE X c env st fun z env st => dr env st y fun y => dr env st z fun z => cmpV o2 st y z fun b => Q (.d (.bl b)) env st
    | false => Q (.d (.bl false)) env st
  | X, .andv a b, env, st, Q => wpE X a env st fun x env st => match x with
    | .d (.bl true) => wpE X b env st Q
    | .d (.bl false) => Q (.d (.bl false)) env st
    | _ => False
  | X, .orv a b, env, st, Q => wpE X a env st fun x env st => match x with
    | .d (.bl true) => Q (.d (.bl true)) env st
    | .d (.bl false) => wpE X b env st Q
    | _ => False
  | X, .notv a, env, st, Q => wpE X a env st fun x env st => match x with
    | .d (.bl b) => Q (.d (.bl (!b))) env st
    | _ => False
  | X, .ite c a b, env, st, Q => wpE X c env st fun x env st => match x with
    | .d (.bl true) => wpE X a env st Q
    | .d (.bl false) => wpE X b env st Q
    | _ => False
  | X, .tup es, env, st, Q => wpEs X es env st fun rs env st => escs rs env st fun ds env st => ds.length ≤ sizeLine ∧ Q (.d (.tup ds)) env st
  | X, .lst es, env, st, Q => wpEs X es env st fun rs env st => escs rs env st fun ds env st => ds.length ≤ sizeLine ∧ Q (.tmp ds) env st
  | X, .idx a b, env, st, Q => wpE X a env st fun x env st => wpE X b env st fun y env st => dr env st x fun x => dr env st y fun y => idxV x y fun r => Q r env st
  | X, .slc a lo hi, env, st, Q => wpE X a env st fun x env st => wpO X lo env st fun lo env st => wpO X hi env st fun hi env st => dr env st x fun x => slcV x lo hi fun r => Q r env st
  | X, .comp elt m tg src ifs own, env, st, Q => wpSrc X src env st fun ds chk env st => compLoop tg own m (wpE (fun _ _ _ => False) elt) (wpT (fun _ _ _ => False) ifs) chk Q ds [] env st
  | X, .call f es, env, st, Q => wpEs X es env st fun rs env st => escs rs env st fun ds env st => CALL f ds st (fun r st => Q r env st) (fun e st => X e env st)
  | X, .bi b es, env, st, Q => wpEs X es env st fun rs env st => drs env st rs fun xs => biV b st xs fun r => Q r env st
  | X, .me m o es, env, st, Q => wpE X o env st fun o env st => dr env st o fun x => meT m x ∧ wpEs X es env st fun rs env st => meV m o rs env st Q
  | X, .isi a cs, env, st, Q => wpE X a env st fun x env st => dr env st x fun x => oq (isTys T.sub st x cs) fun b => Q (.d (.bl b)) env st
def wpEs : QX → Es → PEnv → PSto → (List (Bool × R) → PEnv → PSto → Prop) → Prop
  | X, .nil, env, st, Q => Q [] env st
  | X, .cons m e es, env, st, Q => wpE X e env st fun r env st => wpEs X es env st fun rs env st => Q ((m, r) :: rs) env st
def wpO : QX → Eo → PEnv → PSto → (Option Int → PEnv → PSto → Prop) → Prop
  | X, .none, env, st, Q => Q Option.none env st
  | X, .some e, env, st, Q => wpE X e env st fun r env st => dr env st r fun x => match x with
    | .int i => Q (Option.some i) env st
    | _ => False
def wpT : QX → Eo → PEnv → PSto → (Bool → PEnv → PSto → Prop) → Prop
  | X, .none, env, st, Q => Q true env st
  | X, .some e, env, st, Q => wpE X e env st fun r env st => match r with
    | .d (.bl b) => Q b env st
    | _ => False
def wpSrc : QX → Src → PEnv → PSto → QS → Prop
  | X, .val e, env, st, Q => wpE X e env st fun r env st => match isStr r env st with
    | some s => Q (strSigns s) (fun _ => True) env st
    | none => srcL r env st Q
  | X, .rng1 a, env, st, Q => wpE X a env st fun r env st => dr env st r fun x => match x with
    | .int j => small62 j ∧ Q (rngL 0 j.toNat) (fun _ => True) env st
    | _ => False
  | X, .rng2 a b, env, st, Q => wpE X a env st fun r env st => wpE X b env st fun r2 env st => dr env st r fun x => dr env st r2 fun y => match x, y with
    | .int i, .int j => small62 i ∧ small62 j ∧ Q (rngL i (j - i).toNat) (fun _ => True) env st
    | _, _ => False
  | X, .rng3 a b c, env, st, Q => wpE X a env st fun r env st => wpE X b env st fun r2 env st => wpE X c env st fun r3 env st => dr env st r fun x => dr env st r2 fun y => dr env st r3 fun z => match x, y, z with
    | .int i, .int j, .int c => small62 i ∧ small62 j ∧ c = -1 ∧ Q ((List.range (i - j).toNat).map fun (k : Nat) => .int (i - k)) (fun _ => True) env st
    | _, _, _ => False
  | X, .enum a, env, st, Q => wpE X a env st fun r env st => isLst r env st ∧ srcL r env st fun ds chk env st => Q (enumL ds) chk env st
  | X, .zip a b, env, st, Q => wpE X a env st fun r env st => wpE X b env st fun r2 env st =>
    (isLst r env st ∧ srcL r env st fun ds chk env st => isLst r2 env st ∧ srcL r2 env st fun ds2 chk2 env st => chk st ∧ Q (zipL ds ds2) (fun st => chk st ∧ chk2 st) env st) ∨
    (isTup r env st ∧ srcL r env st fun ds _ env st => isTup r2 env st ∧ srcL r2 env st fun ds2 _ env st => Q (zipL ds ds2) (fun _ => True) env st)
end
end
/-- what is wanted behind a statement -/
structure Ends where
  nx : PEnv → PSto → Prop
  rt : R → PEnv → PSto → Prop
  bk : PEnv → PSto → Prop
  ct : PEnv → PSto → Prop
def forLoop (tg : Tg) (body : Ends → PEnv → PSto → Prop) (chk : PSto → Prop) (Dn : Ends) : List D → PEnv → PSto → Prop
  | [], env, st => chk st ∧ Dn.nx env st
  | x :: xs, env, st => chk st ∧ asgT tg x env fun env => body { nx := forLoop tg body chk Dn xs, rt := Dn.rt, bk := Dn.nx, ct := forLoop tg body chk Dn xs } env st
def whlLoop (c : PEnv → PSto → (Bool → PEnv → PSto → Prop) → Prop) (body : Ends → PEnv → PSto → Prop) (Dn : Ends) (env : PEnv) (st : PSto) : Prop :=
  ∃ W : Nat → PEnv → PSto → Prop, (∃ m, W m env st) ∧ ∀ m env st, W m env st → c env st fun b env st => match b with
    | true => body { nx := fun env st => ∃ m', m' < m ∧ W m' env st, rt := Dn.rt, bk := Dn.nx, ct := fun env st => ∃ m', m' < m ∧ W m' env st } env st
    | false => Dn.nx env st
/-- i op= j -/
def augI (o : BOp) (i j : Int) (Q : Int → Prop) : Prop := match o with
  | .add => Q (i + j)
  | .sub => Q (i - j)
  | .mul => CMulW i j ∧ Q (i * j)
  | _ => False
def setV (o i : D) (d : D) (r : R) (env : PEnv) (st : PSto) (Q : PEnv → PSto → Prop) : Prop := match i with
  | .int i => modL r env st (fun ds K => oq (L2.ixN ds.length i) fun k => K (ds.set k d) (.d .non)) fun _ env st => Q env st
  | _ => False
section
variable (T : Tab) (CALL : CallT)
mutual
def wpS : S → QX → Ends → PEnv → PSto → Prop
  | .asg tg e, X, Dn, env, st => wpE T CALL X e env st fun r env st => asgR tg r env st Dn.nx
  | .aug i o e, X, Dn, env, st => match env[i]? with
    | some (.val (.int x)) => wpE T CALL X e env st fun r env st => dr env st r fun y => match y with
      | .int y => augI o x y fun z => Dn.nx (env.set i (.val (.int z))) st
      | _ => False
    | _ => False
  | .sub o i e m, X, Dn, env, st => wpE T CALL X e env st fun r env st => wpE T CALL X o env st fun ro env st => wpE T CALL X i env st fun ri env st =>
      dr env st ri fun i => esc m r env st fun d env st => setV .non i d ro env st Dn.nx
  | .expr e, X, Dn, env, st => wpE T CALL X e env st fun _ env st => Dn.nx env st
  | .ret e, X, Dn, env, st => wpE T CALL X e env st Dn.rt
  | .retn, _, Dn, env, st => Dn.rt (.d .non) env st
  | .iff c a b, X, Dn, env, st => wpE T CALL X c env st fun x env st => match x with
    | .d (.bl true) => wpSs a X Dn env st
    | .d (.bl false) => wpSs b X Dn env st
    | _ => False
  | .whl c b, X, Dn, env, st => whlLoop (fun env st Q => wpE T CALL X c env st fun x env st => match x with
    | .d (.bl k) => Q k env st
    | _ => False) (wpSs b X) Dn env st
  | .forr tg src b, X, Dn, env, st => wpSrc T CALL X src env st fun ds chk env st => forLoop tg (wpSs b X) chk Dn ds env st
  | .raise c, X, _, env, st => X ⟨c, []⟩ env st
  | .pass, _, Dn, env, st => Dn.nx env st
  | .brk, _, Dn, env, st => Dn.bk env st
  | .cnt, _, Dn, env, st => Dn.ct env st
  | .cell i, _, Dn, env, st => match env[i]? with
    | some (.own ds) => Dn.nx (env.set i (.val (.ref st.length))) (st ++ [.lst ds])
    | some (.val _) => Dn.nx env st
    | _ => False
def wpSs : Ss → QX → Ends → PEnv → PSto → Prop
  | .nil, _, Dn, env, st => Dn.nx env st
  | .cons s ss, X, Dn, env, st => wpS s X { Dn with nx := wpSs ss X Dn } env st
end
end
/-- an answer leaves its frame -/
def outR (r : R) (env : PEnv) (Q : R → Prop) : Prop := match r with
  | .d x => Q (.d x)
  | .tmp ds => Q (.tmp ds)
  | .brw i => match env[i]? with
    | some (.own ds) => Q (.tmp ds)
    | some (.val d) => Q (.d d)
    | _ => False
/-- a call, so many deep at most -/
def wpC (T : Tab) : Nat → CallT
  | 0, _, _, _, _, _ => False
  | k + 1, f, ds, st, Q, E => oq (T.fn f) fun d =>
    ds.length = d.np ∧ wpSs T (wpC T k) d.body (fun e _ st => E e st) { nx := fun _ st => Q (.d .non) st, rt := fun r env st => outR r env fun r => Q r st, bk := fun _ _ => False, ct := fun _ _ => False }
        (ds.map .val ++ List.replicate (d.ns - d.np) .no) st
end PI
namespace PI
open PySem PySem.Spec PyProof.Rows L2

theorem oq_ok {α : Type} {o : Option α} {Q : α → Prop} (h : oq o Q) : ∃ d, o = some d ∧ Q d := by
  cases o with
  | none => exact h.elim
  | some d => exact ⟨d, rfl, h⟩
/-- what is fixed through a def's run: the written part, the module's names, the heap, cells and frozen lists at its entry -/
structure Gh where
  K : PySem.W.Frag
  mg : Str → Option Value
  H0 : Hp
  mu0 : List Addr
  fz0 : Addr → Prop

/-- an exception object of the class at C -/
def exH (C : Addr) (a : Addr) : HO := .ext fun h => ∃ (oe : Obj) (vs : Array Value), h.get? a = some oe ∧ Zc (.ref C) none oe ∧ oe.data = .fields vs
/-- a list of the written part -/
def KList (K : PySem.W.Frag) (a : Addr) (xs : List V) : Prop :=
  ∃ (o : Obj) (its : Array Value) (n : Nat), K.lookup a = some o ∧ o.cls = .type "list" ∧ o.dict = none ∧ o.data = .seq its n ∧ its.size ≤ sizeLine ∧ Vals xs its.toList

section
variable (K : PySem.W.Frag) (mg : Str → Option Value) (mu : List Addr) (Fz : Addr → Prop) (H : Hp)
mutual
def RV : D → V → Prop
  | .non, v => v = .non
  | .bl b, v => v = .bl b
  | .int i, v => v = .int i
  | .str x, v => v = .str x
  | .tup ds, v => ∃ a vs, v = .ref a ∧ H a = some (.tup vs) ∧ RVs ds vs
  | .lst ds, v => ∃ a vs, v = .ref a ∧ H a = some (.lst vs) ∧ Fz a ∧ RVs ds vs
  | .scr ds, v => ∃ a vs, v = .ref a ∧ ((∃ o, H a = some (.frz o (.lst vs))) ∨ KList K a vs) ∧ RVs ds vs
  | .ref r, v => ∃ a, v = .ref a ∧ mu[r]? = some a
  | .dic0, v => ∃ a, v = .ref a ∧ H a = some (.dK [])
  | .exc c fs, v => ∃ a C, v = .ref a ∧ fs = [] ∧ mg (Str.ofString c) = some (.ref C) ∧ H a = some (exH C a)
def RVs : List D → List V → Prop
  | [], vs => vs = []
  | d :: ds, vs => ∃ v r, vs = v :: r ∧ RV d v ∧ RVs ds r
end
def RFs : List (String × D) → List (Str × V) → Prop
  | [], vs => vs = []
  | (n, d) :: ds, vs => ∃ v r, vs = (Str.ofString n, v) :: r ∧ RV K mg mu Fz H d v ∧ RFs ds r
def RC : Cell → Addr → Prop
  | .lst ds, a => ∃ vs, H a = some (.lst vs) ∧ RVs K mg mu Fz H ds vs
  | .ins c fs, a => ∃ C dx vs, mg (Str.ofString c) = some (.ref C) ∧ H a = some (.ins C dx vs) ∧ RFs K mg mu Fz H fs vs
/-- what is read -/
def VD : D → V → Prop
  | .lst ds, v => ∃ a vs, v = .ref a ∧ H a = some (.lst vs) ∧ RVs K mg mu Fz H ds vs
  | d, v => RV K mg mu Fz H d v
end
section
variable {K : PySem.W.Frag} {mg : Str → Option Value} {mu mu' : List Addr} {Fz Fz' : Addr → Prop} {H H' : Hp}
theorem RVs.iff : ∀ {ds : List D} {vs : List V}, RVs K mg mu Fz H ds vs ↔ Paired (RV K mg mu Fz H) ds vs
  | [], vs => by
    unfold RVs
    exact ⟨fun e => by subst e; exact .nil, fun h => by cases h; rfl⟩
  | d :: ds, vs => by
    unfold RVs
    constructor
    · rintro ⟨v, r, rfl, h, t⟩
      exact .cons h (RVs.iff.mp t)
    · intro h
      cases h with
      | cons h t => exact ⟨_, _, rfl, h, RVs.iff.mpr t⟩

/-- what never changes stays: tuples, what is frozen; cells are added -/
structure Pr (mu : List Addr) (Fz : Addr → Prop) (H : Hp) (mu' : List Addr) (Fz' : Addr → Prop) (H' : Hp) : Prop where
  fix : ∀ a o, H a = some o → (∀ vs, o ≠ .lst vs) → (∀ C dx fs, o ≠ .ins C dx fs) → H' a = some o
  fz : ∀ a, Fz a → Fz' a
  fzk : ∀ a o, Fz a → H a = some o → H' a = some o
  mux : ∃ l, mu' = mu ++ l
theorem Pr.same (h : Same H H') : Pr mu Fz H mu Fz H' := ⟨fun a o e _ _ => h a o e, fun _ h => h, fun a o _ e => h a o e, [], by simp⟩
theorem Pr.muget (p : Pr mu Fz H mu' Fz' H') {r : Nat} {a : Addr} (e : mu[r]? = some a) : mu'[r]? = some a := by
  obtain ⟨l, rfl⟩ := p.mux
  rw [List.getElem?_append_left (by
    have := List.getElem?_eq_some_iff.mp e
    exact this.1)]
  exact e
mutual
theorem RV.mono (p : Pr mu Fz H mu' Fz' H') : ∀ {d : D} {v : V}, RV K mg mu Fz H d v → RV K mg mu' Fz' H' d v
  | .non, _, h => by unfold RV at *; exact h
  | .bl b, _, h => by unfold RV at *; exact h
  | .int i, _, h => by unfold RV at *; exact h
  | .str x, _, h => by unfold RV at *; exact h
  | .tup ds, _, h => by
    unfold RV at *
    obtain ⟨a, vs, e, h1, h2⟩ := h
    exact ⟨a, vs, e, p.fix _ _ h1 (fun _ z => nomatch z) (fun _ _ _ z => nomatch z), RVs.mono p h2⟩
  | .lst ds, _, h => by
    unfold RV at *
    obtain ⟨a, vs, e, h1, hz, h2⟩ := h
    exact ⟨a, vs, e, p.fzk _ _ hz h1, p.fz _ hz, RVs.mono p h2⟩
  | .scr ds, _, h => by
    unfold RV at *
    obtain ⟨a, vs, e, h1, h2⟩ := h
    refine ⟨a, vs, e, ?_, RVs.mono p h2⟩
    rcases h1 with ⟨o, h1⟩ | h1
    · exact .inl ⟨o, p.fix _ _ h1 (fun _ z => nomatch z) (fun _ _ _ z => nomatch z)⟩
    · exact .inr h1
  | .ref r, _, h => by
    unfold RV at *
    obtain ⟨a, e, h1⟩ := h
    exact ⟨a, e, p.muget h1⟩
  | .dic0, _, h => by
    unfold RV at *
    obtain ⟨a, e, h1⟩ := h
    exact ⟨a, e, p.fix _ _ h1 (fun _ z => nomatch z) (fun _ _ _ z => nomatch z)⟩
  | .exc c fs, _, h => by
    unfold RV at *
    obtain ⟨a, C, e, hf, h1, h2⟩ := h
    exact ⟨a, C, e, hf, h1, p.fix _ _ h2 (fun _ z => nomatch z) (fun _ _ _ z => nomatch z)⟩
theorem RVs.mono (p : Pr mu Fz H mu' Fz' H') : ∀ {ds : List D} {vs : List V}, RVs K mg mu Fz H ds vs → RVs K mg mu' Fz' H' ds vs
  | [], _, h => by unfold RVs at *; exact h
  | d :: ds, _, h => by
    unfold RVs at *
    obtain ⟨v, r, e, h1, h2⟩ := h
    exact ⟨v, r, e, RV.mono p h1, RVs.mono p h2⟩
end
theorem RFs.mono (p : Pr mu Fz H mu' Fz' H') : ∀ {ds : List (String × D)} {vs : List (Str × V)}, RFs K mg mu Fz H ds vs → RFs K mg mu' Fz' H' ds vs
  | [], _, h => by unfold RFs at *; exact h
  | (n, d) :: ds, _, h => by
    unfold RFs at *
    obtain ⟨v, r, e, h1, h2⟩ := h
    exact ⟨v, r, e, RV.mono p h1, RFs.mono p h2⟩
end

/-- the address of an own list of the frame -/
def OwnA (env : PEnv) (σ : L2.St) (a : Addr) : Prop := ∃ (i : Nat) (ds : List D), env[i]? = some (.own ds) ∧ σ[i]? = some (some (.ref a))
/-- the frame and the cells at hand -/
structure Rel (G : Gh) (mu : List Addr) (Fz : Addr → Prop) (env : PEnv) (st : PSto) (σ : L2.St) (H : Hp) : Prop where
  len : env.length = σ.length
  val : ∀ (i : Nat) (d : D), env[i]? = some (.val d) → ∃ v, σ[i]? = some (some v) ∧ RV G.K G.mg mu Fz H d v
  own : ∀ (i : Nat) (ds : List D), env[i]? = some (.own ds) → ∃ a vs, σ[i]? = some (some (.ref a)) ∧ H a = some (.lst vs) ∧ RVs G.K G.mg mu Fz H ds vs ∧ ¬ Fz a ∧ a ∉ mu ∧ G.H0 a = none
  sep : ∀ (i j : Nat) (ds es : List D) (a : Addr), env[i]? = some (.own ds) → env[j]? = some (.own es) → σ[i]? = some (some (.ref a)) → σ[j]? = some (some (.ref a)) → i = j
  mlen : mu.length = st.length
  cell : ∀ (r : Nat) (c : Cell), st[r]? = some c → ∃ a, mu[r]? = some a ∧ RC G.K G.mg mu Fz H c a
  mnd : mu.Nodup
  mfz : ∀ a ∈ mu, ¬ Fz a
  fzl : ∀ a, Fz a → ∃ vs, H a = some (.lst vs)
  pre : ∃ l, mu = G.mu0 ++ l
  new : ∀ a ∈ mu, a ∈ G.mu0 ∨ G.H0 a = none
  fz0 : ∀ a, G.fz0 a → Fz a
  fzn : ∀ a, Fz a → G.fz0 a ∨ G.H0 a = none
  keep : ∀ a o, G.H0 a = some o → a ∉ G.mu0 → H a = some o
/-- from one state to a later one within an expression -/
structure Stp (mu : List Addr) (Fz : Addr → Prop) (env : PEnv) (σ : L2.St) (H : Hp) (mu' : List Addr) (Fz' : Addr → Prop) (env' : PEnv) (H' : Hp) : Prop where
  mux : ∃ l, mu' = mu ++ l
  mun : ∀ a ∈ mu', a ∈ mu ∨ OwnA env σ a ∨ H a = none
  fz : ∀ a, Fz a → Fz' a
  fzn : ∀ a, Fz' a → Fz a ∨ OwnA env σ a ∨ H a = none
  kp : ∀ a o, H a = some o → a ∉ mu → ¬ OwnA env σ a → H' a = some o
  sm : ∀ a, H' a = none → H a = none
  own : ∀ (i : Nat) (ds : List D), env'[i]? = some (.own ds) → ∃ es, env[i]? = some (.own es)
  sz : env'.length = env.length
section
variable {G : Gh} {mu mu' mu'' : List Addr} {Fz Fz' Fz'' : Addr → Prop} {env env' env'' : PEnv} {st st' st'' : PSto} {σ : L2.St} {H H' H'' : Hp}
theorem Stp.refl : Stp mu Fz env σ H mu Fz env H := ⟨⟨[], by simp⟩, fun _ h => .inl h, fun _ h => h, fun _ h => .inl h, fun _ _ h _ _ => h, fun _ h => h, fun _ ds h => ⟨ds, h⟩, rfl⟩
theorem Stp.ownA (s : Stp mu Fz env σ H mu' Fz' env' H') {a : Addr} (h : OwnA env' σ a) : OwnA env σ a := by
  obtain ⟨i, ds, e, q⟩ := h
  obtain ⟨es, e'⟩ := s.own i ds e
  exact ⟨i, es, e', q⟩
theorem Stp.trans (s : Stp mu Fz env σ H mu' Fz' env' H') (t : Stp mu' Fz' env' σ H' mu'' Fz'' env'' H'') : Stp mu Fz env σ H mu'' Fz'' env'' H'' := by
  refine ⟨?_, fun a h => ?_, fun a h => t.fz a (s.fz a h), fun a h => ?_, fun a o e h1 h2 => ?_, fun a h => s.sm a (t.sm a h), fun i ds h => ?_, t.sz.trans s.sz⟩
  · obtain ⟨l, rfl⟩ := s.mux
    obtain ⟨l', rfl⟩ := t.mux
    exact ⟨l ++ l', by rw [List.append_assoc]⟩
  · rcases t.mun a h with h | h | h
    · exact s.mun a h
    · exact .inr (.inl (s.ownA h))
    · exact .inr (.inr (s.sm a h))
  · rcases t.fzn a h with h | h | h
    · exact s.fzn a h
    · exact .inr (.inl (s.ownA h))
    · exact .inr (.inr (s.sm a h))
  · have hm : a ∉ mu' := fun z => by
      rcases s.mun a z with z | z | z
      · exact h1 z
      · exact h2 z
      · rw [e] at z; cases z
    exact t.kp a o (s.kp a o e h1 h2) hm fun z => h2 (s.ownA z)
  · obtain ⟨es, e⟩ := t.own i ds h
    exact s.own i es e

theorem mem_get {l : List Addr} {a : Addr} (h : a ∈ l) : ∃ r : Nat, l[r]? = some a := List.mem_iff_getElem?.mp h
theorem Rel.cellAt (x : Rel G mu Fz env st σ H) {a : Addr} (h : a ∈ mu) : ∃ (r : Nat) (c : Cell), mu[r]? = some a ∧ st[r]? = some c ∧ RC G.K G.mg mu Fz H c a := by
  obtain ⟨r, e⟩ := mem_get h
  have hl : r < st.length := by
    rw [← x.mlen]
    exact (List.getElem?_eq_some_iff.mp e).1
  obtain ⟨b, e', q⟩ := x.cell r st[r] (List.getElem?_eq_getElem hl)
  rw [e] at e'; cases e'
  exact ⟨r, _, e, List.getElem?_eq_getElem hl, q⟩
/-- a cell is a list or an instance -/
theorem Rel.cellK (x : Rel G mu Fz env st σ H) {a : Addr} (h : a ∈ mu) : (∃ vs, H a = some (.lst vs)) ∨ ∃ C dx fs, H a = some (.ins C dx fs) := by
  obtain ⟨r, c, _, _, q⟩ := x.cellAt h
  cases c with
  | lst ds => obtain ⟨vs, e, _⟩ := q; exact .inl ⟨vs, e⟩
  | ins c fs => obtain ⟨C, dx, vs, _, e, _⟩ := q; exact .inr ⟨C, dx, vs, e⟩
theorem Rel.ownK (x : Rel G mu Fz env st σ H) {a : Addr} (h : OwnA env σ a) : (∃ vs, H a = some (.lst vs)) ∧ ¬ Fz a ∧ a ∉ mu ∧ G.H0 a = none := by
  obtain ⟨i, ds, e, q⟩ := h
  obtain ⟨b, vs, e1, e2, _, e3, e4, e5⟩ := x.own i ds e
  rw [q] at e1; cases e1
  exact ⟨⟨vs, e2⟩, e3, e4, e5⟩
/-- within an expression what never changes stays -/
theorem Stp.pr (s : Stp mu Fz env σ H mu' Fz' env' H') (x : Rel G mu Fz env st σ H) : Pr mu Fz H mu' Fz' H' := by
  have key : ∀ a o, H a = some o → (a ∉ mu) → (¬ OwnA env σ a) → H' a = some o := s.kp
  refine ⟨fun a o e h1 h2 => ?_, s.fz, fun a o hz e => ?_, s.mux⟩
  · refine key a o e (fun z => ?_) fun z => ?_
    · rcases x.cellK z with ⟨vs, q⟩ | ⟨C, dx, fs, q⟩
      · rw [e] at q; exact h1 _ (Option.some.inj q)
      · rw [e] at q; exact h2 _ _ _ (Option.some.inj q)
    · obtain ⟨⟨vs, q⟩, _⟩ := x.ownK z
      rw [e] at q; exact h1 _ (Option.some.inj q)
  · refine key a o e (fun z => x.mfz a z hz) fun z => (x.ownK z).2.1 hz
/-- the parts that look at the entry are kept -/
theorem Rel.of_stp (x : Rel G mu Fz env st σ H) (s : Stp mu Fz env σ H mu' Fz' env' H')
    (val : ∀ (i : Nat) (d : D), env'[i]? = some (.val d) → ∃ v, σ[i]? = some (some v) ∧ RV G.K G.mg mu' Fz' H' d v)
    (own : ∀ (i : Nat) (ds : List D), env'[i]? = some (.own ds) → ∃ a vs, σ[i]? = some (some (.ref a)) ∧ H' a = some (.lst vs) ∧ RVs G.K G.mg mu' Fz' H' ds vs ∧ ¬ Fz' a ∧ a ∉ mu')
    (mlen : mu'.length = st'.length) (cell : ∀ (r : Nat) (c : Cell), st'[r]? = some c → ∃ a, mu'[r]? = some a ∧ RC G.K G.mg mu' Fz' H' c a) (mnd : mu'.Nodup) (mfz : ∀ a ∈ mu', ¬ Fz' a)
    (fzl : ∀ a, Fz' a → ∃ vs, H' a = some (.lst vs)) (tm : ∀ a, a ∈ mu' ∨ Fz' a → H a = none → G.H0 a = none) : Rel G mu' Fz' env' st' σ H' := by
  refine ⟨s.sz.trans x.len, val, fun i ds e => ?_, fun i j ds es a e1 e2 q1 q2 => ?_, mlen, cell, mnd, mfz, fzl, ?_, fun a h => ?_, fun a h => s.fz a (x.fz0 a h), fun a h => ?_, fun a o e h => ?_⟩
  · obtain ⟨a, vs, e1, e2, e3, e4, e5⟩ := own i ds e
    obtain ⟨es, q⟩ := s.own i ds e
    obtain ⟨b, ws, q1, _, _, _, _, q2⟩ := x.own i es q
    rw [e1] at q1; cases q1
    exact ⟨a, vs, e1, e2, e3, e4, e5, q2⟩
  · obtain ⟨ds', e1'⟩ := s.own i ds e1
    obtain ⟨es', e2'⟩ := s.own j es e2
    exact x.sep i j ds' es' a e1' e2' q1 q2
  · obtain ⟨l, e⟩ := x.pre
    obtain ⟨l', e'⟩ := s.mux
    exact ⟨l ++ l', by rw [e', e, List.append_assoc]⟩
  · rcases s.mun a h with z | z | z
    · exact x.new a z
    · exact .inr (x.ownK z).2.2.2
    · exact .inr (tm a (.inl h) z)
  · rcases s.fzn a h with z | z | z
    · exact x.fzn a z
    · exact .inr (x.ownK z).2.2.2
    · exact .inr (tm a (.inr h) z)
  · refine s.kp a o (x.keep a o e h) (fun z => ?_) fun z => ?_
    · rcases x.new a z with z | z
      · exact h z
      · rw [e] at z; cases z
    · have := (x.ownK z).2.2.2
      rw [e] at this; cases this
theorem RC.mono {K : PySem.W.Frag} {mg : Str → Option Value} {c : Cell} {a : Addr} (p : Pr mu Fz H mu' Fz' H') (hk : ∀ o, H a = some o → H' a = some o) (h : RC K mg mu Fz H c a) : RC K mg mu' Fz' H' c a := by
  cases c with
  | lst ds => obtain ⟨vs, e, q⟩ := h; exact ⟨vs, hk _ e, q.mono p⟩
  | ins c fs => obtain ⟨C, dx, vs, e0, e, q⟩ := h; exact ⟨C, dx, vs, e0, hk _ e, q.mono p⟩
/-- what is not tracked wasn't tracked at the entry -/
theorem Rel.none0 (x : Rel G mu Fz env st σ H) {a : Addr} (h : H a = none) : G.H0 a = none := by
  cases e : G.H0 a with
  | none => rfl
  | some o =>
    by_cases hm : a ∈ G.mu0
    · obtain ⟨l, q⟩ := x.pre
      have hm' : a ∈ mu := by rw [q]; exact List.mem_append_left _ hm
      rcases x.cellK hm' with ⟨vs, z⟩ | ⟨C, dx, fs, z⟩ <;> (rw [h] at z; cases z)
    · have := x.keep a o e hm
      rw [h] at this; cases this
/-- only new objects -/
theorem Stp.same (h : Same H H') : Stp mu Fz env σ H mu Fz env H' :=
  ⟨⟨[], by simp⟩, fun _ h => .inl h, fun _ h => h, fun _ h => .inl h, fun a o e _ _ => h a o e, fun a e => h.free e, fun _ ds h => ⟨ds, h⟩, rfl⟩
theorem Rel.same (x : Rel G mu Fz env st σ H) (h : Same H H') : Rel G mu Fz env st σ H' := by
  have p : Pr mu Fz H mu Fz H' := Pr.same h
  refine x.of_stp (Stp.same h) (fun i d e => ?_) (fun i ds e => ?_) x.mlen (fun r c e => ?_) x.mnd x.mfz (fun a z => ?_) fun a _ z => x.none0 z
  · obtain ⟨v, e1, q⟩ := x.val i d e
    exact ⟨v, e1, q.mono p⟩
  · obtain ⟨a, vs, e1, e2, e3, e4, e5, _⟩ := x.own i ds e
    exact ⟨a, vs, e1, h _ _ e2, e3.mono p, e4, e5⟩
  · obtain ⟨a, e1, q⟩ := x.cell r c e
    exact ⟨a, e1, q.mono p fun o => h a o⟩
  · obtain ⟨vs, q⟩ := x.fzl a z
    exact ⟨vs, h _ _ q⟩
end

/-- a value that an expression has given -/
def RR (G : Gh) (mu : List Addr) (Fz : Addr → Prop) (env : PEnv) (σ : L2.St) (H : Hp) : R → V → Prop
  | .d x, v => RV G.K G.mg mu Fz H x v
  | .brw i, v => σ[i]? = some (some v)
  | .tmp ds, v => ∃ p vs, v = .ref p ∧ H p = some (.lst vs) ∧ RVs G.K G.mg mu Fz H ds vs ∧ ¬ Fz p ∧ p ∉ mu ∧ ¬ OwnA env σ p ∧ G.H0 p = none
section
variable {G : Gh} {mu mu' mu'' : List Addr} {Fz Fz' Fz'' : Addr → Prop} {env env' env'' : PEnv} {st st' st'' : PSto} {σ : L2.St} {H H' H'' : Hp}
theorem RR.mono {r : R} {v : V} (x : Rel G mu Fz env st σ H) (s : Stp mu Fz env σ H mu' Fz' env' H') (h : RR G mu Fz env σ H r v) : RR G mu' Fz' env' σ H' r v := by
  have p := s.pr x
  cases r with
  | d y => exact RV.mono p h
  | brw i => exact h
  | tmp ds =>
    obtain ⟨q, vs, e, e1, e2, e3, e4, e5, e6⟩ := h
    refine ⟨q, vs, e, s.kp _ _ e1 e4 e5, e2.mono p, fun z => ?_, fun z => ?_, fun z => e5 (s.ownA z), e6⟩
    · rcases s.fzn q z with z | z | z
      · exact e3 z
      · exact e5 z
      · rw [e1] at z; cases z
    · rcases s.mun q z with z | z | z
      · exact e4 z
      · exact e5 z
      · rw [e1] at z; cases z
theorem VD.of_rv {K : PySem.W.Frag} {mg : Str → Option Value} {d : D} {v : V} (h : RV K mg mu Fz H d v) : VD K mg mu Fz H d v := by
  cases d with
  | lst ds =>
    unfold RV at h
    obtain ⟨a, vs, e, e1, _, e2⟩ := h
    exact ⟨a, vs, e, e1, e2⟩
  | non => exact h
  | bl b => exact h
  | int i => exact h
  | str z => exact h
  | tup ds => exact h
  | scr ds => exact h
  | ref r => exact h
  | dic0 => exact h
  | exc c fs => exact h
theorem Rel.readD (x : Rel G mu Fz env st σ H) {y : D} {v : V} {Q : D → Prop} (h : RV G.K G.mg mu Fz H y v) (q : oq (derefD st y) Q) : ∃ d, VD G.K G.mg mu Fz H d v ∧ Q d := by
  cases y with
  | ref r =>
    have h0 := h
    unfold RV at h
    obtain ⟨a, e, hm⟩ := h
    unfold derefD refD at q
    cases hc : st[r]? with
    | none => simp only [hc, oq] at q
    | some c =>
      obtain ⟨b, hb, rc⟩ := x.cell r c hc
      rw [hm] at hb; cases hb
      cases c with
      | lst ds =>
        simp only [hc, oq] at q
        obtain ⟨vs, e1, e2⟩ := rc
        exact ⟨.lst ds, ⟨a, vs, e, e1, e2⟩, q⟩
      | ins c fs =>
        simp only [hc, oq] at q
        exact ⟨.ref r, h0, q⟩
  | _ => exact ⟨_, VD.of_rv h, q⟩
theorem dr_ok {r : R} {v : V} {Q : D → Prop} (x : Rel G mu Fz env st σ H) (h : RR G mu Fz env σ H r v) (q : dr env st r Q) : ∃ d, VD G.K G.mg mu Fz H d v ∧ Q d := by
  unfold dr at q
  cases r with
  | d y => exact x.readD h q
  | tmp ds =>
    obtain ⟨p, vs, e, e1, e2, _⟩ := h
    exact ⟨.lst ds, ⟨p, vs, e, e1, e2⟩, q⟩
  | brw i =>
    have h' : σ[i]? = some (some v) := h
    unfold deref at q
    cases he : env[i]? with
    | none => simp only [he, oq] at q
    | some sl =>
      cases sl with
      | no => simp only [he, oq] at q
      | own ds =>
        simp only [he, oq] at q
        obtain ⟨a, vs, e1, e2, e3, _⟩ := x.own i ds he
        rw [h'] at e1; cases e1
        exact ⟨.lst ds, ⟨a, vs, rfl, e2, e3⟩, q⟩
      | val d =>
        obtain ⟨w, e1, e2⟩ := x.val i d he
        rw [h'] at e1; cases e1
        simp only [he] at q
        exact x.readD e2 q
/-- what an operation has made -/
def Out (G : Gh) (mu : List Addr) (Fz : Addr → Prop) (H : Hp) (r : R) (v : V) (H' : Hp) : Prop := match r with
  | .d x => Same H H' ∧ RV G.K G.mg mu Fz H' x v
  | .tmp ds => ∃ p vs, v = .ref p ∧ H p = none ∧ H' = upd H p (.lst vs) ∧ RVs G.K G.mg mu Fz H ds vs
  | .brw _ => False
theorem same_upd {H : Hp} {p : Addr} {o : HO} (h : H p = none) : Same H (upd H p o) := fun b x e => by
  rw [upd_ne (ne_of_none e h)]
  exact e
theorem Out.fin {r : R} {v : V} (x : Rel G mu Fz env st σ H) (h : Out G mu Fz H r v H') : Rel G mu Fz env st σ H' ∧ Stp mu Fz env σ H mu Fz env H' ∧ RR G mu Fz env σ H' r v := by
  cases r with
  | d y => exact ⟨x.same h.1, Stp.same h.1, h.2⟩
  | brw i => exact h.elim
  | tmp ds =>
    obtain ⟨p, vs, rfl, e1, rfl, e3⟩ := h
    have sm : Same H (upd H p (.lst vs)) := same_upd e1
    refine ⟨x.same sm, Stp.same sm, p, vs, rfl, upd_same, e3.mono (Pr.same sm), fun z => ?_, fun z => ?_, fun z => ?_, x.none0 e1⟩
    · obtain ⟨_, q⟩ := x.fzl p z
      rw [e1] at q; cases q
    · rcases x.cellK z with ⟨_, q⟩ | ⟨_, _, _, q⟩ <;> (rw [e1] at q; cases q)
    · obtain ⟨⟨_, q⟩, _⟩ := x.ownK z
      rw [e1] at q; cases q
end
end PI
set_option maxHeartbeats 2000000
namespace PI
open PySem PySem.Spec PyProof.Rows L2

/-! ### rows of values -/
section
variable {α β : Type} {F : α → β → Prop}
theorem pApp : ∀ {xs ys : List α} {us ws : List β}, Paired F xs us → Paired F ys ws → Paired F (xs ++ ys) (us ++ ws)
  | _, _, _, _, .nil, s => s
  | _, _, _, _, .cons r t, s => .cons r (pApp t s)
theorem pTake : ∀ {xs : List α} {us : List β} (n : Nat), Paired F xs us → Paired F (xs.take n) (us.take n)
  | _, _, 0, _ => .nil
  | _, _, _ + 1, .nil => .nil
  | _, _, n + 1, .cons r t => .cons r (pTake n t)
theorem pDrop : ∀ {xs : List α} {us : List β} (n : Nat), Paired F xs us → Paired F (xs.drop n) (us.drop n)
  | _, _, 0, r => r
  | _, _, _ + 1, .nil => .nil
  | _, _, n + 1, .cons r t => pDrop n t
theorem pSet {x : α} {u : β} (r : F x u) : ∀ {xs : List α} {us : List β} (i : Nat), Paired F xs us → Paired F (xs.set i x) (us.set i u)
  | _, _, _, .nil => .nil
  | _, _, 0, .cons _ t => .cons r t
  | _, _, i + 1, .cons q t => .cons q (pSet r i t)
theorem pErase : ∀ {xs : List α} {us : List β} (i : Nat), Paired F xs us → Paired F (xs.eraseIdx i) (us.eraseIdx i)
  | _, _, _, .nil => .nil
  | _, _, 0, .cons _ t => t
  | _, _, i + 1, .cons q t => .cons q (pErase i t)
theorem pGet : ∀ {xs : List α} {us : List β} {i : Nat} {x : α}, Paired F xs us → xs[i]? = some x → ∃ u, us[i]? = some u ∧ F x u
  | _, _, _, _, .nil, e => by simp at e
  | _, _, 0, _, .cons r _, e => by simp at e; subst e; exact ⟨_, rfl, r⟩
  | _, _, i + 1, x, .cons _ t, e => by
    obtain ⟨u, h1, h2⟩ := pGet (i := i) (x := x) t (by simpa using e)
    exact ⟨u, by simpa using h1, h2⟩
theorem pRev {xs : List α} {us : List β} (h : Paired F xs us) : Paired F xs.reverse us.reverse := by
  induction h with
  | nil => exact .nil
  | cons r t ih => rw [List.reverse_cons, List.reverse_cons]; exact pApp ih (.cons r .nil)
theorem pRep {xs : List α} {us : List β} (h : Paired F xs us) : ∀ k : Nat, Paired F (List.replicate k xs).flatten (List.replicate k us).flatten
  | 0 => .nil
  | k + 1 => by
    rw [List.replicate_succ, List.replicate_succ, List.flatten_cons, List.flatten_cons]
    exact pApp h (pRep h k)
theorem pDropLast : ∀ {xs : List α} {us : List β}, Paired F xs us → Paired F xs.dropLast us.dropLast
  | _, _, .nil => .nil
  | _, _, .cons _ .nil => .nil
  | _, _, .cons r (.cons q t) => by
    rw [List.dropLast_cons_cons, List.dropLast_cons_cons]
    exact .cons r (pDropLast (.cons q t))
theorem pLast : ∀ {xs : List α} {us : List β} {x : α}, Paired F xs us → xs.getLast? = some x → ∃ u, us[us.length - 1]? = some u ∧ F x u := fun {xs us x} h e => by
  rw [List.getLast?_eq_getElem?] at e
  rw [h.length] at e
  exact pGet h e
end
section
variable {K : PySem.W.Frag} {mg : Str → Option Value} {mu : List Addr} {Fz : Addr → Prop} {H : Hp}
theorem RVs.length {ds : List D} {vs : List V} (h : RVs K mg mu Fz H ds vs) : ds.length = vs.length := (RVs.iff.mp h).length
theorem RVs.app {ds es : List D} {vs ws : List V} (h : RVs K mg mu Fz H ds vs) (h' : RVs K mg mu Fz H es ws) : RVs K mg mu Fz H (ds ++ es) (vs ++ ws) := RVs.iff.mpr (pApp (RVs.iff.mp h) (RVs.iff.mp h'))
theorem RVs.cut {ds : List D} {vs : List V} (h : RVs K mg mu Fz H ds vs) (lo hi : Option Int) : RVs K mg mu Fz H (cutD ds lo hi) (cutV vs lo hi) := by
  unfold cutD cutV
  rw [h.length]
  exact RVs.iff.mpr (pTake _ (pDrop _ (RVs.iff.mp h)))
theorem RVs.atI {ds : List D} {vs : List V} {i : Int} {d : D} (h : RVs K mg mu Fz H ds vs) (e : L2.atI ds i = some d) : ∃ v, L2.atI vs i = some v ∧ RV K mg mu Fz H d v := by
  unfold L2.atI at *
  rw [← h.length]
  cases q : ixN ds.length i with
  | none => rw [q] at e; cases e
  | some j =>
    rw [q] at e
    exact pGet (RVs.iff.mp h) e
theorem RVs.nil : RVs K mg mu Fz H [] [] := rfl
theorem RVs.cons {d : D} {ds : List D} {v : V} {vs : List V} (h : RV K mg mu Fz H d v) (h' : RVs K mg mu Fz H ds vs) : RVs K mg mu Fz H (d :: ds) (v :: vs) := ⟨v, vs, rfl, h, h'⟩
theorem RVs.ints : ∀ {ds : List D} {vs : List V} {ns : List Int}, RVs K mg mu Fz H ds vs → asInts ds = some ns → vs = ns.map V.int
  | [], _, ns, h, e => by
    obtain rfl := h
    cases e
    rfl
  | d :: ds, _, ns, h, e => by
    obtain ⟨v, r, rfl, h1, h2⟩ := h
    cases d <;> try (cases e; done)
    rename_i i
    unfold asInts at e
    cases q : asInts ds with
    | none => rw [q] at e; cases e
    | some ms =>
      rw [q] at e
      cases e
      have h1' : v = V.int i := h1
      rw [h1', RVs.ints h2 q]
      rfl
theorem RVs.bls : ∀ {ds : List D} {vs : List V} {ns : List Bool}, RVs K mg mu Fz H ds vs → asBls ds = some ns → vs = ns.map V.bl
  | [], _, ns, h, e => by
    obtain rfl := h
    cases e
    rfl
  | d :: ds, _, ns, h, e => by
    obtain ⟨v, r, rfl, h1, h2⟩ := h
    cases d <;> try (cases e; done)
    rename_i i
    unfold asBls at e
    cases q : asBls ds with
    | none => rw [q] at e; cases e
    | some ms =>
      rw [q] at e
      cases e
      have h1' : v = V.bl i := h1
      rw [h1', RVs.bls h2 q]
      rfl
theorem RVs.strs : ∀ {ds : List D} {vs : List V} {ns : List Str}, RVs K mg mu Fz H ds vs → asStrs ds = some ns → vs = ns.map V.str
  | [], _, ns, h, e => by
    obtain rfl := h
    cases e
    rfl
  | d :: ds, _, ns, h, e => by
    obtain ⟨v, r, rfl, h1, h2⟩ := h
    cases d <;> try (cases e; done)
    rename_i i
    unfold asStrs at e
    cases q : asStrs ds with
    | none => rw [q] at e; cases e
    | some ms =>
      rw [q] at e
      cases e
      have h1' : v = V.str i := h1
      rw [h1', RVs.strs h2 q]
      rfl
end

/-! ### readings -/
/-- a new list is new -/
def Frh (H : Hp) (r : R) (v : V) : Prop := match r with
  | .tmp _ => ∀ p, v = .ref p → H p = none
  | _ => True
/-- an expression's reading by its meaning -/
def tE (G : Gh) (w : PEnv → PSto → QE → Prop) : TE := fun σ H Q => ∃ mu Fz env st Qp, Rel G mu Fz env st σ H ∧ w env st Qp ∧
  ∀ mu' Fz' env' st' H' r v, Rel G mu' Fz' env' st' σ H' → Stp mu Fz env σ H mu' Fz' env' H' → RR G mu' Fz' env' σ H' r v → Frh H r v → Qp r env' st' → Q v H'
def tT (G : Gh) (w : PEnv → PSto → (Bool → PEnv → PSto → Prop) → Prop) : TT := fun σ H Q => ∃ mu Fz env st Qp, Rel G mu Fz env st σ H ∧ w env st Qp ∧
  ∀ mu' Fz' env' st' H' b, Rel G mu' Fz' env' st' σ H' → Stp mu Fz env σ H mu' Fz' env' H' → Qp b env' st' → Q b H'
/-- a truth -/
def wB (w : PEnv → PSto → QE → Prop) : PEnv → PSto → (Bool → PEnv → PSto → Prop) → Prop := fun env st Q => w env st fun r env st => match r with
  | .d (.bl b) => Q b env st
  | _ => False
section
variable {X : Cx} {G : Gh} {w : PEnv → PSto → QE → Prop} {e : Expr} {t : TE}
theorem PE.imp {t t' : TE} (h : PE X e t) (k : ∀ σ H Q, t' σ H Q → t σ H Q) : PE X e t' := ⟨fun pins s σ H Q I q => h.run pins s σ H Q I (k σ H Q q)⟩
theorem PT.imp {t t' : TT} (h : PT X e t) (k : ∀ σ H Q, t' σ H Q → t σ H Q) : PT X e t' := ⟨fun pins s σ H Q I q => h.run pins s σ H Q I (k σ H Q q)⟩
/-- an expression and its meaning, as a value and as a test -/
structure SE (X : Cx) (G : Gh) (w : PEnv → PSto → QE → Prop) (e : Expr) : Prop where
  ev : PE X e (tE G w)
  tv : PT X e (tT G (wB w))
theorem tT_tE {σ : L2.St} {H : Hp} {Q : Bool → Hp → Prop} (h : tT G (wB w) σ H Q) : tB (tE G w) σ H Q := by
  obtain ⟨mu, Fz, env, st, Qp, x, h, k⟩ := h
  refine ⟨mu, Fz, env, st, _, x, h, fun mu' Fz' env' st' H' r v x' s rr _ q => ?_⟩
  cases r with
  | d y =>
    cases y with
    | bl b => exact ⟨b, rr, k _ _ _ _ _ _ x' s q⟩
    | _ => exact q.elim
  | _ => exact q.elim
theorem SE.of (h1 : PE X e t) (h2 : PT X e (tB t)) (k : ∀ σ H Q, tE G w σ H Q → t σ H Q) : SE X G w e := ⟨PE.imp h1 k, PT.imp h2 fun σ H Q q => k _ _ _ (tT_tE q)⟩
theorem SE.ofv (h1 : PE X e t) (he : ∀ whole, isTrue e X.env whole = (do let v ← whole; standAt e.pos; holding [v] (truthy v))) (k : ∀ σ H Q, tE G w σ H Q → t σ H Q) : SE X G w e := SE.of h1 (pt_val h1 he) k
theorem SE.ofr {a b : Expr} {op : CmpOp} {pos : Pos} {ta tb : TE} {r : R2} (ho : OpR X (compareOp op) r) (ha : PE X a ta) (hb : PE X b tb) (hm : behindInMarks op b = false) (k : ∀ σ H Q, tE G w σ H Q → tOp r ta tb σ H Q) : SE X G w (.Compare a [op] [b] pos) :=
  SE.of (pe_cmpR ho ha hb hm) (pt_cmpR ho ha hb hm) k
end
theorem Frh.sm {H H' : Hp} {r : R} {v : V} (h : Frh H' r v) (k : ∀ p, H' p = none → H p = none) : Frh H r v := by
  cases r with
  | tmp ds => exact fun p e => k p (h p e)
  | d x => trivial
  | brw i => trivial
theorem Out.fr {G : Gh} {mu : List Addr} {Fz : Addr → Prop} {H H' : Hp} {r : R} {v : V} (h : Out G mu Fz H r v H') : Frh H r v := by
  cases r with
  | tmp ds =>
    obtain ⟨p, vs, rfl, e, _⟩ := h
    intro q z
    cases z
    exact e
  | d x => trivial
  | brw i => trivial
/-- a later answer -/
theorem tE.mk {G : Gh} {w : PEnv → PSto → QE → Prop} {σ : L2.St} {H : Hp} {Q : VK} {mu : List Addr} {Fz : Addr → Prop} {env : PEnv} {st : PSto} {Qp : QE} (x : Rel G mu Fz env st σ H) (h : w env st Qp)
    (k : ∀ mu' Fz' env' st' H' r v, Rel G mu' Fz' env' st' σ H' → Stp mu Fz env σ H mu' Fz' env' H' → RR G mu' Fz' env' σ H' r v → Frh H r v → Qp r env' st' → Q v H') : tE G w σ H Q := ⟨mu, Fz, env, st, Qp, x, h, k⟩
section
variable {G : Gh} {wa wb : PEnv → PSto → QE → Prop} {σ : L2.St} {H : Hp} {Q : VK}
/-- an operation on one read value -/
theorem one {r1 : V → Hp → VK → Prop} {f : PEnv → PSto → D → QE → Prop}
    (hr : ∀ mu Fz env st H d1 v1 Qp Qv, Rel G mu Fz env st σ H → VD G.K G.mg mu Fz H d1 v1 → f env st d1 Qp → (∀ r v H', Out G mu Fz H r v H' → Qp r env st → Qv v H') → r1 v1 H Qv)
    (h : tE G (fun env st Q => wa env st fun x env st => dr env st x fun x => f env st x Q) σ H Q) : tE G wa σ H fun x H1 => r1 x H1 Q := by
  obtain ⟨mu, Fz, env, st, Qp, x, h, k⟩ := h
  refine tE.mk x h fun mu1 Fz1 env1 st1 H1 ra va x1 s1 rr1 _ h1 => ?_
  obtain ⟨d1, g1, h1⟩ := dr_ok x1 rr1 h1
  refine hr mu1 Fz1 env1 st1 H1 d1 va Qp Q x1 g1 h1 fun r v H' o q => ?_
  obtain ⟨x3, s3, rr3⟩ := o.fin x1
  exact k _ _ _ _ _ r v x3 (s1.trans s3) rr3 (o.fr.sm fun _ z => s1.sm _ z) q
/-- an operation on two read values -/
theorem two {r2 : R2} {f : PEnv → PSto → D → D → QE → Prop}
    (hr : ∀ mu Fz env st H d1 v1 d2 v2 Qp Qv, Rel G mu Fz env st σ H → VD G.K G.mg mu Fz H d1 v1 → VD G.K G.mg mu Fz H d2 v2 → f env st d1 d2 Qp → (∀ r v H', Out G mu Fz H r v H' → Qp r env st → Qv v H') → r2 v1 v2 H Qv)
    (h : tE G (fun env st Q => wa env st fun x env st => wb env st fun y env st => dr env st x fun x => dr env st y fun y => f env st x y Q) σ H Q) : tOp r2 (tE G wa) (tE G wb) σ H Q := by
  obtain ⟨mu, Fz, env, st, Qp, x, h, k⟩ := h
  refine tE.mk x h fun mu1 Fz1 env1 st1 H1 ra va x1 s1 rr1 _ h1 => tE.mk x1 h1 fun mu2 Fz2 env2 st2 H2 rb vb x2 s2 rr2 _ h2 => ?_
  obtain ⟨d1, g1, h2⟩ := dr_ok x2 (rr1.mono x1 s2) h2
  obtain ⟨d2, g2, h2⟩ := dr_ok x2 rr2 h2
  refine hr mu2 Fz2 env2 st2 H2 d1 va d2 vb Qp Q x2 g1 g2 h2 fun r v H' o q => ?_
  obtain ⟨x3, s3, rr3⟩ := o.fin x2
  exact k _ _ _ _ _ r v x3 ((s1.trans s2).trans s3) rr3 (o.fr.sm fun _ z => (s1.trans s2).sm _ z) q
end
theorem Out.d {G : Gh} {mu : List Addr} {Fz : Addr → Prop} {H : Hp} {x : D} {v : V} (h : RV G.K G.mg mu Fz H x v) : Out G mu Fz H (.d x) v H := ⟨Same.refl H, h⟩
theorem Out.tup {G : Gh} {mu : List Addr} {Fz : Addr → Prop} {H : Hp} {ds : List D} {vs : List V} {p : Addr} (hp : H p = none) (h : RVs G.K G.mg mu Fz H ds vs) : Out G mu Fz H (.d (.tup ds)) (.ref p) (upd H p (.tup vs)) :=
  ⟨same_upd hp, p, vs, rfl, upd_same, h.mono (Pr.same (same_upd hp))⟩
theorem Out.tmp {G : Gh} {mu : List Addr} {Fz : Addr → Prop} {H : Hp} {ds : List D} {vs : List V} {p : Addr} (hp : H p = none) (h : RVs G.K G.mg mu Fz H ds vs) : Out G mu Fz H (.tmp ds) (.ref p) (upd H p (.lst vs)) :=
  ⟨p, vs, rfl, hp, rfl, h⟩
theorem Out.int {G : Gh} {mu : List Addr} {Fz : Addr → Prop} {H : Hp} {i : Int} : Out G mu Fz H (.d (.int i)) (.int i) H := ⟨Same.refl H, rfl⟩
theorem Out.str {G : Gh} {mu : List Addr} {Fz : Addr → Prop} {H : Hp} {i : Str} : Out G mu Fz H (.d (.str i)) (.str i) H := ⟨Same.refl H, rfl⟩
theorem Out.bl {G : Gh} {mu : List Addr} {Fz : Addr → Prop} {H : Hp} {i : Bool} : Out G mu Fz H (.d (.bl i)) (.bl i) H := ⟨Same.refl H, rfl⟩
theorem Out.non {G : Gh} {mu : List Addr} {Fz : Addr → Prop} {H : Hp} : Out G mu Fz H (.d .non) .non H := ⟨Same.refl H, rfl⟩

/-! ### the operators -/
def rB (o : BOp) (K : PySem.W.Frag) : R2 := match o with
  | .add => fun x y H Q => (rI0 fun i j => .int (i + j)) x y H Q ∨ (∃ i j, x = .str i ∧ y = .str j ∧ i.length + j.length ≤ sizeLine ∧ Q (.str (i ++ j)) H) ∨ rCatA K x y H Q ∨ rCat x y H Q
  | .sub => rI0 fun i j => .int (i - j)
  | .mul => fun x y H Q => (rI L2.CMulW fun i j => .int (i * j)) x y H Q ∨ rRep x y H Q
  | .fdiv => rI L2.CDivW fun i j => .int (i / j)
  | .mod => rI (fun _ j => 0 < j) fun i j => .int (i % j)
  | .pow => rI L2.CPow fun i j => .int (i ^ j.toNat)
def opOf : BOp → Operator
  | .add => .Add
  | .sub => .Sub
  | .mul => .Mult
  | .fdiv => .FloorDiv
  | .mod => .Mod
  | .pow => .Pow
section
variable {X : Cx}
theorem op_B (o : BOp) : OpR X (binaryOp (opOf o)) (rB o X.K) := by
  cases o with
  | add => exact op_add.or (op_add_str.or (op_catA.or op_cat))
  | sub => exact op_sub
  | mul => exact op_mulW.or op_rep
  | fdiv => exact op_fdivW
  | mod => exact op_mod
  | pow => exact op_pow
end
section
variable {G : Gh} {mu : List Addr} {Fz : Addr → Prop} {H : Hp}
theorem rB_ok (o : BOp) {d1 d2 : D} {v1 v2 : V} {Kq : KR} {Q : VK} (g1 : VD G.K G.mg mu Fz H d1 v1) (g2 : VD G.K G.mg mu Fz H d2 v2) (h : opB o d1 d2 Kq)
    (k : ∀ r v H', Out G mu Fz H r v H' → Kq r → Q v H') : rB o G.K v1 v2 H Q := by
  cases o with
  | add =>
    cases d1 <;> try exact h.elim
    · cases d2 <;> try exact h.elim
      obtain rfl : v1 = _ := g1
      obtain rfl : v2 = _ := g2
      exact .inl ⟨_, _, rfl, rfl, k _ _ _ Out.int h⟩
    · cases d2 <;> try exact h.elim
      obtain rfl : v1 = _ := g1
      obtain rfl : v2 = _ := g2
      exact .inr (.inl ⟨_, _, rfl, rfl, h.1, k _ _ _ Out.str h.2⟩)
    · cases d2 <;> try exact h.elim
      rename_i ds es
      obtain ⟨a, vs, rfl, e1, q1⟩ := g1
      obtain ⟨b, ws, rfl, e2, q2⟩ := g2
      refine .inr (.inr (.inl ⟨a, b, vs, ws, rfl, rfl, SqT.of e1, SqT.of e2, by rw [← q1.length, ← q2.length]; exact h.1, fun z => ?_, fun z1 z2 => ?_, fun z1 z2 p hp => ?_⟩))
      · subst z
        have z : ds = [] := List.length_eq_zero_iff.mp (q1.length.trans rfl)
        subst z
        exact k (.d (.tup es)) _ _ (Out.d ⟨b, ws, rfl, e2, q2⟩) h.2
      · subst z2
        have z : es = [] := List.length_eq_zero_iff.mp (q2.length.trans rfl)
        subst z
        refine k (.d (.tup (ds ++ []))) _ _ (Out.d ?_) h.2
        rw [List.append_nil]
        exact ⟨a, vs, rfl, e1, q1⟩
      · exact k _ _ _ (Out.tup hp (q1.app q2)) h.2
    · cases d2 <;> try exact h.elim
      rename_i ds es
      obtain ⟨a, vs, rfl, e1, q1⟩ := g1
      obtain ⟨b, ws, rfl, e2, q2⟩ := g2
      exact .inr (.inr (.inr ⟨a, b, vs, ws, rfl, rfl, e1, e2, by rw [← q1.length, ← q2.length]; exact h.1, fun p hp => k _ _ _ (Out.tmp hp (q1.app q2)) h.2⟩))
  | sub =>
    cases d1 <;> try exact h.elim
    cases d2 <;> try exact h.elim
    obtain rfl : v1 = _ := g1
    obtain rfl : v2 = _ := g2
    exact ⟨_, _, rfl, rfl, k _ _ _ Out.int h⟩
  | mul =>
    cases d1 <;> try exact h.elim
    · cases d2 <;> try exact h.elim
      obtain rfl : v1 = _ := g1
      obtain rfl : v2 = _ := g2
      exact .inl ⟨_, _, rfl, rfl, h.1, k _ _ _ Out.int h.2⟩
    · cases d2 <;> try exact h.elim
      obtain ⟨a, vs, rfl, e1, q1⟩ := g1
      obtain rfl : v2 = _ := g2
      exact .inr ⟨a, _, vs, rfl, rfl, e1, h.1, h.2.1, by rw [← q1.length]; exact h.2.2.1, fun p hp => k _ _ _ (Out.tmp hp (RVs.iff.mpr (pRep (RVs.iff.mp q1) _))) h.2.2.2⟩
  | fdiv =>
    cases d1 <;> try exact h.elim
    cases d2 <;> try exact h.elim
    obtain rfl : v1 = _ := g1
    obtain rfl : v2 = _ := g2
    exact ⟨_, _, rfl, rfl, h.1, k _ _ _ Out.int h.2⟩
  | mod =>
    cases d1 <;> try exact h.elim
    cases d2 <;> try exact h.elim
    obtain rfl : v1 = _ := g1
    obtain rfl : v2 = _ := g2
    exact ⟨_, _, rfl, rfl, h.1, k _ _ _ Out.int h.2⟩
  | pow =>
    cases d1 <;> try exact h.elim
    cases d2 <;> try exact h.elim
    obtain rfl : v1 = _ := g1
    obtain rfl : v2 = _ := g2
    exact ⟨_, _, rfl, rfl, h.1, k _ _ _ Out.int h.2⟩
end
end PI
set_option maxHeartbeats 2000000
namespace PI
open PySem PySem.Spec PyProof.Rows L2

/-! ### data at hand -/
theorem mapO_len {α β : Type} {f : α → Option β} : ∀ {xs : List α} {ys : List β}, mapO f xs = some ys → xs.length = ys.length
  | [], ys, h => by cases h; rfl
  | x :: xs, ys, h => by
    unfold mapO at h
    cases e : f x with
    | none => rw [e] at h; cases h
    | some y =>
      rw [e] at h
      cases e2 : mapO f xs with
      | none => rw [e2] at h; cases h
      | some zs =>
        rw [e2] at h
        cases h
        rw [List.length_cons, List.length_cons, mapO_len e2]
section
variable {G : Gh} {mu : List Addr} {Fz : Addr → Prop} {env : PEnv} {st : PSto} {σ : L2.St} {H : Hp}
theorem views_dp {n : Nat} (ih : ∀ (d : D) (v : V) (p : PyData), RV G.K G.mg mu Fz H d v → D.view st n d = some p → Dp G.K H v p) :
    ∀ (ds : List D) (vs : List V) (ps : List PyData), RVs G.K G.mg mu Fz H ds vs → mapO (D.view st n) ds = some ps → DpAll G.K H vs ps
  | [], vs, ps, h, e => by
    obtain rfl := h
    cases e
    exact .nil
  | d :: ds, vs, ps, h, e => by
    obtain ⟨v, r, rfl, h1, h2⟩ := h
    unfold mapO at e
    cases e1 : D.view st n d with
    | none => rw [e1] at e; cases e
    | some p =>
      rw [e1] at e
      cases e2 : mapO (D.view st n) ds with
      | none => rw [e2] at e; cases e
      | some zs =>
        rw [e2] at e
        cases e
        exact .cons (ih d v p h1 e1) (views_dp ih ds r zs h2 e2)
theorem view_dp (x : Rel G mu Fz env st σ H) : ∀ (n : Nat) (d : D) (v : V) (p : PyData), RV G.K G.mg mu Fz H d v → D.view st n d = some p → Dp G.K H v p
  | 0, _, _, _, _, e => by cases e
  | n + 1, d, v, p, h, e => by
    have ih := view_dp x n
    cases d with
    | non => obtain rfl : v = _ := h; cases e; exact .non
    | bl b => obtain rfl : v = _ := h; cases e; exact .bl b
    | int i => obtain rfl : v = _ := h; cases e; exact .int i
    | str z => obtain rfl : v = _ := h; cases e; exact .str z
    | tup ds =>
      obtain ⟨a, vs, rfl, e1, e2⟩ := h
      unfold D.view at e
      obtain ⟨ps, q, rfl⟩ := Option.map_eq_some_iff.mp e
      exact .tup (SqT.of e1) (views_dp ih ds vs ps e2 q)
    | lst ds =>
      obtain ⟨a, vs, rfl, e1, _, e2⟩ := h
      unfold D.view at e
      obtain ⟨ps, q, rfl⟩ := Option.map_eq_some_iff.mp e
      exact .lst (SqL.of e1) (views_dp ih ds vs ps e2 q)
    | scr ds =>
      obtain ⟨a, vs, rfl, e1, e2⟩ := h
      unfold D.view at e
      obtain ⟨ps, q, rfl⟩ := Option.map_eq_some_iff.mp e
      refine .lst ?_ (views_dp ih ds vs ps e2 q)
      rcases e1 with ⟨o, e1⟩ | e1
      · exact .inl (.inr ⟨o, e1⟩)
      · exact .inr e1
    | ref r =>
      obtain ⟨a, rfl, hm⟩ := h
      unfold D.view at e
      cases hc : st[r]? with
      | none => rw [hc] at e; cases e
      | some c =>
        rw [hc] at e
        obtain ⟨b, hb, rc⟩ := x.cell r c hc
        rw [hm] at hb; cases hb
        cases c with
        | ins c fs => cases e
        | lst ds =>
          obtain ⟨vs, e1, e2⟩ := rc
          obtain ⟨ps, q, rfl⟩ := Option.map_eq_some_iff.mp e
          exact .lst (SqL.of e1) (views_dp ih ds vs ps e2 q)
    | dic0 => cases e
    | exc c fs => cases e
theorem view_vd (x : Rel G mu Fz env st σ H) {d : D} {v : V} {p : PyData} (h : VD G.K G.mg mu Fz H d v) (e : D.view st 12 d = some p) : Dp G.K H v p := by
  cases d with
  | lst ds =>
    obtain ⟨a, vs, rfl, e1, e2⟩ := h
    unfold D.view at e
    obtain ⟨ps, q, rfl⟩ := Option.map_eq_some_iff.mp e
    exact .lst (SqL.of e1) (views_dp (view_dp x 11) ds vs ps e2 q)
  | non => exact view_dp x 12 _ _ _ h e
  | bl b => exact view_dp x 12 _ _ _ h e
  | int i => exact view_dp x 12 _ _ _ h e
  | str z => exact view_dp x 12 _ _ _ h e
  | tup ds => exact view_dp x 12 _ _ _ h e
  | scr ds => exact view_dp x 12 _ _ _ h e
  | ref r => exact view_dp x 12 _ _ _ h e
  | dic0 => exact view_dp x 12 _ _ _ h e
  | exc c fs => exact view_dp x 12 _ _ _ h e
theorem vw_dp (x : Rel G mu Fz env st σ H) {d : D} {v : V} {Q : PyData → Prop} (h : VD G.K G.mg mu Fz H d v) (q : vw st d Q) : ∃ p, Dp G.K H v p ∧ Q p := by
  obtain ⟨p, e, q⟩ := oq_ok q
  exact ⟨p, view_vd x h e, q⟩
end

/-! ### comparisons -/
def rInT (K : PySem.W.Frag) : R2 := fun x y H Q => ∃ d ds, Dp K H x d ∧ Dp K H y (.tuple ds) ∧ SeqAt.shaped d = true ∧ SeqAt.shaped (.tuple ds) = true ∧ Q (.bl (ds.any fun z => PyData.eqv z d)) H
def rNotInT (K : PySem.W.Frag) : R2 := fun x y H Q => ∃ d ds, Dp K H x d ∧ Dp K H y (.tuple ds) ∧ SeqAt.shaped d = true ∧ SeqAt.shaped (.tuple ds) = true ∧ Q (.bl (!ds.any fun z => PyData.eqv z d)) H
def rSign : R2 := fun x y H Q => ∃ (c : Nat) (z : Str), x = .str ⟨#[c]⟩ ∧ y = .str z ∧ Q (.bl (decide (c ∈ z.cps.toList))) H
def rNotSign : R2 := fun x y H Q => ∃ (c : Nat) (z : Str), x = .str ⟨#[c]⟩ ∧ y = .str z ∧ Q (.bl (!decide (c ∈ z.cps.toList))) H
def rC (o : COp) (K : PySem.W.Frag) : R2 := match o with
  | .eq => fun x y H Q => L2.rEq x y H Q ∨ rEqD K x y H Q
  | .ne => fun x y H Q => L2.rNe x y H Q ∨ rNeD K x y H Q
  | .lt => rI0 fun i j => .bl (decide (i < j))
  | .le => rI0 fun i j => .bl (decide (i ≤ j))
  | .gt => rI0 fun i j => .bl (decide (j < i))
  | .ge => rI0 fun i j => .bl (decide (j ≤ i))
  | .isin => fun x y H Q => rSign x y H Q ∨ rInD K x y H Q ∨ rInT K x y H Q
  | .notin => fun x y H Q => rNotSign x y H Q ∨ rNotInD K x y H Q ∨ rNotInT K x y H Q
  | .isn => fun x y H Q => y = .non ∧ Q (.bl (decide (x = .non))) H
  | .notn => fun x y H Q => y = .non ∧ Q (.bl (!decide (x = .non))) H
def cOf : COp → CmpOp
  | .eq => .Eq
  | .ne => .NotEq
  | .lt => .Lt
  | .le => .LtE
  | .gt => .Gt
  | .ge => .GtE
  | .isin => .In
  | .notin => .NotIn
  | .isn => .Is
  | .notn => .IsNot
section
variable {X : Cx}
theorem op_inT (hu : X.A.units + 65 < cLine) : OpR X (compareOp .In) (rInT X.K) := by
  intro pins s σ H x y v u Q I rx ry h
  obtain ⟨d, ds, hd, he, sd, se, q⟩ := h
  obtain ⟨as, r1⟩ := Dp.reads I d x v hd rx
  obtain ⟨bs, r2⟩ := Dp.reads I (.tuple ds) y u he ry
  exact SeqAt.in_tuple_reads r2 r1 (SeqAt.canLay_of_shaped se) (SeqAt.canLay_of_shaped sd) (room_in_shaped sd hu) ⟨.bl _, H, I, rfl, q⟩
theorem op_notInT (hu : X.A.units + 65 < cLine) : OpR X (compareOp .NotIn) (rNotInT X.K) := by
  intro pins s σ H x y v u Q I rx ry h
  obtain ⟨d, ds, hd, he, sd, se, q⟩ := h
  obtain ⟨as, r1⟩ := Dp.reads I d x v hd rx
  obtain ⟨bs, r2⟩ := Dp.reads I (.tuple ds) y u he ry
  exact SeqAt.notIn_tuple_reads r2 r1 (SeqAt.canLay_of_shaped se) (SeqAt.canLay_of_shaped sd) (room_in_shaped sd hu) ⟨.bl _, H, I, rfl, q⟩
theorem op_C (hu : X.A.units + 65 < cLine) (o : COp) : OpR X (compareOp (cOf o)) (rC o X.K) := by
  cases o with
  | eq => exact op_eq.or (op_eqD (by omega))
  | ne => exact op_ne.or (op_neD (by omega))
  | lt => exact op_lt
  | le => exact op_le
  | gt => exact op_gt
  | ge => exact op_ge
  | isin => exact op_in_sign.or ((op_inD hu).or (op_inT hu))
  | notin => exact op_notIn_sign.or ((op_notInD hu).or (op_notInT hu))
  | isn => exact op_isN
  | notn => exact op_notN
end
section
variable {G : Gh} {mu : List Addr} {Fz : Addr → Prop} {env : PEnv} {st : PSto} {σ : L2.St} {H : Hp} {d1 d2 : D} {v1 v2 : V} {Kq : Bool → Prop} {Q : VK}
theorem eqV_ok (x : Rel G mu Fz env st σ H) (g1 : VD G.K G.mg mu Fz H d1 v1) (g2 : VD G.K G.mg mu Fz H d2 v2) (h : eqV st d1 d2 Kq) :
    (∃ b, scal v1 v2 = true ∧ decide (v1 = v2) = b ∧ Kq b) ∨ ∃ p q, Dp G.K H v1 p ∧ Dp G.K H v2 q ∧ SeqAt.shaped p = true ∧ SeqAt.shaped q = true ∧ Kq (PyData.eqv p q) := by
  have gen : (vw st d1 fun p => vw st d2 fun q => SeqAt.shaped p = true ∧ SeqAt.shaped q = true ∧ Kq (PyData.eqv p q)) → ∃ p q, Dp G.K H v1 p ∧ Dp G.K H v2 q ∧ SeqAt.shaped p = true ∧ SeqAt.shaped q = true ∧ Kq (PyData.eqv p q) := fun h => by
    obtain ⟨p, hp, h⟩ := vw_dp x g1 h
    obtain ⟨q, hq, h⟩ := vw_dp x g2 h
    exact ⟨p, q, hp, hq, h⟩
  cases d1 <;> cases d2 <;> first
    | exact .inr (gen h)
    | skip
  · obtain rfl : v1 = _ := g1
    obtain rfl : v2 = _ := g2
    exact .inl ⟨true, rfl, by simp, h⟩
  · obtain rfl : v1 = _ := g1
    obtain rfl : v2 = _ := g2
    exact .inl ⟨_, rfl, by simp, h⟩
  · obtain rfl : v1 = _ := g1
    obtain rfl : v2 = _ := g2
    exact .inl ⟨_, rfl, by simp, h⟩
  · obtain rfl : v1 = _ := g1
    obtain rfl : v2 = _ := g2
    exact .inl ⟨_, rfl, by simp, h⟩
theorem inV_ok (x : Rel G mu Fz env st σ H) (g1 : VD G.K G.mg mu Fz H d1 v1) (g2 : VD G.K G.mg mu Fz H d2 v2) (h : inV st d1 d2 Kq) :
    (∃ (c : Nat) (z : Str), v1 = .str ⟨#[c]⟩ ∧ v2 = .str z ∧ Kq (decide (c ∈ z.cps.toList))) ∨ (∃ p ds, Dp G.K H v1 p ∧ Dp G.K H v2 (.list ds) ∧ SeqAt.shaped p = true ∧ SeqAt.shaped (.list ds) = true ∧ Kq (ds.any fun z => PyData.eqv z p)) ∨
      ∃ p ds, Dp G.K H v1 p ∧ Dp G.K H v2 (.tuple ds) ∧ SeqAt.shaped p = true ∧ SeqAt.shaped (.tuple ds) = true ∧ Kq (ds.any fun z => PyData.eqv z p) := by
  have genL : (vw st d1 fun p => vw st d2 fun q => SeqAt.shaped p = true ∧ SeqAt.shaped q = true ∧ match q with
      | .list ds => Kq (ds.any fun z => PyData.eqv z p)
      | _ => False) → ∃ p ds, Dp G.K H v1 p ∧ Dp G.K H v2 (.list ds) ∧ SeqAt.shaped p = true ∧ SeqAt.shaped (.list ds) = true ∧ Kq (ds.any fun z => PyData.eqv z p) := fun h => by
    obtain ⟨p, hp, h⟩ := vw_dp x g1 h
    obtain ⟨q, hq, h1, h2, h3⟩ := vw_dp x g2 h
    cases q with
    | list ds => exact ⟨p, ds, hp, hq, h1, h2, h3⟩
    | _ => exact h3.elim
  have genT : (vw st d1 fun p => vw st d2 fun q => SeqAt.shaped p = true ∧ SeqAt.shaped q = true ∧ match q with
      | .tuple ds => Kq (ds.any fun z => PyData.eqv z p)
      | _ => False) → ∃ p ds, Dp G.K H v1 p ∧ Dp G.K H v2 (.tuple ds) ∧ SeqAt.shaped p = true ∧ SeqAt.shaped (.tuple ds) = true ∧ Kq (ds.any fun z => PyData.eqv z p) := fun h => by
    obtain ⟨p, hp, h⟩ := vw_dp x g1 h
    obtain ⟨q, hq, h1, h2, h3⟩ := vw_dp x g2 h
    cases q with
    | tuple ds => exact ⟨p, ds, hp, hq, h1, h2, h3⟩
    | _ => exact h3.elim
  cases d2 with
  | lst ds => cases d1 <;> exact .inr (.inl (genL h))
  | tup ds => cases d1 <;> exact .inr (.inr (genT h))
  | str z =>
    cases d1 with
    | str a =>
      obtain ⟨c, rfl, h⟩ := h
      obtain rfl : v1 = _ := g1
      obtain rfl : v2 = _ := g2
      exact .inl ⟨c, z, rfl, rfl, h⟩
    | _ => exact h.elim
  | _ => cases d1 <;> exact h.elim
theorem vd_none (g : VD G.K G.mg mu Fz H d1 v1) : decide (v1 = .non) = match d1 with
    | .non => true
    | _ => false := by
  cases d1 with
  | non => obtain rfl : v1 = _ := g; rfl
  | bl b => obtain rfl : v1 = _ := g; rfl
  | int b => obtain rfl : v1 = _ := g; rfl
  | str b => obtain rfl : v1 = _ := g; rfl
  | tup b => obtain ⟨a, vs, rfl, _⟩ := g; rfl
  | lst b => obtain ⟨a, vs, rfl, _⟩ := g; rfl
  | scr b => obtain ⟨a, vs, rfl, _⟩ := g; rfl
  | ref b => obtain ⟨a, rfl, _⟩ := g; rfl
  | dic0 => obtain ⟨a, rfl, _⟩ := g; rfl
  | exc b c => obtain ⟨a, C, rfl, _⟩ := g; rfl
theorem rC_ok (x : Rel G mu Fz env st σ H) (o : COp) (g1 : VD G.K G.mg mu Fz H d1 v1) (g2 : VD G.K G.mg mu Fz H d2 v2) (h : cmpV o st d1 d2 Kq) (k : ∀ b, Kq b → Q (.bl b) H) : rC o G.K v1 v2 H Q := by
  cases o with
  | eq =>
    rcases eqV_ok x g1 g2 h with ⟨b, h1, h2, h3⟩ | ⟨p, q, h1, h2, h3, h4, h5⟩
    · exact .inl ⟨h1, by rw [h2]; exact k _ h3⟩
    · exact .inr ⟨p, q, h1, h2, h3, h4, k _ h5⟩
  | ne =>
    rcases eqV_ok (Kq := fun b => Kq (!b)) x g1 g2 h with ⟨b, h1, h2, h3⟩ | ⟨p, q, h1, h2, h3, h4, h5⟩
    · exact .inl ⟨h1, by rw [h2]; exact k _ h3⟩
    · exact .inr ⟨p, q, h1, h2, h3, h4, k _ h5⟩
  | lt =>
    cases d1 <;> try exact h.elim
    cases d2 <;> try exact h.elim
    obtain rfl : v1 = _ := g1
    obtain rfl : v2 = _ := g2
    exact ⟨_, _, rfl, rfl, k _ h⟩
  | le =>
    cases d1 <;> try exact h.elim
    cases d2 <;> try exact h.elim
    obtain rfl : v1 = _ := g1
    obtain rfl : v2 = _ := g2
    exact ⟨_, _, rfl, rfl, k _ h⟩
  | gt =>
    cases d1 <;> try exact h.elim
    cases d2 <;> try exact h.elim
    obtain rfl : v1 = _ := g1
    obtain rfl : v2 = _ := g2
    exact ⟨_, _, rfl, rfl, k _ h⟩
  | ge =>
    cases d1 <;> try exact h.elim
    cases d2 <;> try exact h.elim
    obtain rfl : v1 = _ := g1
    obtain rfl : v2 = _ := g2
    exact ⟨_, _, rfl, rfl, k _ h⟩
  | isin =>
    rcases inV_ok x g1 g2 h with ⟨c, z, h1, h2, h3⟩ | ⟨p, ds, h1, h2, h3, h4, h5⟩ | ⟨p, ds, h1, h2, h3, h4, h5⟩
    · exact .inl ⟨c, z, h1, h2, k _ h3⟩
    · exact .inr (.inl ⟨p, ds, h1, h2, h3, h4, k _ h5⟩)
    · exact .inr (.inr ⟨p, ds, h1, h2, h3, h4, k _ h5⟩)
  | notin =>
    rcases inV_ok (Kq := fun b => Kq (!b)) x g1 g2 h with ⟨c, z, h1, h2, h3⟩ | ⟨p, ds, h1, h2, h3, h4, h5⟩ | ⟨p, ds, h1, h2, h3, h4, h5⟩
    · exact .inl ⟨c, z, h1, h2, k _ h3⟩
    · exact .inr (.inl ⟨p, ds, h1, h2, h3, h4, k _ h5⟩)
    · exact .inr (.inr ⟨p, ds, h1, h2, h3, h4, k _ h5⟩)
  | isn =>
    cases d2 <;> try exact h.elim
    obtain rfl : v2 = _ := g2
    refine ⟨rfl, ?_⟩
    rw [vd_none g1]
    cases d1 <;> exact k _ h
  | notn =>
    cases d2 <;> try exact h.elim
    obtain rfl : v2 = _ := g2
    refine ⟨rfl, ?_⟩
    rw [vd_none g1]
    cases d1 <;> exact k _ h
end
end PI
set_option maxHeartbeats 2000000
namespace PI
open PySem PySem.Spec PyProof.Rows L2

/-! ### a value goes where others may see it -/
section
variable {G : Gh} {mu0 mu : List Addr} {Fz0 Fz : Addr → Prop} {env0 env : PEnv} {st : PSto} {σ : L2.St} {H0 H : Hp}
/-- a new list of nobody's -/
def isT : R → Prop
  | .tmp _ => True
  | _ => False
/-- behind it: what is at another address is as free as it was -/
structure Esd (r0 : R) (p : V) (mu : List Addr) (Fz : Addr → Prop) (env : PEnv) (σ : L2.St) (H : Hp) (mu' : List Addr) (Fz' : Addr → Prop) (env' : PEnv) : Prop where
  pr : Pr mu Fz H mu' Fz' H
  fz : ∀ q, ¬ (isT r0 ∧ p = V.ref q) → ¬ Fz q → ¬ Fz' q ∨ OwnA env σ q
  mx : ∀ q, ¬ (isT r0 ∧ p = V.ref q) → q ∉ mu → q ∉ mu' ∨ OwnA env σ q
  ow : ∀ q, OwnA env' σ q → OwnA env σ q
theorem Esd.refl (r0 : R) (p : V) : Esd r0 p mu Fz env σ H mu Fz env := ⟨Pr.same (Same.refl H), fun _ _ h => .inl h, fun _ _ h => .inl h, fun _ h => h⟩
theorem Esd.rr {r0 : R} {p : V} {mu' : List Addr} {Fz' : Addr → Prop} {env' : PEnv} (e : Esd r0 p mu Fz env σ H mu' Fz' env') {r : R} {v : V} (h : RR G mu Fz env σ H r v) (hn : isT r → isT r0 → v ≠ p) : RR G mu' Fz' env' σ H r v := by
  cases r with
  | d y => exact RV.mono e.pr h
  | brw i => exact h
  | tmp ds =>
    obtain ⟨q, vs, rfl, e1, e2, e3, e4, e5, e6⟩ := h
    refine ⟨q, vs, rfl, e1, e2.mono e.pr, ?_, ?_, fun z => e5 (e.ow q z), e6⟩
    · rcases e.fz q (fun z => hn True.intro z.1 z.2.symm) e3 with z | z
      · exact z
      · exact absurd z e5
    · rcases e.mx q (fun z => hn True.intro z.1 z.2.symm) e4 with z | z
      · exact z
      · exact absurd z e5

theorem get_set_other {env : PEnv} {i j : Nat} {s : Sl} (h : i ≠ j) : (env.set i s)[j]? = env[j]? := by rw [List.getElem?_set_ne h]
/-- a list that nobody else has is frozen -/
theorem Rel.freeze (x : Rel G mu Fz env st σ H) (s : Stp mu0 Fz0 env0 σ H0 mu Fz env H) {p : Addr} {vs : List V} (e : H p = some (.lst vs)) (hz : ¬ Fz p) (hm : p ∉ mu) (ho : ¬ OwnA env σ p) (h0 : G.H0 p = none) (hf : OwnA env0 σ p ∨ H0 p = none) :
    Rel G mu (fun a => Fz a ∨ a = p) env st σ H ∧ Stp mu0 Fz0 env0 σ H0 mu (fun a => Fz a ∨ a = p) env H := by
  have pr : Pr mu Fz H mu (fun a => Fz a ∨ a = p) H := ⟨fun _ _ h _ _ => h, fun _ h => .inl h, fun _ _ _ h => h, [], by simp⟩
  refine ⟨⟨x.len, fun i d q => ?_, fun i ds q => ?_, x.sep, x.mlen, fun r c q => ?_, x.mnd, fun a ha => ?_, fun a ha => ?_, x.pre, x.new, fun a ha => .inl (x.fz0 a ha), fun a ha => ?_, x.keep⟩, s.mux, s.mun, fun a ha => .inl (s.fz a ha), fun a ha => ?_, s.kp, s.sm, s.own, s.sz⟩
  · obtain ⟨v, h1, h2⟩ := x.val i d q
    exact ⟨v, h1, h2.mono pr⟩
  · obtain ⟨a, ws, h1, h2, h3, h4, h5, h6⟩ := x.own i ds q
    exact ⟨a, ws, h1, h2, h3.mono pr, fun z => z.elim h4 fun z => ho (z ▸ ⟨i, ds, q, h1⟩), h5, h6⟩
  · obtain ⟨a, h1, h2⟩ := x.cell r c q
    exact ⟨a, h1, h2.mono pr fun _ z => z⟩
  · rintro (z | z)
    · exact x.mfz a ha z
    · exact hm (z ▸ ha)
  · rcases ha with z | rfl
    · exact x.fzl a z
    · exact ⟨vs, e⟩
  · rcases ha with z | rfl
    · exact x.fzn a z
    · exact .inr h0
  · rcases ha with z | rfl
    · exact s.fzn a z
    · exact .inr hf
/-- .. becomes a cell -/
theorem Rel.toCell (x : Rel G mu Fz env st σ H) (s : Stp mu0 Fz0 env0 σ H0 mu Fz env H) {p : Addr} {vs : List V} {ds : List D} (e : H p = some (.lst vs)) (hr : RVs G.K G.mg mu Fz H ds vs) (hz : ¬ Fz p) (hm : p ∉ mu) (ho : ¬ OwnA env σ p) (h0 : G.H0 p = none) (hf : OwnA env0 σ p ∨ H0 p = none) :
    Rel G (mu ++ [p]) Fz env (st ++ [.lst ds]) σ H ∧ Stp mu0 Fz0 env0 σ H0 (mu ++ [p]) Fz env H := by
  have pr : Pr mu Fz H (mu ++ [p]) Fz H := ⟨fun _ _ h _ _ => h, fun _ h => h, fun _ _ _ h => h, [p], rfl⟩
  refine ⟨⟨x.len, fun i d q => ?_, fun i ds q => ?_, x.sep, by rw [List.length_append, List.length_append, x.mlen]; rfl, fun r c q => ?_, ?_, fun a ha => ?_, x.fzl, ?_, fun a ha => ?_, x.fz0, x.fzn, x.keep⟩, ?_, fun a ha => ?_, s.fz, s.fzn, s.kp, s.sm, s.own, s.sz⟩
  · obtain ⟨v, h1, h2⟩ := x.val i d q
    exact ⟨v, h1, h2.mono pr⟩
  · obtain ⟨a, ws, h1, h2, h3, h4, h5, h6⟩ := x.own i ds q
    refine ⟨a, ws, h1, h2, h3.mono pr, h4, fun z => ?_, h6⟩
    rcases List.mem_append.mp z with z | z
    · exact h5 z
    · rw [List.mem_singleton] at z
      exact ho (z ▸ ⟨i, ds, q, h1⟩)
  · by_cases hlt : r < st.length
    · rw [List.getElem?_append_left hlt] at q
      obtain ⟨a, h1, h2⟩ := x.cell r c q
      exact ⟨a, pr.muget h1, h2.mono pr fun _ z => z⟩
    · rw [List.getElem?_append_right (by omega)] at q
      have hr0 : r - st.length = 0 := by
        have := List.getElem?_eq_some_iff.mp q
        have := this.1
        simp at this
        omega
      rw [hr0] at q
      cases q
      refine ⟨p, ?_, vs, e, hr.mono pr⟩
      rw [List.getElem?_append_right (by rw [x.mlen]; omega), x.mlen, hr0]
      rfl
  · rw [List.nodup_append]
    exact ⟨x.mnd, by simp, fun a ha b hb z => by
      rw [List.mem_singleton] at hb
      subst z
      subst hb
      exact hm ha⟩
  · rcases List.mem_append.mp ha with z | z
    · exact x.mfz a z
    · rw [List.mem_singleton] at z
      rw [z]; exact hz
  · obtain ⟨l, q⟩ := x.pre
    exact ⟨l ++ [p], by rw [q, List.append_assoc]⟩
  · rcases List.mem_append.mp ha with z | z
    · exact x.new a z
    · rw [List.mem_singleton] at z
      rw [z]; exact .inr h0
  · obtain ⟨l, q⟩ := s.mux
    exact ⟨l ++ [p], by rw [q, List.append_assoc]⟩
  · rcases List.mem_append.mp ha with z | z
    · exact s.mun a z
    · rw [List.mem_singleton] at z
      rw [z]; exact .inr hf
/-- an own list of a slot is given up: the slot holds d, which is it -/
theorem Rel.giveUp (x : Rel G mu Fz env st σ H) (s : Stp mu0 Fz0 env0 σ H0 mu Fz env H) {i : Nat} {ds : List D} (he : env[i]? = some (.own ds)) : ∃ p vs, σ[i]? = some (some (.ref p)) ∧ H p = some (.lst vs) ∧ RVs G.K G.mg mu Fz H ds vs ∧ ¬ Fz p ∧ p ∉ mu ∧ G.H0 p = none ∧ OwnA env0 σ p ∧
    Rel G mu Fz (env.set i .no) st σ H ∧ Stp mu0 Fz0 env0 σ H0 mu Fz (env.set i .no) H ∧ ¬ OwnA (env.set i .no) σ p ∧ ∀ q, OwnA (env.set i .no) σ q → OwnA env σ q := by
  obtain ⟨p, vs, h1, h2, h3, h4, h5, h6⟩ := x.own i ds he
  have hi : i < env.length := (List.getElem?_eq_some_iff.mp he).1
  have oth : ∀ (j : Nat) (sl : Sl), sl ≠ .no → (env.set i .no)[j]? = some sl → env[j]? = some sl ∧ j ≠ i := fun j sl hn q => by
    by_cases hj : i = j
    · subst hj
      rw [List.getElem?_set_self hi] at q
      cases q
      exact absurd rfl hn
    · rw [List.getElem?_set_ne hj] at q
      exact ⟨q, fun z => hj z.symm⟩
  have othO : ∀ (j : Nat) (es : List D), (env.set i .no)[j]? = some (.own es) → env[j]? = some (.own es) ∧ j ≠ i := fun j es q => oth j (.own es) (fun z => nomatch z) q
  have othV : ∀ (j : Nat) (d : D), (env.set i .no)[j]? = some (.val d) → env[j]? = some (.val d) := fun j d q => (oth j (.val d) (fun z => nomatch z) q).1
  have ow : ∀ q, OwnA (env.set i .no) σ q → OwnA env σ q := fun q ⟨j, es, e1, e2⟩ => ⟨j, es, (othO j es e1).1, e2⟩
  refine ⟨p, vs, h1, h2, h3, h4, h5, h6, s.ownA ⟨i, ds, he, h1⟩, ?_, ?_, ?_, ow⟩
  · refine ⟨by rw [List.length_set]; exact x.len, fun j d q => x.val j d (othV j d q), fun j es q => x.own j es (othO j es q).1, fun j k es fs a q1 q2 => x.sep j k es fs a (othO j es q1).1 (othO k fs q2).1, x.mlen, x.cell, x.mnd, x.mfz, x.fzl, x.pre, x.new, x.fz0, x.fzn, x.keep⟩
  · exact ⟨s.mux, s.mun, s.fz, s.fzn, s.kp, s.sm, fun j es q => s.own j es (othO j es q).1, by rw [List.length_set]; exact s.sz⟩
  · rintro ⟨j, es, e1, e2⟩
    obtain ⟨e1, hj⟩ := othO j es e1
    exact hj (x.sep j i es ds p e1 he e2 h1)
/-- a free slot is given a value that is seen already -/
theorem Rel.putVal (x : Rel G mu Fz env st σ H) (s : Stp mu0 Fz0 env0 σ H0 mu Fz env H) {i : Nat} {d : D} {v : V} (he : env[i]? = some .no) (hv : σ[i]? = some (some v)) (h : RV G.K G.mg mu Fz H d v) :
    Rel G mu Fz (env.set i (.val d)) st σ H ∧ Stp mu0 Fz0 env0 σ H0 mu Fz (env.set i (.val d)) H ∧ ∀ q, OwnA (env.set i (.val d)) σ q → OwnA env σ q := by
  have hi : i < env.length := (List.getElem?_eq_some_iff.mp he).1
  have oth : ∀ (j : Nat) (ds : List D), (env.set i (.val d))[j]? = some (.own ds) → env[j]? = some (.own ds) := fun j ds q => by
    by_cases hj : i = j
    · subst hj
      rw [List.getElem?_set_self hi] at q
      cases q
    · rw [List.getElem?_set_ne hj] at q
      exact q
  refine ⟨⟨by rw [List.length_set]; exact x.len, fun j e q => ?_, fun j es q => x.own j es (oth j es q), fun j k es fs a q1 q2 => x.sep j k es fs a (oth j _ q1) (oth k _ q2), x.mlen, x.cell, x.mnd, x.mfz, x.fzl, x.pre, x.new, x.fz0, x.fzn, x.keep⟩, ⟨s.mux, s.mun, s.fz, s.fzn, s.kp, s.sm, fun j es q => s.own j es (oth j es q), by rw [List.length_set]; exact s.sz⟩, fun q ⟨j, es, e1, e2⟩ => ⟨j, es, oth j es e1, e2⟩⟩
  by_cases hj : i = j
  · subst hj
    rw [List.getElem?_set_self hi] at q
    cases q
    exact ⟨v, hv, h⟩
  · rw [List.getElem?_set_ne hj] at q
    exact x.val j e q
theorem set_no_set {env : PEnv} {i : Nat} {s : Sl} : (env.set i .no).set i s = env.set i s := by rw [List.set_set]

/-- THE RULE -/
theorem esc_ok {m : Bool} {r : R} {v : V} {Kq : D → PEnv → PSto → Prop} (x : Rel G mu Fz env st σ H) (s : Stp mu0 Fz0 env0 σ H0 mu Fz env H) (rr : RR G mu Fz env σ H r v) (fr : Frh H0 r v) (q : esc m r env st Kq) :
    ∃ mu' Fz' env' st' d, Rel G mu' Fz' env' st' σ H ∧ Stp mu0 Fz0 env0 σ H0 mu' Fz' env' H ∧ Esd r v mu Fz env σ H mu' Fz' env' ∧ RV G.K G.mg mu' Fz' H d v ∧ Kq d env' st' := by
  cases r with
  | d y => exact ⟨mu, Fz, env, st, y, x, s, .refl _ v, rr, q⟩
  | tmp ds =>
    obtain ⟨p, vs, rfl, e1, e2, e3, e4, e5, e6⟩ := rr
    cases m with
    | false =>
      obtain ⟨x', s'⟩ := x.freeze s e1 e3 e4 e5 e6 (.inr (fr p rfl))
      have pr : Pr mu Fz H mu (fun a => Fz a ∨ a = p) H := ⟨fun _ _ h _ _ => h, fun _ h => .inl h, fun _ _ _ h => h, [], by simp⟩
      exact ⟨mu, _, env, st, .lst ds, x', s', ⟨pr, fun b hb hz => .inl fun z => z.elim hz fun z => hb ⟨True.intro, by rw [z]⟩, fun _ _ h => .inl h, fun _ h => h⟩, ⟨p, vs, rfl, e1, .inr rfl, e2.mono pr⟩, q⟩
    | true =>
      obtain ⟨x', s'⟩ := x.toCell s e1 e2 e3 e4 e5 e6 (.inr (fr p rfl))
      have pr : Pr mu Fz H (mu ++ [p]) Fz H := ⟨fun _ _ h _ _ => h, fun _ h => h, fun _ _ _ h => h, [p], rfl⟩
      refine ⟨mu ++ [p], Fz, env, st ++ [Cell.lst ds], .ref st.length, x', s', ⟨pr, fun b hb hz => .inl hz, fun b hb hz => .inl fun z => ?_, fun _ h => h⟩, ⟨p, rfl, ?_⟩, q⟩
      · rcases List.mem_append.mp z with z | z
        · exact hz z
        · rw [List.mem_singleton] at z
          exact hb ⟨True.intro, by rw [z]⟩
      · rw [← x.mlen, List.getElem?_append_right (Nat.le_refl _), Nat.sub_self]
        rfl
  | brw i =>
    have hv : σ[i]? = some (some v) := rr
    unfold esc at q
    cases he : env[i]? with
    | none => simp only [he] at q
    | some sl =>
      cases sl with
      | no => simp only [he] at q
      | val d =>
        simp only [he] at q
        obtain ⟨w, e1, e2⟩ := x.val i d he
        rw [hv] at e1; cases e1
        exact ⟨mu, Fz, env, st, d, x, s, .refl _ v, e2, q⟩
      | own ds =>
        simp only [he] at q
        obtain ⟨p, vs, e1, e2, e3, e4, e5, e6, e7, x1, s1, n1, w1⟩ := x.giveUp s he
        rw [hv] at e1; cases e1
        have hi : i < env.length := (List.getElem?_eq_some_iff.mp he).1
        have hown : OwnA env σ p := ⟨i, ds, he, hv⟩
        cases m with
        | false =>
          simp only at q
          obtain ⟨x2, s2⟩ := x1.freeze s1 e2 e4 e5 n1 e6 (.inl e7)
          have pr : Pr mu Fz H mu (fun a => Fz a ∨ a = p) H := ⟨fun _ _ h _ _ => h, fun _ h => .inl h, fun _ _ _ h => h, [], by simp⟩
          obtain ⟨x3, s3, w3⟩ := x2.putVal s2 (i := i) (d := .lst ds) (v := .ref p) (by rw [List.getElem?_set_self hi]) hv ⟨p, vs, rfl, e2, .inr rfl, e3.mono pr⟩
          rw [set_no_set] at x3 s3 w3
          exact ⟨mu, _, _, st, .lst ds, x3, s3, ⟨pr, fun b hb hz => (Classical.em (OwnA env σ b)).elim .inr fun ho => .inl fun z => z.elim hz fun z => ho (z ▸ hown), fun _ _ h => .inl h, fun b h => w1 b (w3 b h)⟩, ⟨p, vs, rfl, e2, .inr rfl, e3.mono pr⟩, q⟩
        | true =>
          simp only at q
          obtain ⟨x2, s2⟩ := x1.toCell s1 e2 e3 e4 e5 n1 e6 (.inl e7)
          have pr : Pr mu Fz H (mu ++ [p]) Fz H := ⟨fun _ _ h _ _ => h, fun _ h => h, fun _ _ _ h => h, [p], rfl⟩
          have hr : RV G.K G.mg (mu ++ [p]) Fz H (.ref st.length) (.ref p) := ⟨p, rfl, by
            rw [← x.mlen, List.getElem?_append_right (Nat.le_refl _), Nat.sub_self]
            rfl⟩
          obtain ⟨x3, s3, w3⟩ := x2.putVal s2 (i := i) (d := .ref st.length) (v := .ref p) (by rw [List.getElem?_set_self hi]) hv hr
          rw [set_no_set] at x3 s3 w3
          refine ⟨_, Fz, _, _, .ref st.length, x3, s3, ⟨pr, fun b hb hz => .inl hz, fun b hb hz => (Classical.em (OwnA env σ b)).elim .inr fun ho => .inl fun z => ?_, fun b h => w1 b (w3 b h)⟩, hr, q⟩
          rcases List.mem_append.mp z with z | z
          · exact hz z
          · rw [List.mem_singleton] at z
            exact ho (z ▸ hown)
end

/-! ### several values -/
/-- no new list of these stands at v -/
def NT (v : V) : List (Bool × R) → List V → Prop
  | (_, .tmp _) :: rs, w :: ws => w ≠ v ∧ NT v rs ws
  | (_, .d _) :: rs, _ :: ws => NT v rs ws
  | (_, .brw _) :: rs, _ :: ws => NT v rs ws
  | _, _ => True
def RRs (G : Gh) (mu : List Addr) (Fz : Addr → Prop) (env : PEnv) (σ : L2.St) (H : Hp) : List (Bool × R) → List V → Prop
  | [], vs => vs = []
  | (_, r) :: rs, vs => ∃ v w, vs = v :: w ∧ RR G mu Fz env σ H r v ∧ RRs G mu Fz env σ H rs w ∧ (isT r → NT v rs w)
def Frhs (H : Hp) : List (Bool × R) → List V → Prop
  | [], _ => True
  | (_, r) :: rs, v :: vs => Frh H r v ∧ Frhs H rs vs
  | _ :: _, [] => True
def tA (G : Gh) (w : PEnv → PSto → (List (Bool × R) → PEnv → PSto → Prop) → Prop) : TA := fun σ H Q => ∃ mu Fz env st Qp, Rel G mu Fz env st σ H ∧ w env st Qp ∧
  ∀ mu' Fz' env' st' H' rs vs, Rel G mu' Fz' env' st' σ H' → Stp mu Fz env σ H mu' Fz' env' H' → RRs G mu' Fz' env' σ H' rs vs → Frhs H rs vs → Qp rs env' st' → Q vs H'
theorem Frhs.sm {H H' : Hp} (k : ∀ p, H' p = none → H p = none) : ∀ {rs : List (Bool × R)} {vs : List V}, Frhs H' rs vs → Frhs H rs vs
  | [], _, _ => trivial
  | _ :: _, [], _ => trivial
  | (_, r) :: rs, v :: vs, h => ⟨h.1.sm k, Frhs.sm k h.2⟩
/-- what is new now isn't what stood already -/
theorem nt_of {H : Hp} {v : V} (hv : ∀ p, v = .ref p → H p ≠ none) : ∀ {rs : List (Bool × R)} {vs : List V} {G : Gh} {mu : List Addr} {Fz : Addr → Prop} {env : PEnv} {σ : L2.St} {H' : Hp}, RRs G mu Fz env σ H' rs vs → Frhs H rs vs → NT v rs vs
  | [], _, _, _, _, _, _, _, h, _ => by
    obtain rfl := h
    exact True.intro
  | (b, r) :: rs, vs, G, mu, Fz, env, σ, H', h, f => by
    obtain ⟨w, ws, rfl, h1, h2, _⟩ := h
    obtain ⟨f1, f2⟩ := f
    have ih := nt_of hv h2 f2
    cases r with
    | d x => exact ih
    | brw i => exact ih
    | tmp ds =>
      obtain ⟨p, us, rfl, _⟩ := h1
      refine ⟨fun z => ?_, ih⟩
      exact hv p z.symm (f1 p rfl)
section
variable {G : Gh} {mu0 mu : List Addr} {Fz0 Fz : Addr → Prop} {env0 env : PEnv} {st : PSto} {σ : L2.St} {H0 H : Hp}
theorem RRs.esd {r0 : R} {v : V} {mu' : List Addr} {Fz' : Addr → Prop} {env' : PEnv} (e : Esd r0 v mu Fz env σ H mu' Fz' env') : ∀ {rs : List (Bool × R)} {vs : List V}, RRs G mu Fz env σ H rs vs → (isT r0 → NT v rs vs) → RRs G mu' Fz' env' σ H rs vs
  | [], _, h, _ => h
  | (b, r) :: rs, vs, h, n => by
    obtain ⟨w, ws, rfl, h1, h2, h3⟩ := h
    cases r with
    | d x => exact ⟨w, ws, rfl, e.rr h1 (fun z => z.elim), RRs.esd e h2 n, h3⟩
    | brw i => exact ⟨w, ws, rfl, e.rr h1 (fun z => z.elim), RRs.esd e h2 n, h3⟩
    | tmp ds => exact ⟨w, ws, rfl, e.rr h1 fun _ z => (n z).1, RRs.esd e h2 (fun z => (n z).2), h3⟩
theorem escs_ok : ∀ {rs : List (Bool × R)} {vs : List V} {Kq : List D → PEnv → PSto → Prop} {mu : List Addr} {Fz : Addr → Prop} {env : PEnv} {st : PSto}, Rel G mu Fz env st σ H → Stp mu0 Fz0 env0 σ H0 mu Fz env H →
    RRs G mu Fz env σ H rs vs → Frhs H0 rs vs → escs rs env st Kq → ∃ mu' Fz' env' st' ds, Rel G mu' Fz' env' st' σ H ∧ Stp mu0 Fz0 env0 σ H0 mu' Fz' env' H ∧ Pr mu Fz H mu' Fz' H ∧ RVs G.K G.mg mu' Fz' H ds vs ∧ Kq ds env' st'
  | [], _, Kq, mu, Fz, env, st, x, s, h, _, q => by
    obtain rfl := h
    exact ⟨mu, Fz, env, st, [], x, s, Pr.same (Same.refl H), rfl, q⟩
  | (m, r) :: rs, vs, Kq, mu, Fz, env, st, x, s, h, f, q => by
    obtain ⟨v, w, rfl, h1, h2, h3⟩ := h
    obtain ⟨mu1, Fz1, env1, st1, d, x1, s1, e1, rv, q⟩ := esc_ok x s h1 f.1 q
    obtain ⟨mu2, Fz2, env2, st2, ds, x2, s2, p2, rvs, q⟩ := escs_ok x1 s1 (h2.esd e1 h3) f.2 q
    refine ⟨mu2, Fz2, env2, st2, d :: ds, x2, s2, ⟨fun a o e z1 z2 => p2.fix a o (e1.pr.fix a o e z1 z2) z1 z2, fun a z => p2.fz a (e1.pr.fz a z), fun a o _ e => e, ?_⟩, ⟨v, w, rfl, rv.mono p2, rvs⟩, q⟩
    obtain ⟨l, rfl⟩ := e1.pr.mux
    obtain ⟨l', rfl⟩ := p2.mux
    exact ⟨l ++ l', by rw [List.append_assoc]⟩
end
theorem RRs.mono {G : Gh} {mu mu' : List Addr} {Fz Fz' : Addr → Prop} {env env' : PEnv} {st : PSto} {σ : L2.St} {H H' : Hp} (x : Rel G mu Fz env st σ H) (s : Stp mu Fz env σ H mu' Fz' env' H') : ∀ {rs : List (Bool × R)} {vs : List V}, RRs G mu Fz env σ H rs vs → RRs G mu' Fz' env' σ H' rs vs
  | [], _, h => h
  | (b, r) :: rs, vs, h => by
    obtain ⟨w, ws, rfl, h1, h2, h3⟩ := h
    exact ⟨w, ws, rfl, h1.mono x s, RRs.mono x s h2, h3⟩
theorem PA.imp {X : Cx} {es : List Expr} {t t' : TA} (h : PA X es t) (k : ∀ σ H Q, t' σ H Q → t σ H Q) : PA X es t' := ⟨fun pos pins s σ H Q I q => h.run pos pins s σ H Q I (k σ H Q q)⟩
section
variable {X : Cx} {G : Gh} {T : Tab} {CALL : CallT} {EX : QX}
theorem sa_nil : PA X [] (tA G (wpEs T CALL EX .nil)) := PA.imp pa_nil fun σ H Q ⟨mu, Fz, env, st, Qp, x, h, k⟩ => by
  unfold wpEs at h
  exact k mu Fz env st H [] [] x .refl rfl True.intro h
theorem sa_cons {m : Bool} {p : E} {ps : Es} {e : Expr} {es : List Expr} (ha : PE X e (tE G (wpE T CALL EX p))) (hr : PA X es (tA G (wpEs T CALL EX ps))) (hs : starEach (e :: es) X.env = (false, eval e X.env) :: starEach es X.env) :
    PA X (e :: es) (tA G (wpEs T CALL EX (.cons m p ps))) := PA.imp (pa_cons ha hr hs) fun σ H Q ⟨mu, Fz, env, st, Qp, x, h, k⟩ => by
  unfold wpEs at h
  refine tE.mk x h fun mu1 Fz1 env1 st1 H1 r v x1 s1 rr1 f1 h1 => ⟨mu1, Fz1, env1, st1, _, x1, h1, fun mu2 Fz2 env2 st2 H2 rs vs x2 s2 rrs f2 q => ?_⟩
  refine k mu2 Fz2 env2 st2 H2 ((m, r) :: rs) (v :: vs) x2 (s1.trans s2) ⟨v, vs, rfl, rr1.mono x1 s2, rrs, ?_⟩ ⟨f1, f2.sm fun _ z => s1.sm _ z⟩ q
  -- a new list of the first doesn't stand where one of the others does
  cases r with
  | tmp ds =>
    obtain ⟨p, us, rfl, e1, _⟩ := rr1
    exact fun _ => nt_of (H := H1) (fun q z => by cases z; rw [e1]; exact fun z => nomatch z) rrs f2
  | d y => exact fun z => z.elim
  | brw i => exact fun z => z.elim
end
end PI
set_option maxHeartbeats 2000000
namespace PI
open PySem PySem.Spec PyProof.Rows L2

section
variable {X : Cx} {G : Gh} {T : Tab} {CALL : CallT} {EX : QX}
/-! ### names, constants -/
theorem se_slot {i : Nat} {x : Str} {pos : Pos} (hN : X.N[i]? = some x) (hv : Vis X.env.scope x) (hd : (x == ("__debug__" : Str)) = false) (hcd : (x == ("__classdict__" : Str)) = false) : SE X G (wpE T CALL EX (.slot i)) (.Name x pos) := by
  refine SE.ofv (pe_var hN hv hd hcd) (by intro _; rfl) fun σ H Q h => ?_
  obtain ⟨mu, Fz, env, st, Qp, x, h, k⟩ := h
  unfold wpE at h
  cases he : env[i]? with
  | none => simp only [he] at h
  | some sl =>
    cases sl with
    | no => simp only [he] at h
    | val d =>
      simp only [he] at h
      obtain ⟨v, h1, h2⟩ := x.val i d he
      exact ⟨v, h1, k mu Fz env st H (.d d) v x .refl h2 True.intro h⟩
    | own ds =>
      simp only [he] at h
      obtain ⟨a, vs, h1, h2, _⟩ := x.own i ds he
      exact ⟨_, h1, k mu Fz env st H (.brw i) _ x .refl h1 True.intro h⟩
theorem se_const {e : Expr} {d : D} {v : V} (h1 : PE X e (tC v)) (he : ∀ whole, isTrue e X.env whole = (do let v ← whole; standAt e.pos; holding [v] (truthy v))) (hv : ∀ mu Fz H, RV G.K G.mg mu Fz H d v) : SE X G (wpE T CALL EX (.const d)) e := by
  refine SE.ofv h1 he fun σ H Q h => ?_
  obtain ⟨mu, Fz, env, st, Qp, x, h, k⟩ := h
  exact k mu Fz env st H (.d d) v x .refl (hv mu Fz H) True.intro h

/-! ### operators -/
theorem se_bin {o : BOp} {p q : E} {a b : Expr} {pos : Pos} (hK : X.K = G.K) (ha : SE X G (wpE T CALL EX p) a) (hb : SE X G (wpE T CALL EX q) b) : SE X G (wpE T CALL EX (.bin o p q)) (.BinOp a (opOf o) b pos) := by
  refine SE.ofv (pe_op (op_B o) ha.ev hb.ev) (by intro _; rfl) fun σ H Q h => ?_
  rw [hK]
  refine two (f := fun env st x y Q => opB o x y fun r => Q r env st) (fun mu Fz env st H d1 v1 d2 v2 Qp Qv x g1 g2 h k => ?_) h
  exact rB_ok o g1 g2 h fun r v H' o q => k r v H' o q
theorem se_neg {p : E} {a : Expr} {pos : Pos} (ha : SE X G (wpE T CALL EX p) a) : SE X G (wpE T CALL EX (.neg p)) (.UnaryOp .USub a pos) := by
  refine SE.ofv (pe_un un_neg ha.ev) (by intro _; rfl) fun σ H Q h => ?_
  refine one (f := fun env st x Q => match x with
    | .int i => Q (.d (.int (-i))) env st
    | _ => False) (fun mu Fz env st H d1 v1 Qp Qv x g1 h k => ?_) h
  cases d1 <;> try exact h.elim
  obtain rfl : v1 = _ := g1
  exact ⟨_, rfl, k _ _ _ Out.int h⟩
theorem behind_of {op : COp} {b : Expr} (h : ∀ e k p, b ≠ .Set e k p) : behindInMarks (cOf op) b = false := by
  cases b <;> first
    | rfl
    | exact absurd rfl (h _ _ _)
theorem se_cmp {o : COp} {p q : E} {a b : Expr} {pos : Pos} (hK : X.K = G.K) (hu : X.A.units + 65 < cLine) (hs : ∀ e k p, b ≠ .Set e k p) (ha : SE X G (wpE T CALL EX p) a) (hb : SE X G (wpE T CALL EX q) b) : SE X G (wpE T CALL EX (.cmp o p q)) (.Compare a [cOf o] [b] pos) := by
  refine SE.ofr (op_C hu o) ha.ev hb.ev (behind_of hs) fun σ H Q h => ?_
  rw [hK]
  refine two (f := fun env st x y Q => cmpV o st x y fun b => Q (.d (.bl b)) env st) (fun mu Fz env st H d1 v1 d2 v2 Qp Qv x g1 g2 h k => ?_) h
  exact rC_ok x o g1 g2 h fun b q => k _ _ _ Out.bl q
theorem se_chain {o o2 : COp} {p q q2 : E} {a b c : Expr} {pos : Pos} (hK : X.K = G.K) (hu : X.A.units + 65 < cLine) (hs : ∀ e k p, c ≠ .Set e k p) (ha : SE X G (wpE T CALL EX p) a) (hb : SE X G (wpE T CALL EX q) b) (hc : SE X G (wpE T CALL EX q2) c) :
    SE X G (wpE T CALL EX (.chain o o2 p q q2)) (.Compare a [cOf o, cOf o2] [b, c] pos) := by
  have imp : ∀ σ H Q, tE G (wpE T CALL EX (.chain o o2 p q q2)) σ H Q → tChain (rC o X.K) (rC o2 X.K) (tE G (wpE T CALL EX p)) (tE G (wpE T CALL EX q)) (tE G (wpE T CALL EX q2)) σ H Q := fun σ H Q h => by
    rw [hK]
    obtain ⟨mu, Fz, env, st, Qp, x, h, k⟩ := h
    unfold wpE at h
    refine tE.mk x h fun mu1 Fz1 env1 st1 H1 ra va x1 s1 rr1 _ h1 => tE.mk x1 h1 fun mu2 Fz2 env2 st2 H2 rb vb x2 s2 rr2 _ h2 => ?_
    obtain ⟨d1, g1, h2⟩ := dr_ok x2 (rr1.mono x1 s2) h2
    obtain ⟨d2, g2, h2⟩ := dr_ok x2 rr2 h2
    refine rC_ok x2 o g1 g2 h2 fun b h2 => ⟨b, rfl, ?_⟩
    cases b with
    | false =>
      rw [if_neg Bool.false_ne_true]
      exact k _ _ _ _ _ (.d (.bl false)) _ x2 (s1.trans s2) rfl True.intro h2
    | true =>
      rw [if_pos rfl]
      refine tE.mk x2 h2 fun mu3 Fz3 env3 st3 H3 rc vc x3 s3 rr3 _ h3 => ?_
      obtain ⟨d2, g2, h3⟩ := dr_ok x3 (rr2.mono x2 s3) h3
      obtain ⟨d3, g3, h3⟩ := dr_ok x3 rr3 h3
      exact rC_ok x3 o2 g2 g3 h3 fun b h3 => k _ _ _ _ _ (.d (.bl b)) _ x3 ((s1.trans s2).trans s3) rfl True.intro h3
  exact SE.of (pe_chain (op_C hu o) (op_C hu o2) ha.ev hb.ev hc.ev (show behindInMarks (cOf o2) c = false from behind_of hs)) (pt_chain (op_C hu o) (op_C hu o2) ha.ev hb.ev hc.ev (show behindInMarks (cOf o2) c = false from behind_of hs)) imp

/-! ### and, or, not, if -/
/-- a value; a test whatever its whole is -/
structure SW (X : Cx) (G : Gh) (w : PEnv → PSto → QE → Prop) (e : Expr) : Prop where
  ev : PE X e (tE G w)
  wv : PW X e (tT G (wB w))
theorem SW.se {w : PEnv → PSto → QE → Prop} {e : Expr} (h : SW X G w e) : SE X G w e := ⟨h.ev, h.wv.pt⟩
theorem PW.imp {e : Expr} {t t' : TT} (h : PW X e t) (k : ∀ σ H Q, t' σ H Q → t σ H Q) : PW X e t' := ⟨fun wh pins s σ H Q I q => h.run wh pins s σ H Q I (k σ H Q q)⟩
theorem sw_and1 {w : PEnv → PSto → QE → Prop} {a : Expr} {pos : Pos} (ha : SE X G w a) : SW X G w (.BoolOp .And [a] pos) := ⟨pe_one ha.ev, pw_and1 ha.tv⟩
theorem sw_or1 {w : PEnv → PSto → QE → Prop} {a : Expr} {pos : Pos} (ha : SE X G w a) : SW X G w (.BoolOp .Or [a] pos) := ⟨pe_one ha.ev, pw_or1 ha.tv⟩
theorem tT.mk {w : PEnv → PSto → QE → Prop} {σ : L2.St} {H : Hp} {Q : Bool → Hp → Prop} {mu : List Addr} {Fz : Addr → Prop} {env : PEnv} {st : PSto} {Qp : Bool → PEnv → PSto → Prop} (x : Rel G mu Fz env st σ H) (h : wB w env st Qp)
    (k : ∀ mu' Fz' env' st' H' b, Rel G mu' Fz' env' st' σ H' → Stp mu Fz env σ H mu' Fz' env' H' → Qp b env' st' → Q b H') : tT G (wB w) σ H Q := ⟨mu, Fz, env, st, Qp, x, h, k⟩
theorem sw_and {p q : E} {a b : Expr} {rest : List Expr} {pos : Pos} (ha : SE X G (wpE T CALL EX p) a) (hb : SW X G (wpE T CALL EX q) (.BoolOp .And (b :: rest) pos)) : SW X G (wpE T CALL EX (.andv p q)) (.BoolOp .And (a :: b :: rest) pos) := by
  refine ⟨PE.imp (pe_and ha.ev hb.ev) fun σ H Q h => ?_, PW.imp (pw_and ha.tv hb.wv) fun σ H Q h => ?_⟩
  · obtain ⟨mu, Fz, env, st, Qp, x, h, k⟩ := h
    unfold wpE at h
    refine tE.mk x h fun mu1 Fz1 env1 st1 H1 r v x1 s1 rr1 _ h1 => ?_
    cases r with
    | d y =>
      cases y with
      | bl c =>
        obtain rfl : v = _ := rr1
        refine ⟨c, rfl, ?_⟩
        cases c with
        | true =>
          rw [if_pos rfl]
          exact tE.mk x1 h1 fun mu2 Fz2 env2 st2 H2 r2 v2 x2 s2 rr2 f2 h2 => k _ _ _ _ _ _ _ x2 (s1.trans s2) rr2 (f2.sm fun _ z => s1.sm _ z) h2
        | false =>
          rw [if_neg Bool.false_ne_true]
          exact k _ _ _ _ _ (.d (.bl false)) _ x1 s1 rfl True.intro h1
      | _ => exact h1.elim
    | _ => exact h1.elim
  · obtain ⟨mu, Fz, env, st, Qp, x, h, k⟩ := h
    unfold wB wpE at h
    refine tT.mk (Qp := fun c env st => match c with
      | true => wB (wpE T CALL EX q) env st Qp
      | false => Qp false env st) x ?_ fun mu1 Fz1 env1 st1 H1 c x1 s1 h1 => ?_
    · unfold wB
      have e : (fun (r : R) (env : PEnv) (st : PSto) => match r with
          | .d (.bl b) => (fun (c : Bool) (env : PEnv) (st : PSto) => match c with
            | true => wpE T CALL EX q env st fun r env st => match r with
              | .d (.bl b) => Qp b env st
              | _ => False
            | false => Qp false env st) b env st
          | _ => False) = fun x env st => match x with
          | .d (.bl true) => wpE T CALL EX q env st fun r env st => match r with
            | .d (.bl b) => Qp b env st
            | _ => False
          | .d (.bl false) => Qp false env st
          | _ => False := by
        funext r env st
        cases r with
        | d y =>
          cases y with
          | bl b => cases b <;> rfl
          | _ => rfl
        | _ => rfl
      exact Eq.mpr (congrArg (fun f => wpE T CALL EX p env st f) e) h
    · cases c with
      | true =>
        rw [if_pos rfl]
        exact tT.mk x1 h1 fun mu2 Fz2 env2 st2 H2 b x2 s2 h2 => k _ _ _ _ _ _ x2 (s1.trans s2) h2
      | false =>
        rw [if_neg Bool.false_ne_true]
        exact k _ _ _ _ _ _ x1 s1 h1
theorem sw_or {p q : E} {a b : Expr} {rest : List Expr} {pos : Pos} (ha : SE X G (wpE T CALL EX p) a) (hb : SW X G (wpE T CALL EX q) (.BoolOp .Or (b :: rest) pos)) : SW X G (wpE T CALL EX (.orv p q)) (.BoolOp .Or (a :: b :: rest) pos) := by
  refine ⟨PE.imp (pe_or ha.ev hb.ev) fun σ H Q h => ?_, PW.imp (pw_or ha.tv hb.wv) fun σ H Q h => ?_⟩
  · obtain ⟨mu, Fz, env, st, Qp, x, h, k⟩ := h
    unfold wpE at h
    refine tE.mk x h fun mu1 Fz1 env1 st1 H1 r v x1 s1 rr1 _ h1 => ?_
    cases r with
    | d y =>
      cases y with
      | bl c =>
        obtain rfl : v = _ := rr1
        refine ⟨c, rfl, ?_⟩
        cases c with
        | false =>
          rw [if_neg Bool.false_ne_true]
          exact tE.mk x1 h1 fun mu2 Fz2 env2 st2 H2 r2 v2 x2 s2 rr2 f2 h2 => k _ _ _ _ _ _ _ x2 (s1.trans s2) rr2 (f2.sm fun _ z => s1.sm _ z) h2
        | true =>
          rw [if_pos rfl]
          exact k _ _ _ _ _ (.d (.bl true)) _ x1 s1 rfl True.intro h1
      | _ => exact h1.elim
    | _ => exact h1.elim
  · obtain ⟨mu, Fz, env, st, Qp, x, h, k⟩ := h
    unfold wB wpE at h
    refine tT.mk (Qp := fun c env st => match c with
      | false => wB (wpE T CALL EX q) env st Qp
      | true => Qp true env st) x ?_ fun mu1 Fz1 env1 st1 H1 c x1 s1 h1 => ?_
    · unfold wB
      have e : (fun (r : R) (env : PEnv) (st : PSto) => match r with
          | .d (.bl b) => (fun (c : Bool) (env : PEnv) (st : PSto) => match c with
            | false => wpE T CALL EX q env st fun r env st => match r with
              | .d (.bl b) => Qp b env st
              | _ => False
            | true => Qp true env st) b env st
          | _ => False) = fun x env st => match x with
          | .d (.bl true) => Qp true env st
          | .d (.bl false) => wpE T CALL EX q env st fun r env st => match r with
            | .d (.bl b) => Qp b env st
            | _ => False
          | _ => False := by
        funext r env st
        cases r with
        | d y =>
          cases y with
          | bl b => cases b <;> rfl
          | _ => rfl
        | _ => rfl
      exact Eq.mpr (congrArg (fun f => wpE T CALL EX p env st f) e) h
    · cases c with
      | false =>
        rw [if_neg Bool.false_ne_true]
        exact tT.mk x1 h1 fun mu2 Fz2 env2 st2 H2 b x2 s2 h2 => k _ _ _ _ _ _ x2 (s1.trans s2) h2
      | true =>
        rw [if_pos rfl]
        exact k _ _ _ _ _ _ x1 s1 h1
theorem se_not {p : E} {a : Expr} {pos : Pos} (ha : SE X G (wpE T CALL EX p) a) : SE X G (wpE T CALL EX (.notv p)) (.UnaryOp .Not a pos) := by
  refine ⟨PE.imp (pe_not ha.ev) fun σ H Q h => ?_, PT.imp (pt_not ha.tv) fun σ H Q h => ?_⟩
  · obtain ⟨mu, Fz, env, st, Qp, x, h, k⟩ := h
    unfold wpE at h
    refine tE.mk x h fun mu1 Fz1 env1 st1 H1 r v x1 s1 rr1 _ h1 => ?_
    cases r with
    | d y =>
      cases y with
      | bl c =>
        obtain rfl : v = _ := rr1
        exact ⟨c, rfl, k _ _ _ _ _ (.d (.bl (!c))) _ x1 s1 rfl True.intro h1⟩
      | _ => exact h1.elim
    | _ => exact h1.elim
  · obtain ⟨mu, Fz, env, st, Qp, x, h, k⟩ := h
    unfold wB wpE at h
    refine tT.mk (Qp := fun c env st => Qp (!c) env st) x ?_ fun mu1 Fz1 env1 st1 H1 c x1 s1 h1 => k _ _ _ _ _ _ x1 s1 h1
    unfold wB
    have e : (fun (r : R) (env : PEnv) (st : PSto) => match r with
        | .d (.bl b) => Qp (!b) env st
        | _ => False) = fun x env st => match x with
        | .d (.bl b) => (match (R.d (.bl (!b))) with
          | .d (.bl b) => Qp b env st
          | _ => False)
        | _ => False := by
      funext r env st
      cases r with
      | d y => cases y <;> rfl
      | _ => rfl
    exact Eq.mpr (congrArg (fun f => wpE T CALL EX p env st f) e) h
theorem pt_ifExp {tc ta tb : TT} {c a b : Expr} {pos : Pos} (hc : PT X c tc) (ha : PT X a ta) (hb : PT X b tb) : PT X (.IfExp c a b pos) (fun σ H Q => tc σ H fun k H1 => if k = true then ta σ H1 Q else tb σ H1 Q) := by
  refine ⟨fun pins s σ H Q I h => ?_⟩
  refine isTrue_IfExp (thn (hc.run pins s σ H _ I h) fun d s1 ⟨H1, I1, q1⟩ => ?_)
  cases d with
  | true => exact ha.run pins s1 σ H1 Q I1 q1
  | false => exact hb.run pins s1 σ H1 Q I1 q1
theorem ite_eq {p q r : E} (env : PEnv) (st : PSto) (Q : QE) (h : wpE T CALL EX (.ite p q r) env st Q) : wB (wpE T CALL EX p) env st fun c env st => match c with
      | true => wpE T CALL EX q env st Q
      | false => wpE T CALL EX r env st Q := by
  unfold wpE at h
  unfold wB
  have e : (fun (z : R) (env : PEnv) (st : PSto) => match z with
      | .d (.bl b) => (fun (c : Bool) (env : PEnv) (st : PSto) => match c with
        | true => wpE T CALL EX q env st Q
        | false => wpE T CALL EX r env st Q) b env st
      | _ => False) = fun x env st => match x with
      | .d (.bl true) => wpE T CALL EX q env st Q
      | .d (.bl false) => wpE T CALL EX r env st Q
      | _ => False := by
    funext z env st
    cases z with
    | d y =>
      cases y with
      | bl b => cases b <;> rfl
      | _ => rfl
    | _ => rfl
  exact Eq.mpr (congrArg (fun f => wpE T CALL EX p env st f) e) h
theorem se_ite {p q r : E} {c a b : Expr} {pos : Pos} (hc : SE X G (wpE T CALL EX p) c) (ha : SE X G (wpE T CALL EX q) a) (hb : SE X G (wpE T CALL EX r) b) : SE X G (wpE T CALL EX (.ite p q r)) (.IfExp c a b pos) := by
  refine ⟨PE.imp (pe_ifExp hc.tv ha.ev hb.ev) fun σ H Q h => ?_, PT.imp (pt_ifExp hc.tv ha.tv hb.tv) fun σ H Q h => ?_⟩
  · obtain ⟨mu, Fz, env, st, Qp, x, h, k⟩ := h
    refine tT.mk x (ite_eq env st Qp h) fun mu1 Fz1 env1 st1 H1 c x1 s1 h1 => ?_
    cases c with
    | true =>
      rw [if_pos rfl]
      exact tE.mk x1 h1 fun mu2 Fz2 env2 st2 H2 r2 v2 x2 s2 rr2 f2 h2 => k _ _ _ _ _ _ _ x2 (s1.trans s2) rr2 (f2.sm fun _ z => s1.sm _ z) h2
    | false =>
      rw [if_neg Bool.false_ne_true]
      exact tE.mk x1 h1 fun mu2 Fz2 env2 st2 H2 r2 v2 x2 s2 rr2 f2 h2 => k _ _ _ _ _ _ _ x2 (s1.trans s2) rr2 (f2.sm fun _ z => s1.sm _ z) h2
  · obtain ⟨mu, Fz, env, st, Qp, x, h, k⟩ := h
    refine tT.mk x (ite_eq env st _ h) fun mu1 Fz1 env1 st1 H1 c x1 s1 h1 => ?_
    cases c with
    | true =>
      rw [if_pos rfl]
      exact tT.mk x1 h1 fun mu2 Fz2 env2 st2 H2 b x2 s2 h2 => k _ _ _ _ _ _ x2 (s1.trans s2) h2
    | false =>
      rw [if_neg Bool.false_ne_true]
      exact tT.mk x1 h1 fun mu2 Fz2 env2 st2 H2 b x2 s2 h2 => k _ _ _ _ _ _ x2 (s1.trans s2) h2

/-! ### displays -/
theorem se_tup {ps : Es} {es : List Expr} {x1 : Nat} {pos : Pos} (ha : PA X es (tA G (wpEs T CALL EX ps))) : SE X G (wpE T CALL EX (.tup ps)) (.Tuple es x1 pos) := by
  refine SE.ofv (pe_tup ha) (by intro _; rfl) fun σ H Q h => ?_
  obtain ⟨mu, Fz, env, st, Qp, x, h, k⟩ := h
  unfold wpE at h
  refine ⟨mu, Fz, env, st, _, x, h, fun mu1 Fz1 env1 st1 H1 rs vs x1 s1 rr1 f1 h1 => ?_⟩
  obtain ⟨mu2, Fz2, env2, st2, ds, x2, s2, p2, rv, hz, q⟩ := escs_ok x1 s1 rr1 f1 h1
  refine ⟨by rw [← rv.length]; exact hz, fun p hp => ?_⟩
  have o : Out G mu2 Fz2 H1 (.d (.tup ds)) (.ref p) (upd H1 p (.tup vs)) := Out.tup hp rv
  obtain ⟨x3, s3, rr3⟩ := o.fin x2
  exact k _ _ _ _ _ _ _ x3 (s2.trans s3) rr3 True.intro q
theorem se_lst {ps : Es} {es : List Expr} {pos : Pos} (ha : PA X es (tA G (wpEs T CALL EX ps))) : SE X G (wpE T CALL EX (.lst ps)) (.List es pos) := by
  refine SE.ofv (pe_lst ha) (by intro _; rfl) fun σ H Q h => ?_
  obtain ⟨mu, Fz, env, st, Qp, x, h, k⟩ := h
  unfold wpE at h
  refine ⟨mu, Fz, env, st, _, x, h, fun mu1 Fz1 env1 st1 H1 rs vs x1 s1 rr1 f1 h1 => ?_⟩
  obtain ⟨mu2, Fz2, env2, st2, ds, x2, s2, p2, rv, hz, q⟩ := escs_ok x1 s1 rr1 f1 h1
  refine ⟨by rw [← rv.length]; exact hz, fun p hp => ?_⟩
  have o : Out G mu2 Fz2 H1 (.tmp ds) (.ref p) (upd H1 p (.lst vs)) := Out.tmp hp rv
  obtain ⟨x3, s3, rr3⟩ := o.fin x2
  exact k _ _ _ _ _ _ _ x3 (s2.trans s3) rr3 (o.fr.sm fun _ z => s2.sm _ z) q
end
end PI
set_option maxHeartbeats 2000000
namespace PI
open PySem PySem.Spec PyProof.Rows L2

/-! ### items, slices -/
def isSlice : Expr → Bool
  | .Slice .. => true
  | _ => false
theorem plainIx_of {b : Expr} (h : isSlice b = false) : PlainIx b := by
  intro o i
  cases b <;> first
    | rfl
    | cases h
section
variable {G : Gh} {mu : List Addr} {Fz : Addr → Prop} {env : PEnv} {st : PSto} {σ : L2.St} {H : Hp}
theorem scr_sq {K : PySem.W.Frag} {mg : Str → Option Value} {ds : List D} {v : V} (h : RV K mg mu Fz H (.scr ds) v) : ∃ a vs, v = .ref a ∧ SqL K H a vs ∧ RVs K mg mu Fz H ds vs := by
  obtain ⟨a, vs, e, h1, h2⟩ := h
  refine ⟨a, vs, e, ?_, h2⟩
  rcases h1 with ⟨o, h1⟩ | h1
  · exact .inl (.inr ⟨o, h1⟩)
  · exact .inr h1
theorem idx_ok {d1 d2 : D} {v1 v2 : V} {Kq : KR} {Q : VK} (g1 : VD G.K G.mg mu Fz H d1 v1) (g2 : VD G.K G.mg mu Fz H d2 v2) (h : idxV d1 d2 Kq) (k : ∀ r v H', Out G mu Fz H r v H' → Kq r → Q v H') : rIx G.K v1 v2 H Q := by
  cases d1 <;> try exact h.elim
  · cases d2 <;> try exact h.elim
    obtain rfl : v1 = _ := g1
    obtain rfl : v2 = _ := g2
    rename_i z i
    obtain ⟨hz, h⟩ := h
    obtain ⟨c, e, h⟩ := oq_ok h
    exact .inr (.inr ⟨z, i, c, rfl, rfl, hz, e, k _ _ _ Out.str h⟩)
  · cases d2 <;> try exact h.elim
    rename_i ds i
    obtain ⟨a, vs, rfl, e1, q1⟩ := g1
    obtain rfl : v2 = _ := g2
    obtain ⟨c, e, h⟩ := oq_ok h
    obtain ⟨v, e2, rv⟩ := q1.atI e
    exact .inr (.inl ⟨a, vs, i, v, rfl, rfl, SqT.of e1, e2, k _ _ _ (Out.d rv) h⟩)
  · cases d2 <;> try exact h.elim
    rename_i ds i
    obtain ⟨a, vs, rfl, e1, q1⟩ := g1
    obtain rfl : v2 = _ := g2
    obtain ⟨c, e, h⟩ := oq_ok h
    obtain ⟨v, e2, rv⟩ := q1.atI e
    exact .inl ⟨a, vs, i, v, rfl, rfl, SqL.of e1, e2, k _ _ _ (Out.d rv) h⟩
  · cases d2 <;> try exact h.elim
    rename_i ds i
    obtain ⟨a, vs, rfl, e1, q1⟩ := scr_sq g1
    obtain rfl : v2 = _ := g2
    obtain ⟨c, e, h⟩ := oq_ok h
    obtain ⟨v, e2, rv⟩ := q1.atI e
    exact .inl ⟨a, vs, i, v, rfl, rfl, e1, e2, k _ _ _ (Out.d rv) h⟩
def rSl (K : PySem.W.Frag) : V → Option Int → Option Int → Hp → VK → Prop := fun x lo hi H Q => rSlL K x lo hi H Q ∨ rSlA K x lo hi H Q ∨ rSlS x lo hi H Q
theorem cut_whole {α : Type} {xs : List α} {lo hi : Option Int} (h : HT.sIx xs.length 0 lo = 0 ∧ HT.sIx xs.length xs.length hi = xs.length) : (xs.drop (HT.sIx xs.length 0 lo)).take (HT.sIx xs.length xs.length hi - HT.sIx xs.length 0 lo) = xs := by
  rw [h.1, h.2, List.drop_zero, Nat.sub_zero, List.take_length]
theorem slc_ok {d1 : D} {v1 : V} {lo hi : Option Int} {Kq : KR} {Q : VK} (g1 : VD G.K G.mg mu Fz H d1 v1) (h : slcV d1 lo hi Kq) (k : ∀ r v H', Out G mu Fz H r v H' → Kq r → Q v H') : rSl G.K v1 lo hi H Q := by
  cases d1 <;> try exact h.elim
  · obtain rfl : v1 = _ := g1
    exact .inr (.inr ⟨_, rfl, h.1, k _ _ _ Out.str h.2⟩)
  · rename_i ds
    obtain ⟨a, vs, rfl, e1, q1⟩ := g1
    refine .inr (.inl ⟨a, vs, rfl, SqT.of e1, fun z => ?_, fun z p hp => k _ _ _ (Out.tup hp (q1.cut lo hi)) h⟩)
    refine k (.d (.tup (cutD ds lo hi))) _ _ (Out.d ?_) h
    have e : cutD ds lo hi = ds := cut_whole (by rw [q1.length]; exact z)
    rw [e]
    exact ⟨a, vs, rfl, e1, q1⟩
  · obtain ⟨a, vs, rfl, e1, q1⟩ := g1
    exact .inl ⟨a, vs, rfl, SqL.of e1, fun p hp => k _ _ _ (Out.tmp hp (q1.cut lo hi)) h⟩
  · obtain ⟨a, vs, rfl, e1, q1⟩ := scr_sq g1
    exact .inl ⟨a, vs, rfl, e1, fun p hp => k _ _ _ (Out.tmp hp (q1.cut lo hi)) h⟩
end
def tO (G : Gh) (w : PEnv → PSto → (Option Int → PEnv → PSto → Prop) → Prop) : TO := fun σ H Q => ∃ mu Fz env st Qp, Rel G mu Fz env st σ H ∧ w env st Qp ∧
  ∀ mu' Fz' env' st' H' b, Rel G mu' Fz' env' st' σ H' → Stp mu Fz env σ H mu' Fz' env' H' → Qp b env' st' → Q b H'
section
variable {X : Cx} {G : Gh} {T : Tab} {CALL : CallT} {EX : QX}
theorem PO.imp {e : Option Expr} {t t' : TO} (h : PO X e t) (k : ∀ σ H Q, t' σ H Q → t σ H Q) : PO X e t' := ⟨fun pins s σ H Q I q => h.run pins s σ H Q I (k σ H Q q)⟩
theorem so_none : PO X none (tO G (wpO T CALL EX .none)) := PO.imp po_none fun σ H Q ⟨mu, Fz, env, st, Qp, x, h, k⟩ => by
  unfold wpO at h
  exact k _ _ _ _ _ _ x .refl h
theorem so_some {p : E} {e : Expr} (h : PE X e (tE G (wpE T CALL EX p))) : PO X (some e) (tO G (wpO T CALL EX (.some p))) := PO.imp (po_some h) fun σ H Q ⟨mu, Fz, env, st, Qp, x, h, k⟩ => by
  unfold wpO at h
  refine tE.mk x h fun mu1 Fz1 env1 st1 H1 r v x1 s1 rr1 _ h1 => ?_
  obtain ⟨d, g, h1⟩ := dr_ok x1 rr1 h1
  cases d <;> try exact h1.elim
  obtain rfl : v = _ := g
  exact ⟨_, rfl, k _ _ _ _ _ _ x1 s1 h1⟩
theorem se_idx {p q : E} {a b : Expr} {pos : Pos} (hK : X.K = G.K) (hs : isSlice b = false) (ha : SE X G (wpE T CALL EX p) a) (hb : SE X G (wpE T CALL EX q) b) : SE X G (wpE T CALL EX (.idx p q)) (.Subscript a b pos) := by
  refine SE.ofv (pe_ix ix_seq ha.ev hb.ev (plainIx_of hs)) (by intro _; rfl) fun σ H Q h => ?_
  rw [hK]
  refine two (f := fun env st x y Q => idxV x y fun r => Q r env st) (fun mu Fz env st H d1 v1 d2 v2 Qp Qv x g1 g2 h k => ?_) h
  exact idx_ok g1 g2 h fun r v H' o q => k r v H' o q
theorem se_slc {p : E} {lo hi : Eo} {a : Expr} {l u : Option Expr} {p2 pos : Pos} (hK : X.K = G.K) (ha : SE X G (wpE T CALL EX p) a) (hl : PO X l (tO G (wpO T CALL EX lo))) (hu : PO X u (tO G (wpO T CALL EX hi))) :
    SE X G (wpE T CALL EX (.slc p lo hi)) (.Subscript a (.Slice l u none p2) pos) := by
  refine SE.ofv (pe_slice (sl_list.or (sl_tupA.or sl_str)) ha.ev hl hu) (by intro _; rfl) fun σ H Q h => ?_
  rw [hK]
  obtain ⟨mu, Fz, env, st, Qp, x, h, k⟩ := h
  unfold wpE at h
  refine tE.mk x h fun mu1 Fz1 env1 st1 H1 ra va x1 s1 rr1 _ h1 => ⟨mu1, Fz1, env1, st1, _, x1, h1, fun mu2 Fz2 env2 st2 H2 lo x2 s2 h2 => ⟨mu2, Fz2, env2, st2, _, x2, h2, fun mu3 Fz3 env3 st3 H3 hi x3 s3 h3 => ?_⟩⟩
  obtain ⟨d, g, h3⟩ := dr_ok x3 ((rr1.mono x1 s2).mono x2 s3) h3
  refine slc_ok g h3 fun r v H' o q => ?_
  obtain ⟨x4, s4, rr4⟩ := o.fin x3
  exact k _ _ _ _ _ r v x4 (((s1.trans s2).trans s3).trans s4) rr4 (o.fr.sm fun _ z => ((s1.trans s2).trans s3).sm _ z) q
end
end PI
set_option maxHeartbeats 2000000
namespace PI
open PySem PySem.Spec PyProof.Rows L2

/-! ### built-in functions -/
section
variable {G : Gh} {mu : List Addr} {Fz : Addr → Prop} {env : PEnv} {st : PSto} {σ : L2.St} {H : Hp}
theorem drs_ok (x : Rel G mu Fz env st σ H) : ∀ {rs : List (Bool × R)} {vs : List V} {Kq : List D → Prop}, RRs G mu Fz env σ H rs vs → drs env st rs Kq → ∃ ds, Paired (VD G.K G.mg mu Fz H) ds vs ∧ Kq ds
  | [], vs, Kq, h, q => by
    obtain rfl := h
    exact ⟨[], .nil, q⟩
  | (b, r) :: rs, vs, Kq, h, q => by
    obtain ⟨v, w, rfl, h1, h2, _⟩ := h
    obtain ⟨d, g, q⟩ := dr_ok x h1 q
    obtain ⟨ds, gs, q⟩ := drs_ok x h2 q
    exact ⟨d :: ds, .cons g gs, q⟩
end
def rBi (b : Bi) (K : PySem.W.Frag) : List V → Hp → VK → Prop := match b with
  | .len => fun xs H Q => ∃ x n, xs = [x] ∧ LenV K x H n ∧ Q (.int n) H
  | .abs => fun xs H Q => ∃ i, xs = [.int i] ∧ Q (.int (if i < 0 then -i else i)) H
  | .max2 => fun xs H Q => ∃ i j, xs = [.int i, .int j] ∧ Q (.int (if j > i then j else i)) H
  | .min2 => fun xs H Q => ∃ i j, xs = [.int i, .int j] ∧ Q (.int (if j < i then j else i)) H
  | .max1 => rMax K
  | .min1 => rMin K
  | .sum => rSum K
  | .any => rAny K
  | .all => rAll K
  | .int1 => fun xs H Q => (∃ i, xs = [.int i] ∧ Q (.int i) H) ∨ ∃ k, xs = [.bl k] ∧ Q (.int (if k then 1 else 0)) H
  | .list1 => fun xs H Q => ∃ p ys, xs = [.ref p] ∧ (SqL K H p ys ∨ SqT K H p ys) ∧ ∀ l, H l = none → Q (.ref l) (upd H l (.lst ys))
  | .tuple1 => fun xs H Q => ∃ p ys, xs = [.ref p] ∧ ((SqL K H p ys ∧ ∀ l, H l = none → Q (.ref l) (upd H l (.tup ys))) ∨ (SqT K H p ys ∧ Q (.ref p) H))
  | _ => fun _ _ _ => False
def biF : Bi → Value
  | .len => .builtin "len"
  | .abs => .builtin "abs"
  | .max2 => .builtin "max"
  | .min2 => .builtin "min"
  | .max1 => .builtin "max"
  | .min1 => .builtin "min"
  | .sum => .builtin "sum"
  | .any => .builtin "any"
  | .all => .builtin "all"
  | .int1 => .type "int"
  | .list1 => .type "list"
  | .tuple1 => .type "tuple"
  | .str1 => .type "str"
  | .sorted1 => .builtin "sorted"
  | .lenset => .builtin "len"
  | .repr => .builtin "repr"
  | .divmod => .builtin "divmod"
/-- those that go by their values alone -/
def biPlain : Bi → Bool
  | .str1 => false
  | .sorted1 => false
  | .lenset => false
  | .repr => false
  | .divmod => false
  | _ => true
theorem call_bi {X : Cx} (hc : X.calm = true) (b : Bi) (hp : biPlain b = true) : CallR X (biF b) (rBi b X.K) := by
  cases b with
  | len => exact call_len
  | abs => exact call_abs
  | max2 => exact call_max2 hc
  | min2 => exact call_min2 hc
  | max1 => exact cr_max hc
  | min1 => exact cr_min hc
  | sum => exact cr_sum hc
  | any => exact cr_any hc
  | all => exact cr_all hc
  | int1 => exact call_int1
  | list1 => exact call_list_of
  | tuple1 => exact call_tuple_of
  | _ => cases hp
section
variable {G : Gh} {mu : List Addr} {Fz : Addr → Prop} {env : PEnv} {st : PSto} {σ : L2.St} {H : Hp}
theorem bi_ok (b : Bi) (hp : biPlain b = true) {ds : List D} {vs : List V} {Kq : KR} {Q : VK} (g : Paired (VD G.K G.mg mu Fz H) ds vs) (h : biV b st ds Kq) (k : ∀ r v H', Out G mu Fz H r v H' → Kq r → Q v H') : rBi b G.K vs H Q := by
  cases g with
  | nil => cases b <;> exact h.elim
  | @cons d v ds vs g gs =>
    cases gs with
    | nil =>
      cases b with
      | len =>
        cases d <;> try exact h.elim
        · obtain rfl : v = _ := g
          exact ⟨_, _, rfl, ⟨h.1, rfl⟩, k _ _ _ Out.int h.2⟩
        · obtain ⟨a, ws, rfl, e, q⟩ := g
          exact ⟨_, _, rfl, .inr ⟨ws, SqT.of e, rfl⟩, by rw [← q.length]; exact k _ _ _ Out.int h⟩
        · obtain ⟨a, ws, rfl, e, q⟩ := g
          exact ⟨_, _, rfl, .inl ⟨ws, SqL.of e, rfl⟩, by rw [← q.length]; exact k _ _ _ Out.int h⟩
        · obtain ⟨a, ws, rfl, e, q⟩ := scr_sq g
          exact ⟨_, _, rfl, .inl ⟨ws, e, rfl⟩, by rw [← q.length]; exact k _ _ _ Out.int h⟩
      | abs =>
        cases d <;> try exact h.elim
        obtain rfl : v = _ := g
        exact ⟨_, rfl, k _ _ _ Out.int h⟩
      | max1 =>
        cases d <;> try exact h.elim
        obtain ⟨a, ws, rfl, e, q⟩ := g
        obtain ⟨ns, e2, h0, h⟩ := oq_ok h
        rw [q.ints e2] at e
        exact ⟨a, ns, rfl, SqL.of e, h0, fun m h1 h2 => k _ _ _ Out.int (h m h1 h2)⟩
      | min1 =>
        cases d <;> try exact h.elim
        obtain ⟨a, ws, rfl, e, q⟩ := g
        obtain ⟨ns, e2, h0, h⟩ := oq_ok h
        rw [q.ints e2] at e
        exact ⟨a, ns, rfl, SqL.of e, h0, fun m h1 h2 => k _ _ _ Out.int (h m h1 h2)⟩
      | sum =>
        cases d <;> try exact h.elim
        obtain ⟨a, ws, rfl, e, q⟩ := g
        obtain ⟨ns, e2, h⟩ := oq_ok h
        rw [q.ints e2] at e
        exact ⟨a, ns, rfl, SqL.of e, k _ _ _ Out.int h⟩
      | any =>
        cases d <;> try exact h.elim
        obtain ⟨a, ws, rfl, e, q⟩ := g
        obtain ⟨ns, e2, h⟩ := oq_ok h
        rw [q.bls e2] at e
        exact ⟨a, ns, rfl, SqL.of e, k _ _ _ Out.bl h⟩
      | all =>
        cases d <;> try exact h.elim
        obtain ⟨a, ws, rfl, e, q⟩ := g
        obtain ⟨ns, e2, h⟩ := oq_ok h
        rw [q.bls e2] at e
        exact ⟨a, ns, rfl, SqL.of e, k _ _ _ Out.bl h⟩
      | int1 =>
        cases d <;> try exact h.elim
        · obtain rfl : v = _ := g
          exact .inr ⟨_, rfl, k _ _ _ Out.int h⟩
        · obtain rfl : v = _ := g
          exact .inl ⟨_, rfl, k _ _ _ Out.int h⟩
      | list1 =>
        cases d <;> try exact h.elim
        · obtain ⟨a, ws, rfl, e, q⟩ := g
          exact ⟨a, ws, rfl, .inr (SqT.of e), fun l hl => k _ _ _ (Out.tmp hl q) h⟩
        · obtain ⟨a, ws, rfl, e, q⟩ := g
          exact ⟨a, ws, rfl, .inl (SqL.of e), fun l hl => k _ _ _ (Out.tmp hl q) h⟩
        · obtain ⟨a, ws, rfl, e, q⟩ := scr_sq g
          exact ⟨a, ws, rfl, .inl e, fun l hl => k _ _ _ (Out.tmp hl q) h⟩
      | tuple1 =>
        cases d <;> try exact h.elim
        · rename_i es
          obtain ⟨a, ws, rfl, e, q⟩ := g
          exact ⟨a, ws, rfl, .inr ⟨SqT.of e, k (.d (.tup es)) _ _ (Out.d ⟨a, ws, rfl, e, q⟩) h⟩⟩
        · obtain ⟨a, ws, rfl, e, q⟩ := g
          exact ⟨a, ws, rfl, .inl ⟨SqL.of e, fun l hl => k _ _ _ (Out.tup hl q) h⟩⟩
      | max2 => cases d <;> exact h.elim
      | min2 => cases d <;> exact h.elim
      | _ => cases hp
    | @cons d2 v2 ds2 vs2 g2 gs2 =>
      cases gs2 with
      | nil =>
        cases b with
        | max2 =>
          cases d <;> try exact h.elim
          cases d2 <;> try exact h.elim
          obtain rfl : v = _ := g
          obtain rfl : v2 = _ := g2
          rename_i i j
          refine ⟨i, j, rfl, ?_⟩
          have e : (if j > i then j else i) = max i j := by omega
          rw [e]
          exact k _ _ _ Out.int h
        | min2 =>
          cases d <;> try exact h.elim
          cases d2 <;> try exact h.elim
          obtain rfl : v = _ := g
          obtain rfl : v2 = _ := g2
          rename_i i j
          refine ⟨i, j, rfl, ?_⟩
          have e : (if j < i then j else i) = min i j := by omega
          rw [e]
          exact k _ _ _ Out.int h
        | _ => first | (cases hp; done) | (cases d <;> exact h.elim)
      | cons g3 gs3 => cases b <;> first | (cases hp; done) | (cases d <;> first | exact h.elim | (cases d2 <;> exact h.elim))
end
section
variable {X : Cx} {G : Gh} {T : Tab} {CALL : CallT} {EX : QX}
theorem tE_bi {b : Bi} (hp : biPlain b = true) {ps : Es} {σ : L2.St} {H : Hp} {Q : VK} (h : tE G (wpE T CALL EX (.bi b ps)) σ H Q) : tCB (rBi b G.K) (tA G (wpEs T CALL EX ps)) σ H Q := by
  obtain ⟨mu, Fz, env, st, Qp, x, h, k⟩ := h
  unfold wpE at h
  refine ⟨mu, Fz, env, st, _, x, h, fun mu1 Fz1 env1 st1 H1 rs vs x1 s1 rr1 f1 h1 => ?_⟩
  obtain ⟨ds, gs, h1⟩ := drs_ok x1 rr1 h1
  refine bi_ok b hp gs h1 fun r v H' o q => ?_
  obtain ⟨x4, s4, rr4⟩ := o.fin x1
  exact k _ _ _ _ _ r v x4 (s1.trans s4) rr4 (o.fr.sm fun _ z => s1.sm _ z) q
/-- a call of a built-in function by its name -/
theorem se_biB {b : Bi} {ps : Es} {f : Str} {id : String} {e : Expr} {es : List Expr} {p pos : Pos} (hK : X.K = G.K) (hc : X.calm = true) (hp : biPlain b = true) (hf : biF b = .builtin id) (hg : Gl X f) (hm : X.mg f = none) (hv : bootBuiltins f = some (.builtin id)) (ha : PA X (e :: es) (tA G (wpEs T CALL EX ps)))
    (hn : f ≠ "__name__") (hdb : (f == ("__debug__" : Str)) = false) (he : starEach (e :: es) X.env = (false, eval e X.env) :: starEach es X.env) (hpl : (backTo pos (starEach es X.env)).any (·.1) = false) :
    SE X G (wpE T CALL EX (.bi b ps)) (.Call (.Name f p) (e :: es) [] pos) := by
  have hC := call_bi hc b hp
  rw [hf] at hC
  refine SE.ofv (pe_callB hC hg hm hv ha hn hdb he hpl) (by intro _; rfl) fun σ H Q h => ?_
  rw [hK]
  exact tE_bi hp h
theorem se_biT {b : Bi} {ps : Es} {f : Str} {id : String} {e : Expr} {es : List Expr} {p pos : Pos} (hK : X.K = G.K) (hc : X.calm = true) (hp : biPlain b = true) (hf : biF b = .type id) (hg : Gl X f) (hm : X.mg f = none) (hv : bootBuiltins f = some (.type id)) (ha : PA X (e :: es) (tA G (wpEs T CALL EX ps)))
    (hn : f ≠ "__name__") (hdb : (f == ("__debug__" : Str)) = false) (he : starEach (e :: es) X.env = (false, eval e X.env) :: starEach es X.env) (hpl : (backTo pos (starEach es X.env)).any (·.1) = false) :
    SE X G (wpE T CALL EX (.bi b ps)) (.Call (.Name f p) (e :: es) [] pos) := by
  have hC := call_bi hc b hp
  rw [hf] at hC
  refine SE.ofv (pe_callTy hC hg hm hv ha hn hdb he hpl) (by intro _; rfl) fun σ H Q h => ?_
  rw [hK]
  exact tE_bi hp h
end
end PI
set_option maxHeartbeats 2000000
namespace PI
open PySem PySem.Spec PyProof.Rows L2

/-! ### methods of lists and texts -/
section
variable {G : Gh} {mu : List Addr} {Fz : Addr → Prop} {env : PEnv} {st : PSto} {σ : L2.St} {H : Hp}
/-- a mutable list is written -/
theorem pr_upd (x : Rel G mu Fz env st σ H) {a : Addr} {vs ws : List V} (e : H a = some (.lst vs)) (hz : ¬ Fz a) : Pr mu Fz H mu Fz (upd H a (.lst ws)) := by
  refine ⟨fun b o q h1 _ => ?_, fun _ h => h, fun b o z q => ?_, [], by simp⟩
  · rw [upd_ne (show b ≠ a from fun z => by subst z; rw [e] at q; exact h1 _ (Option.some.inj q).symm)]
    exact q
  · rw [upd_ne (show b ≠ a from fun y => hz (y ▸ z))]
    exact q
theorem modL_ok {o : R} {v : V} {F : List D → (List D → R → Prop) → Prop} {Q : R → PEnv → PSto → Prop} (x : Rel G mu Fz env st σ H) (rr : RR G mu Fz env σ H o v) (q : modL o env st F Q) :
    ∃ (a : Addr) (vs : List V) (ds : List D) (put : List D → PEnv × PSto), v = .ref a ∧ H a = some (.lst vs) ∧ RVs G.K G.mg mu Fz H ds vs ∧ F ds (fun ds' r => Q r (put ds').1 (put ds').2) ∧ (∀ ws, Pr mu Fz H mu Fz (upd H a (.lst ws))) ∧
      ∀ ds' ws, RVs G.K G.mg mu Fz H ds' ws → Rel G mu Fz (put ds').1 (put ds').2 σ (upd H a (.lst ws)) ∧ Stp mu Fz env σ H mu Fz (put ds').1 (upd H a (.lst ws)) := by
  cases o with
  | tmp ds => exact q.elim
  | brw i =>
    have hv : σ[i]? = some (some v) := rr
    unfold modL at q
    cases he : env[i]? with
    | none => simp only [he] at q
    | some sl =>
      cases sl with
      | no => simp only [he] at q
      | val d => simp only [he] at q
      | own ds =>
        simp only [he] at q
        obtain ⟨a, vs, h1, h2, h3, h4, h5, h6⟩ := x.own i ds he
        rw [hv] at h1; cases h1
        have hi : i < env.length := (List.getElem?_eq_some_iff.mp he).1
        refine ⟨a, vs, ds, fun ds' => (env.set i (.own ds'), st), rfl, h2, h3, q, fun ws => pr_upd x h2 h4, fun ds' ws hr => ?_⟩
        have pr : Pr mu Fz H mu Fz (upd H a (.lst ws)) := pr_upd x h2 h4
        have hown : OwnA env σ a := ⟨i, ds, he, hv⟩
        have s : Stp mu Fz env σ H mu Fz (env.set i (.own ds')) (upd H a (.lst ws)) := by
          refine ⟨⟨[], by simp⟩, fun _ h => .inl h, fun _ h => h, fun _ h => .inl h, fun b o e hm ho => ?_, fun b e => ?_, fun j es e => ?_, by rw [List.length_set]⟩
          · rw [upd_ne (show b ≠ a from fun z => ho (z ▸ hown))]
            exact e
          · by_cases hb : b = a
            · subst hb; rw [upd_same] at e; cases e
            · rw [upd_ne hb] at e; exact e
          · by_cases hj : i = j
            · subst hj; exact ⟨ds, he⟩
            · rw [List.getElem?_set_ne hj] at e
              exact ⟨es, e⟩
        refine ⟨x.of_stp s (fun j d e => ?_) (fun j es e => ?_) x.mlen (fun r c e => ?_) x.mnd x.mfz (fun b z => ?_) (fun b _ z => x.none0 z), s⟩
        · by_cases hj : i = j
          · subst hj
            rw [List.getElem?_set_self hi] at e
            cases e
          · rw [List.getElem?_set_ne hj] at e
            obtain ⟨w, e1, e2⟩ := x.val j d e
            exact ⟨w, e1, e2.mono pr⟩
        · by_cases hj : i = j
          · subst hj
            rw [List.getElem?_set_self hi] at e
            cases e
            exact ⟨a, ws, hv, upd_same, hr.mono pr, h4, h5⟩
          · rw [List.getElem?_set_ne hj] at e
            obtain ⟨b, us, e1, e2, e3, e4, e5, _⟩ := x.own j es e
            refine ⟨b, us, e1, ?_, e3.mono pr, e4, e5⟩
            rw [upd_ne (show b ≠ a from fun z => hj (x.sep i j ds es a he e hv (z ▸ e1)))]
            exact e2
        · obtain ⟨b, e1, e2⟩ := x.cell r c e
          refine ⟨b, e1, e2.mono pr fun o e3 => ?_⟩
          rw [upd_ne (show b ≠ a from fun z => h5 (z ▸ List.mem_of_getElem? e1))]
          exact e3
        · obtain ⟨us, e⟩ := x.fzl b z
          exact ⟨us, by rw [upd_ne (show b ≠ a from fun y => h4 (y ▸ z))]; exact e⟩
  | d y =>
    cases y with
    | ref k =>
      obtain ⟨a, rfl, hm⟩ := rr
      unfold modL at q
      simp only at q
      cases hc : st[k]? with
      | none => simp only [hc] at q
      | some c =>
        obtain ⟨b, hb, rc⟩ := x.cell k c hc
        rw [hm] at hb; cases hb
        cases c with
        | ins c fs => simp only [hc] at q
        | lst ds =>
          simp only [hc] at q
          obtain ⟨vs, h2, h3⟩ := rc
          have ha : a ∈ mu := List.mem_of_getElem? hm
          have h4 := x.mfz a ha
          have hk : k < st.length := (List.getElem?_eq_some_iff.mp hc).1
          refine ⟨a, vs, ds, fun ds' => (env, st.set k (.lst ds')), rfl, h2, h3, q, fun ws => pr_upd x h2 h4, fun ds' ws hr => ?_⟩
          have pr : Pr mu Fz H mu Fz (upd H a (.lst ws)) := pr_upd x h2 h4
          have s : Stp mu Fz env σ H mu Fz env (upd H a (.lst ws)) := by
            refine ⟨⟨[], by simp⟩, fun _ h => .inl h, fun _ h => h, fun _ h => .inl h, fun b o e hm ho => ?_, fun b e => ?_, fun j es e => ⟨es, e⟩, rfl⟩
            · rw [upd_ne (show b ≠ a from fun z => hm (z ▸ ha))]
              exact e
            · by_cases hb : b = a
              · subst hb; rw [upd_same] at e; cases e
              · rw [upd_ne hb] at e; exact e
          refine ⟨x.of_stp s (fun j d e => ?_) (fun j es e => ?_) (by rw [List.length_set]; exact x.mlen) (fun r c e => ?_) x.mnd x.mfz (fun b z => ?_) (fun b _ z => x.none0 z), s⟩
          · obtain ⟨w, e1, e2⟩ := x.val j d e
            exact ⟨w, e1, e2.mono pr⟩
          · obtain ⟨b, us, e1, e2, e3, e4, e5, _⟩ := x.own j es e
            refine ⟨b, us, e1, ?_, e3.mono pr, e4, e5⟩
            rw [upd_ne (show b ≠ a from fun z => e5 (z ▸ ha))]
            exact e2
          · by_cases hr' : k = r
            · subst hr'
              rw [List.getElem?_set_self hk] at e
              cases e
              exact ⟨a, hm, ws, upd_same, hr.mono pr⟩
            · rw [List.getElem?_set_ne hr'] at e
              obtain ⟨b, e1, e2⟩ := x.cell r c e
              refine ⟨b, e1, e2.mono pr fun o e3 => ?_⟩
              have hne : b ≠ a := fun z => by
                rw [z] at e1
                have l1 := (List.getElem?_eq_some_iff.mp hm)
                have l2 := (List.getElem?_eq_some_iff.mp e1)
                exact hr' ((List.getElem_inj x.mnd (h₀ := l1.1) (h₁ := l2.1)).mp (l1.2.trans l2.2.symm))
              rw [upd_ne hne]
              exact e3
          · obtain ⟨us, e⟩ := x.fzl b z
            exact ⟨us, by rw [upd_ne (show b ≠ a from fun y => h4 (y ▸ z))]; exact e⟩
    | _ => exact q.elim
end
def rMe (m : Me) (K : PySem.W.Frag) : V → List V → Hp → VK → Prop := match m with
  | .append => rAppend
  | .pop0 => rPop
  | .pop1 => rPopAt
  | .insert => fun x vs H Q => ∃ (l : Addr) (xs : List V) (i : Int) (y : V), x = .ref l ∧ vs = [.int i, y] ∧ H l = some (.lst xs) ∧ xs.length < sizeLine ∧ 0 ≤ i ∧ i < 2 ^ 63 ∧ Q .non (upd H l (.lst (xs.take i.toNat ++ [y] ++ xs.drop i.toNat)))
  | .clear => rClear
  | .reverse => rReverse
  | .join => fun x xs H Q => ∃ a p, ∃ ys : List Str, x = .str a ∧ xs = [.ref p] ∧ (SqL K H p (ys.map V.str) ∨ SqT K H p (ys.map V.str)) ∧ (ys.map (·.length)).sum + ys.length * a.length ≤ 16777216 ∧ Q (.str (Txt.join a ys)) H
  | .index => rIndex K
  | .count => rCntI K
  | _ => fun _ _ _ _ => False
def meId : Me → String
  | .append => "list.append"
  | .pop0 => "list.pop"
  | .pop1 => "list.pop"
  | .insert => "list.insert"
  | .clear => "list.clear"
  | .reverse => "list.reverse"
  | .join => "str.join"
  | .extend => "list.extend"
  | .index => "list.index"
  | .count => "list.count"
  | .split => "str.split"
def mePlain : Me → Bool
  | .extend => false
  | .split => false
  | _ => true
theorem mt_me {X : Cx} (m : Me) (h : mePlain m = true) : MtR X (meId m) (rMe m X.K) := by
  cases m with
  | append => exact mt_append
  | pop0 => exact mt_pop
  | pop1 => exact mt_popAt
  | insert => exact mt_insert
  | clear => exact mt_clear
  | reverse => exact mt_reverse
  | join => exact mt_join
  | index => exact mt_index
  | count => exact mt_lcount
  | _ => cases h
section
variable {G : Gh} {mu0 mu : List Addr} {Fz0 Fz : Addr → Prop} {env0 env : PEnv} {st : PSto} {σ : L2.St} {H0 H : Hp}
theorem me_ok (m : Me) (hp : mePlain m = true) {o : R} {v : V} {rs : List (Bool × R)} {vs : List V} {Qp : QE} {Q : VK} (x : Rel G mu Fz env st σ H) (s : Stp mu0 Fz0 env0 σ H0 mu Fz env H) (ro : RR G mu Fz env σ H o v) (rr : RRs G mu Fz env σ H rs vs) (fr : Frhs H0 rs vs) (h : meV m o rs env st Qp)
    (k : ∀ mu' Fz' env' st' H' r w, Rel G mu' Fz' env' st' σ H' → Stp mu0 Fz0 env0 σ H0 mu' Fz' env' H' → RR G mu' Fz' env' σ H' r w → Frh H0 r w → Qp r env' st' → Q w H') : rMe m G.K v vs H Q := by
  have keepo : ∀ {r : R} {w : V} {mu1 Fz1 env1}, Esd r w mu Fz env σ H mu1 Fz1 env1 → (∀ ds, o ≠ .tmp ds) → RR G mu1 Fz1 env1 σ H o v := fun {r w mu1 Fz1 env1} e hn => by
    cases o with
    | tmp ds => exact absurd rfl (hn ds)
    | d y => exact e.rr ro (fun z => z.elim)
    | brw i => exact ro
  cases rs with
  | nil =>
    obtain rfl := rr
    cases m with
    | pop0 =>
      simp only [meV] at h
      obtain ⟨a, ws, ds, put, rfl, e, rv, h, pr, fin⟩ := modL_ok x ro h
      obtain ⟨d, e1, h⟩ := oq_ok h
      obtain ⟨u, e2, ru⟩ := pLast (RVs.iff.mp rv) e1
      obtain ⟨x2, s2⟩ := fin ds.dropLast ws.dropLast (RVs.iff.mpr (pDropLast (RVs.iff.mp rv)))
      exact ⟨a, ws, u, rfl, rfl, e, e2, k _ _ _ _ _ (.d d) _ x2 (s.trans s2) (ru.mono (pr _)) True.intro h⟩
    | clear =>
      simp only [meV] at h
      obtain ⟨a, ws, ds, put, rfl, e, rv, h, pr, fin⟩ := modL_ok x ro h
      obtain ⟨x2, s2⟩ := fin [] [] rfl
      exact ⟨a, ws, rfl, rfl, e, k _ _ _ _ _ (.d .non) _ x2 (s.trans s2) rfl True.intro h⟩
    | reverse =>
      simp only [meV] at h
      obtain ⟨a, ws, ds, put, rfl, e, rv, h, pr, fin⟩ := modL_ok x ro h
      obtain ⟨x2, s2⟩ := fin ds.reverse ws.reverse (RVs.iff.mpr (pRev (RVs.iff.mp rv)))
      exact ⟨a, ws, rfl, rfl, e, k _ _ _ _ _ (.d .non) _ x2 (s.trans s2) rfl True.intro h⟩
    | _ => first | (cases hp; done) | exact h.elim
  | cons p rs =>
    obtain ⟨b, r⟩ := p
    obtain ⟨w, vs', rfl, r1, rr, nt⟩ := rr
    obtain ⟨f1, f2⟩ := fr
    cases rs with
    | nil =>
      obtain rfl := rr
      cases m with
      | append =>
        simp only [meV] at h
        obtain ⟨mu1, Fz1, env1, st1, d, x1, s1, e1, rd, h⟩ := esc_ok x s r1 f1 h
        have hn : ∀ ds, o ≠ .tmp ds := fun ds z => by subst z; exact h.elim
        obtain ⟨a, ws, ds, put, rfl, e, rv, h, pr, fin⟩ := modL_ok x1 (keepo e1 hn) h
        obtain ⟨x2, s2⟩ := fin (ds ++ [d]) (ws ++ [w]) (rv.app (.cons rd .nil))
        exact ⟨a, ws, w, rfl, rfl, e, by rw [← rv.length]; exact h.1, k _ _ _ _ _ (.d .non) _ x2 (s1.trans s2) rfl True.intro h.2⟩
      | pop1 =>
        simp only [meV] at h
        obtain ⟨d, g, h⟩ := dr_ok x r1 h
        cases d <;> try exact h.elim
        obtain rfl : w = _ := g
        obtain ⟨⟨h1, h2⟩, h⟩ := h
        obtain ⟨a, ws, ds, put, rfl, e, rv, h, pr, fin⟩ := modL_ok x ro h
        obtain ⟨j, e1, h⟩ := oq_ok h
        obtain ⟨d, e2, h⟩ := oq_ok h
        obtain ⟨u, e3, ru⟩ := pGet (RVs.iff.mp rv) e2
        rw [rv.length] at e1
        obtain ⟨x2, s2⟩ := fin (ds.eraseIdx j) (ws.eraseIdx j) (RVs.iff.mpr (pErase j (RVs.iff.mp rv)))
        exact ⟨a, ws, _, j, u, rfl, rfl, e, h1, h2, (ixN_seq e1).1, e3, k _ _ _ _ _ (.d d) _ x2 (s.trans s2) (ru.mono (pr _)) True.intro h⟩
      | join =>
        simp only [meV] at h
        obtain ⟨d, g, h⟩ := dr_ok x ro h
        obtain ⟨d2, g2, h⟩ := dr_ok x r1 h
        cases d <;> try exact h.elim
        cases d2 <;> try exact h.elim
        obtain rfl : v = _ := g
        obtain ⟨a, ws, rfl, e, q⟩ := g2
        obtain ⟨ys, e2, h1, h2⟩ := oq_ok h
        rw [q.strs e2] at e
        exact ⟨_, a, ys, rfl, rfl, .inl (SqL.of e), h1, k _ _ _ _ _ (.d (.str _)) _ x s rfl True.intro h2⟩
      | index =>
        simp only [meV] at h
        obtain ⟨d, g, h⟩ := dr_ok x ro h
        obtain ⟨d2, g2, h⟩ := dr_ok x r1 h
        cases d <;> try exact h.elim
        obtain ⟨a, ws, rfl, e, q⟩ := g
        cases d2 <;> try exact h.elim
        · obtain rfl : w = _ := g2
          obtain ⟨ys, e2, j, h1, h2, h3⟩ := oq_ok h
          rw [q.ints e2] at e
          refine ⟨a, ys.map V.int, _, j, _, rfl, rfl, SqL.of e, rfl, ?_, by rw [List.getElem?_map, h1]; rfl, ?_, fun m z hm hz => ?_, k _ _ _ _ _ (.d (.int _)) _ x s rfl True.intro h3⟩
          · rw [List.all_map]; exact List.all_eq_true.mpr fun _ _ => rfl
          · exact beq_self_eq_true _
          · rw [List.getElem?_map] at hz
            obtain ⟨t, ht, rfl⟩ := Option.map_eq_some_iff.mp hz
            exact beq_eq_false_iff_ne.mpr fun z => h2 m hm (by rw [ht, z])
        · obtain rfl : w = _ := g2
          obtain ⟨ys, e2, j, h1, h2, h3⟩ := oq_ok h
          rw [q.strs e2] at e
          refine ⟨a, ys.map V.str, _, j, _, rfl, rfl, SqL.of e, rfl, ?_, by rw [List.getElem?_map, h1]; rfl, ?_, fun m z hm hz => ?_, k _ _ _ _ _ (.d (.int _)) _ x s rfl True.intro h3⟩
          · rw [List.all_map]; exact List.all_eq_true.mpr fun _ _ => rfl
          · exact beq_self_eq_true _
          · rw [List.getElem?_map] at hz
            obtain ⟨t, ht, rfl⟩ := Option.map_eq_some_iff.mp hz
            exact beq_eq_false_iff_ne.mpr fun z => h2 m hm (by rw [ht, z])
      | count =>
        simp only [meV] at h
        obtain ⟨d, g, h⟩ := dr_ok x ro h
        obtain ⟨d2, g2, h⟩ := dr_ok x r1 h
        cases d <;> try exact h.elim
        obtain ⟨a, ws, rfl, e, q⟩ := g
        cases d2 <;> try exact h.elim
        obtain rfl : w = _ := g2
        obtain ⟨ys, e2, h3⟩ := oq_ok h
        rw [q.ints e2] at e
        exact ⟨a, ys, _, rfl, rfl, SqL.of e, k _ _ _ _ _ (.d (.int _)) _ x s rfl True.intro h3⟩
      | _ => first | (cases hp; done) | exact h.elim
    | cons p2 rs2 =>
      obtain ⟨b2, r2⟩ := p2
      obtain ⟨w2, vs2, rfl, r3, rr2, nt2⟩ := rr
      obtain ⟨f3, f4⟩ := f2
      cases rs2 with
      | nil =>
        obtain rfl := rr2
        cases m with
        | insert =>
          simp only [meV] at h
          obtain ⟨d, g, h⟩ := dr_ok x r1 h
          cases d <;> try exact h.elim
          rename_i i
          obtain rfl : w = _ := g
          obtain ⟨mu1, Fz1, env1, st1, d, x1, s1, e1, rd, h⟩ := esc_ok x s r3 f3 h
          have hn : ∀ ds, o ≠ .tmp ds := fun ds z => by subst z; exact h.elim
          obtain ⟨a, ws, ds, put, rfl, e, rv, h, pr, fin⟩ := modL_ok x1 (keepo e1 hn) h
          obtain ⟨x2, s2⟩ := fin (ds.take i.toNat ++ d :: ds.drop i.toNat) (ws.take i.toNat ++ [w2] ++ ws.drop i.toNat) (by
            rw [List.append_assoc]
            exact RVs.app (RVs.iff.mpr (pTake _ (RVs.iff.mp rv))) (.cons rd (RVs.iff.mpr (pDrop _ (RVs.iff.mp rv)))))
          exact ⟨a, ws, i, w2, rfl, rfl, e, by rw [← rv.length]; exact h.1, h.2.1, h.2.2.1, k _ _ _ _ _ (.d .non) _ x2 (s1.trans s2) rfl True.intro h.2.2.2⟩
        | _ => first | (cases hp; done) | exact h.elim
      | cons p3 rs3 => cases m <;> first | (cases hp; done) | exact h.elim
end
section
variable {X : Cx} {G : Gh} {T : Tab} {CALL : CallT} {EX : QX}
theorem meT_ty {G : Gh} {mu : List Addr} {Fz : Addr → Prop} {H : Hp} {m : Me} {d : D} {v : V} (g : VD G.K G.mg mu Fz H d v) (h : meT m d) : tyV G.K (if m = .join ∨ m = .split then "str" else "list") v H := by
  cases d <;> try exact h.elim
  · obtain rfl : v = _ := g
    rw [if_pos (show m = .join ∨ m = .split from h)]
    exact rfl
  · obtain ⟨a, ws, rfl, e, q⟩ := g
    rw [if_neg (fun z => z.elim h.1 h.2)]
    exact .inl ⟨rfl, _, SqL.of e⟩
theorem tE_me {m : Me} (hp : mePlain m = true) {p : E} {ps : Es} {σ : L2.St} {H : Hp} {Q : VK} (h : tE G (wpE T CALL EX (.me m p ps)) σ H Q) :
    tE G (wpE T CALL EX p) σ H fun x H1 => tyV G.K (if m = .join ∨ m = .split then "str" else "list") x H1 ∧ tA G (wpEs T CALL EX ps) σ H1 fun xs H2 => rMe m G.K x xs H2 Q := by
  obtain ⟨mu, Fz, env, st, Qp, x, h, k⟩ := h
  unfold wpE at h
  refine tE.mk x h fun mu1 Fz1 env1 st1 H1 ro vo x1 s1 rr1 f1 h1 => ?_
  obtain ⟨d, g, ht, h1⟩ := dr_ok x1 rr1 h1
  refine ⟨meT_ty g ht, mu1, Fz1, env1, st1, _, x1, h1, fun mu2 Fz2 env2 st2 H2 rs vs x2 s2 rr2 f2 h2 => ?_⟩
  exact me_ok m hp x2 (s1.trans s2) (rr1.mono x1 s2) rr2 (f2.sm fun _ z => s1.sm _ z) h2 k
theorem se_me0 {m : Me} (hp : mePlain m = true) {p : E} {o : Expr} {name : Str} {TY id : String} {apos cpos : Pos} (hK : X.K = G.K) (ht : (if m = .join ∨ m = .split then "str" else "list") = TY) (hid : meId m = id) (pa : PlainAttrs TY) (slot : Slot TY name id) (hty : typeOf (.builtin id) = pure (.type "method_descriptor"))
    (ho : SE X G (wpE T CALL EX p) o) (hbase : attributeBase o name X.env (eval o X.env) = eval o X.env) (hline : (apos.endLine == cpos.line) = true) : SE X G (wpE T CALL EX (.me m p .nil)) (.Call (.Attribute o name apos) [] [] cpos) := by
  subst hid ht
  refine SE.ofv (pe_bm0 pa slot hty (mt_me m hp) ho.ev hbase hline) (by intro _; rfl) fun σ H Q h => ?_
  rw [hK]
  obtain ⟨mu, Fz, env, st, Qp, x, h, k⟩ := tE_me hp h
  refine ⟨mu, Fz, env, st, Qp, x, h, fun mu' Fz' env' st' H' r v x' s rr f q => ?_⟩
  obtain ⟨h1, mu1, Fz1, env1, st1, Qp1, x1, h2, k1⟩ := k _ _ _ _ _ _ _ x' s rr f q
  refine ⟨h1, ?_⟩
  unfold wpEs at h2
  exact k1 _ _ _ _ _ [] [] x1 .refl rfl True.intro h2
theorem se_me {m : Me} (hp : mePlain m = true) {p : E} {ps : Es} {o e : Expr} {es : List Expr} {name : Str} {TY id : String} {apos cpos : Pos} (hK : X.K = G.K) (ht : (if m = .join ∨ m = .split then "str" else "list") = TY) (hid : meId m = id) (pa : PlainAttrs TY) (slot : Slot TY name id) (hty : typeOf (.builtin id) = pure (.type "method_descriptor"))
    (ho : SE X G (wpE T CALL EX p) o) (ha : PA X (e :: es) (tA G (wpEs T CALL EX ps))) (hbase : attributeBase o name X.env (eval o X.env) = eval o X.env)
    (hfew : ((backTo cpos (starEach (e :: es) X.env)).all (fun x => !x.1) && (backToKw cpos (keywordEach [] X.env)).all (fun x => x.1.isSome)
      && decide ((e :: es).length + ([] : List Keyword).length + (if ([] : List Keyword).isEmpty then 0 else 1) < 30)) = true)
    (hline : (apos.endLine == cpos.line) = true) (hs : starEach (e :: es) X.env = (false, eval e X.env) :: starEach es X.env) (hplain : (backTo cpos (starEach es X.env)).any (·.1) = false) :
    SE X G (wpE T CALL EX (.me m p ps)) (.Call (.Attribute o name apos) (e :: es) [] cpos) := by
  subst hid ht
  refine SE.ofv (pe_bm pa slot hty (mt_me m hp) ho.ev ha hbase hfew hline hs hplain) (by intro _; rfl) fun σ H Q h => ?_
  rw [hK]
  exact tE_me hp h
end
end PI
set_option maxHeartbeats 2000000
namespace PI
open PySem PySem.Spec PyProof.Rows L2

/-! ### what is walked -/
/-- J gives ds, turn by turn, as the heap lies -/
structure Src1 (K : PySem.W.Frag) (mg : Str → Option Value) (J : It) (ds : List D) (mu : List Addr) (Fz : Addr → Prop) (H : Hp) : Prop where
  go : ∀ (i : Nat) (d : D), ds[i]? = some d → J.go i H ∧ ∀ v H', J.yld i H v H' → Same H H' ∧ RV K mg mu Fz H' d v
  stop : J.stop ds.length H
/-- .. and later, as long as chk holds of the cells -/
def SrcS (G : Gh) (J : It) (ds : List D) (chk : PSto → Prop) (mu : List Addr) (Fz : Addr → Prop) (H : Hp) : Prop :=
  ∀ (mu' : List Addr) (Fz' : Addr → Prop) (env' : PEnv) (st' : PSto) (σ' : L2.St) (H' : Hp), Rel G mu' Fz' env' st' σ' H' → Pr mu Fz H mu' Fz' H' → chk st' → Src1 G.K G.mg J ds mu' Fz' H'
def tS (G : Gh) (w : PEnv → PSto → QS → Prop) : TI := fun σ H R => ∃ mu Fz env st Qp, Rel G mu Fz env st σ H ∧ w env st Qp ∧
  ∀ mu' Fz' env' st' H' ds chk J, Rel G mu' Fz' env' st' σ H' → Stp mu Fz env σ H mu' Fz' env' H' → SrcS G J ds chk mu' Fz' H' → Qp ds chk env' st' → R J H'
theorem PI.imp {X : Cx} {tg iter : Expr} {t t' : TI} (h : L2.PI X tg iter t) (k : ∀ σ H Q, t' σ H Q → t σ H Q) : L2.PI X tg iter t' := ⟨fun pins s σ H Q I q => h.run pins s σ H Q I (k σ H Q q)⟩

def iAny (K : PySem.W.Frag) (t : TE) : TI := fun σ H R => t σ H fun x H1 => (∃ a, x = .ref a ∧ (∃ xs, SqL K H1 a xs) ∧ R (Itl K a) H1) ∨ (∃ a, x = .ref a ∧ (∃ xs, SqT K H1 a xs) ∧ R (Itt K a) H1) ∨ ∃ z, x = .str z ∧ R (Its z) H1
theorem pi_any {X : Cx} {tg e : Expr} {t : TE} (he : PE X e t) : L2.PI X tg e (iAny X.K t) := by
  refine ⟨fun pins s σ H R I h => ?_⟩
  refine thn (he.run pins s σ H _ I h) fun v s1 ⟨x, H1, I1, r1, q⟩ => ?_
  rcases q with ⟨a, rfl, ⟨xs, hq⟩, q⟩ | ⟨a, rfl, ⟨xs, hq⟩, q⟩ | ⟨z, rfl, q⟩
  · cases r1
    obtain ⟨its, rv, p, hz⟩ := I1.list hq
    refine wpAny_pyIter_list p.isList ?_
    refine ⟨s1.heap.objs.size, [s1.heap.objs.size], _, _, H1, rfl, I1.kept (t' := s1.toks) fun b o e => Heap.get?_push_of_some _ e, turn_list a _, ⟨_, Heap.get?_push_size _ rfl, rfl, rfl⟩, fun b hb => ?_, q⟩
    have e : b = s1.heap.objs.size := by simpa using hb
    subst e
    exact I1.fpOk (Nat.le_refl _) (I1.hok.fresh (Nat.le_refl _))
  · cases r1
    obtain ⟨its, rv, p, hz⟩ := I1.tuple hq
    refine wpAny_pyIter_tuple (show s1.heap.IsTuple a its.toArray from p) ?_
    refine ⟨s1.heap.objs.size, [s1.heap.objs.size], _, _, H1, rfl, I1.kept (t' := s1.toks) fun b o e => Heap.get?_push_of_some _ e, turn_tuple a _, ⟨_, Heap.get?_push_size _ rfl, rfl, rfl⟩, fun b hb => ?_, q⟩
    have e : b = s1.heap.objs.size := by simpa using hb
    subst e
    exact I1.fpOk (Nat.le_refl _) (I1.hok.fresh (Nat.le_refl _))
  · obtain ⟨t, rfl⟩ := r1
    cases ha : z.cps.all (· < 128)
    · exact wpAny_pyIter_wide ha (pi_one (tk := s1.toks) I1 _ (turn_str _ z t "str_iterator" (.inr rfl)) ⟨_, Heap.get?_push_size _ rfl, rfl, rfl⟩ q)
    · exact wpAny_pyIter_ascii ha (pi_one (tk := s1.toks) I1 _ (turn_str _ z t "str_ascii_iterator" (.inl rfl)) ⟨_, Heap.get?_push_size _ rfl, rfl, rfl⟩ q)

section
variable {K : PySem.W.Frag} {mg : Str → Option Value} {mu : List Addr} {Fz : Addr → Prop} {H : Hp}
theorem sqL_tracked {a : Addr} {vs xs : List V} (h : H a = some (.lst vs)) : SqL K H a vs := .inl (.inl h)
/-- a tracked list that is no object of the written part is read in one way; here the first reading is all that is asked -/
theorem src_str (z : Str) : Src1 K mg (Its z) (strSigns z) mu Fz H where
  go := fun i d e => by
    unfold strSigns at e
    rw [List.getElem?_map] at e
    cases q : z.cps.toList[i]? with
    | none => rw [q] at e; cases e
    | some c =>
      rw [q] at e
      cases e
      have hq : z.cps[i]? = some c := by simpa using q
      refine ⟨(Array.getElem?_eq_some_iff.mp hq).1, fun v H' y => ?_⟩
      obtain ⟨rfl, c', e1, rfl⟩ := y
      rw [hq] at e1; cases e1
      exact ⟨Same.refl _, rfl⟩
  stop := by
    show z.cps.size ≤ (strSigns z).length
    unfold strSigns
    rw [List.length_map, Array.length_toList]
    exact Nat.le_refl _
theorem src_rng (lo : Int) (n : Nat) : Src1 K mg (Itr lo n) (rngL lo n) mu Fz H where
  go := fun i d e => by
    unfold rngL at e
    rw [List.getElem?_map] at e
    have hi : i < n := by
      cases q : (List.range n)[i]? with
      | none => rw [q] at e; cases e
      | some c =>
        have := (List.getElem?_eq_some_iff.mp q).1
        simpa using this
    rw [List.getElem?_range hi] at e
    cases e
    refine ⟨hi, fun v H' y => ?_⟩
    obtain ⟨rfl, rfl⟩ := y
    exact ⟨Same.refl _, rfl⟩
  stop := by
    show n ≤ (rngL lo n).length
    unfold rngL
    rw [List.length_map, List.length_range]
    exact Nat.le_refl _
theorem src_rngC (lo : Int) (n : Nat) : Src1 K mg (Itc lo (-1) n) ((List.range n).map fun (k : Nat) => .int (lo - k)) mu Fz H where
  go := fun i d e => by
    rw [List.getElem?_map] at e
    have hi : i < n := by
      cases q : (List.range n)[i]? with
      | none => rw [q] at e; cases e
      | some c =>
        have := (List.getElem?_eq_some_iff.mp q).1
        simpa using this
    rw [List.getElem?_range hi] at e
    cases e
    refine ⟨hi, fun v H' y => ?_⟩
    obtain ⟨rfl, rfl⟩ := y
    refine ⟨Same.refl _, ?_⟩
    show V.int _ = V.int _
    congr 1
    omega
  stop := by
    show n ≤ _
    rw [List.length_map, List.length_range]
    exact Nat.le_refl _
end

theorem Pr.trans {mu mu' mu'' : List Addr} {Fz Fz' Fz'' : Addr → Prop} {H H' H'' : Hp} (p : Pr mu Fz H mu' Fz' H') (q : Pr mu' Fz' H' mu'' Fz'' H'') : Pr mu Fz H mu'' Fz'' H'' := by
  refine ⟨fun a o e h1 h2 => q.fix a o (p.fix a o e h1 h2) h1 h2, fun a h => q.fz a (p.fz a h), fun a o h e => q.fzk a o (p.fz a h) (p.fzk a o h e), ?_⟩
  obtain ⟨l, rfl⟩ := p.mux
  obtain ⟨l', rfl⟩ := q.mux
  exact ⟨l ++ l', by rw [List.append_assoc]⟩
/-- the list at a stays ds, as long as chk holds -/
def StayL (G : Gh) (a : Addr) (ds : List D) (chk : PSto → Prop) (mu : List Addr) (Fz : Addr → Prop) (H : Hp) : Prop :=
  ∀ (mu' : List Addr) (Fz' : Addr → Prop) (env' : PEnv) (st' : PSto) (σ' : L2.St) (H' : Hp), Rel G mu' Fz' env' st' σ' H' → Pr mu Fz H mu' Fz' H' → chk st' → ∃ ws, SqL G.K H' a ws ∧ RVs G.K G.mg mu' Fz' H' ds ws
def StayT (G : Gh) (a : Addr) (ds : List D) (mu : List Addr) (Fz : Addr → Prop) (H : Hp) : Prop := ∃ ws, H a = some (.tup ws) ∧ RVs G.K G.mg mu Fz H ds ws
section
variable {G : Gh} {mu0 mu mu' : List Addr} {Fz0 Fz Fz' : Addr → Prop} {env0 env : PEnv} {st : PSto} {σ : L2.St} {H0 H H' : Hp}
theorem StayL.mono {a : Addr} {ds : List D} {chk : PSto → Prop} (h : StayL G a ds chk mu Fz H) (p : Pr mu Fz H mu' Fz' H') : StayL G a ds chk mu' Fz' H' := fun m f e s t h' r q c => h m f e s t h' r (p.trans q) c
theorem StayT.mono {a : Addr} {ds : List D} (h : StayT G a ds mu Fz H) (p : Pr mu Fz H mu' Fz' H') : StayT G a ds mu' Fz' H' := by
  obtain ⟨ws, e, r⟩ := h
  exact ⟨ws, p.fix _ _ e (fun _ z => nomatch z) (fun _ _ _ z => nomatch z), r.mono p⟩
theorem src_list {K : PySem.W.Frag} {mg : Str → Option Value} {a : Addr} {ds : List D} {ws : List V} (e : SqL K H a ws) (r : RVs K mg mu Fz H ds ws) : Src1 K mg (Itl K a) ds mu Fz H where
  go := fun i d q => by
    obtain ⟨u, e1, ru⟩ := pGet (RVs.iff.mp r) q
    refine ⟨⟨ws, u, e, e1⟩, fun v H' y => ?_⟩
    obtain ⟨rfl, y⟩ := y
    have := y ws e
    rw [e1] at this; cases this
    exact ⟨Same.refl _, ru⟩
  stop := ⟨ws, e, by rw [r.length]; exact Nat.le_refl _⟩
theorem src_tup {K : PySem.W.Frag} {mg : Str → Option Value} {a : Addr} {ds : List D} {ws : List V} (e : H a = some (.tup ws)) (r : RVs K mg mu Fz H ds ws) : Src1 K mg (Itt K a) ds mu Fz H where
  go := fun i d q => by
    obtain ⟨u, e1, ru⟩ := pGet (RVs.iff.mp r) q
    refine ⟨⟨ws, u, SqT.of e, e1⟩, fun v H' y => ?_⟩
    obtain ⟨rfl, y⟩ := y
    have := y ws (SqT.of e)
    rw [e1] at this; cases this
    exact ⟨Same.refl _, ru⟩
  stop := ⟨ws, SqT.of e, by rw [r.length]; exact Nat.le_refl _⟩
theorem enum_get {ds : List D} {i : Nat} {d : D} (h : (enumL ds)[i]? = some d) : ∃ x, ds[i]? = some x ∧ d = .tup [.int i, x] := by
  unfold enumL at h
  rw [List.getElem?_zipWith] at h
  cases q : ds[i]? with
  | none => rw [q] at h; cases q2 : (List.range ds.length)[i]? <;> (rw [q2] at h; cases h)
  | some x =>
    have hi : i < ds.length := (List.getElem?_eq_some_iff.mp q).1
    rw [q, List.getElem?_range hi] at h
    cases h
    exact ⟨x, rfl, rfl⟩
theorem enum_len {ds : List D} : (enumL ds).length = ds.length := by
  unfold enumL
  rw [List.length_zipWith, List.length_range, Nat.min_self]
theorem src_enum {K : PySem.W.Frag} {mg : Str → Option Value} {a : Addr} {ds : List D} {ws : List V} (e : SqL K H a ws) (r : RVs K mg mu Fz H ds ws) : Src1 K mg (Ite K a) (enumL ds) mu Fz H where
  go := fun i d q => by
    obtain ⟨x, q', rfl⟩ := enum_get q
    obtain ⟨u, e1, ru⟩ := pGet (RVs.iff.mp r) q'
    refine ⟨⟨ws, u, e, e1⟩, fun v H' y => ?_⟩
    obtain ⟨p, w, rfl, hp, rfl, y⟩ := y
    have := y ws e
    rw [e1] at this; cases this
    have sm : Same H (upd H p (.tup [.int (i : Nat), u])) := same_upd hp
    exact ⟨sm, p, _, rfl, upd_same, .cons rfl (.cons (ru.mono (Pr.same sm)) .nil)⟩
  stop := ⟨ws, e, by rw [enum_len, r.length]; exact Nat.le_refl _⟩
theorem zip_get {xs ys : List D} {i : Nat} {d : D} (h : (zipL xs ys)[i]? = some d) : ∃ x y, xs[i]? = some x ∧ ys[i]? = some y ∧ d = .tup [x, y] := by
  unfold zipL at h
  rw [List.getElem?_zipWith] at h
  cases q : xs[i]? with
  | none => rw [q] at h; cases h
  | some x =>
    cases q2 : ys[i]? with
    | none => rw [q, q2] at h; cases h
    | some y =>
      rw [q, q2] at h
      cases h
      exact ⟨x, y, rfl, rfl, rfl⟩
theorem zip_len {xs ys : List D} : (zipL xs ys).length = min xs.length ys.length := by
  unfold zipL
  rw [List.length_zipWith]
theorem src_zip {K : PySem.W.Frag} {mg : Str → Option Value} {a b : Addr} {ds es : List D} {ws us : List V} (e : SqL K H a ws) (r : RVs K mg mu Fz H ds ws) (e' : SqL K H b us) (r' : RVs K mg mu Fz H es us) : Src1 K mg (Itz K a b) (zipL ds es) mu Fz H where
  go := fun i d q => by
    obtain ⟨x, y, q1, q2, rfl⟩ := zip_get q
    obtain ⟨u, e1, ru⟩ := pGet (RVs.iff.mp r) q1
    obtain ⟨u', e2, ru'⟩ := pGet (RVs.iff.mp r') q2
    refine ⟨⟨ws, us, u, u', e, e', e1, e2⟩, fun v H' y => ?_⟩
    obtain ⟨p, w, w', rfl, hp, rfl, y1, y2⟩ := y
    have := y1 ws e
    rw [e1] at this; cases this
    have := y2 us e'
    rw [e2] at this; cases this
    have sm : Same H (upd H p (.tup [u, u'])) := same_upd hp
    exact ⟨sm, p, _, rfl, upd_same, .cons (ru.mono (Pr.same sm)) (.cons (ru'.mono (Pr.same sm)) .nil)⟩
  stop := ⟨ws, us, e, e', by rw [zip_len, r.length, r'.length]; omega⟩
theorem src_zipT {K : PySem.W.Frag} {mg : Str → Option Value} {a b : Addr} {ds es : List D} {ws us : List V} (e : H a = some (.tup ws)) (r : RVs K mg mu Fz H ds ws) (e' : H b = some (.tup us)) (r' : RVs K mg mu Fz H es us) : Src1 K mg (RZ.ItzT K a b) (zipL ds es) mu Fz H where
  go := fun i d q => by
    obtain ⟨x, y, q1, q2, rfl⟩ := zip_get q
    obtain ⟨u, e1, ru⟩ := pGet (RVs.iff.mp r) q1
    obtain ⟨u', e2, ru'⟩ := pGet (RVs.iff.mp r') q2
    refine ⟨⟨ws, us, u, u', SqT.of e, SqT.of e', e1, e2⟩, fun v H' y => ?_⟩
    obtain ⟨p, w, w', rfl, hp, rfl, y1, y2⟩ := y
    have := y1 ws (SqT.of e)
    rw [e1] at this; cases this
    have := y2 us (SqT.of e')
    rw [e2] at this; cases this
    have sm : Same H (upd H p (.tup [u, u'])) := same_upd hp
    exact ⟨sm, p, _, rfl, upd_same, .cons (ru.mono (Pr.same sm)) (.cons (ru'.mono (Pr.same sm)) .nil)⟩
  stop := ⟨ws, us, SqT.of e, SqT.of e', by rw [zip_len, r.length, r'.length]; omega⟩
/-- what srcL gives -/
theorem srcL_ok {r : R} {v : V} {Kq : QS} (x : Rel G mu Fz env st σ H) (s : Stp mu0 Fz0 env0 σ H0 mu Fz env H) (rr : RR G mu Fz env σ H r v) (fr : Frh H0 r v) (q : srcL r env st Kq) :
    ∃ mu' Fz' env' st' ds chk a, v = .ref a ∧ Rel G mu' Fz' env' st' σ H ∧ Stp mu0 Fz0 env0 σ H0 mu' Fz' env' H ∧ Esd r v mu Fz env σ H mu' Fz' env' ∧ ((isLst r env st ∧ StayL G a ds chk mu' Fz' H) ∨ (isTup r env st ∧ StayT G a ds mu' Fz' H)) ∧ chk st' ∧ Kq ds chk env' st' := by
  have gen : (∀ (d : D), (match d with
      | .lst _ => True
      | .tup _ => True
      | _ => False) → (∀ mu' Fz', RV G.K G.mg mu' Fz' H d v → match d with
      | .lst _ => isLst r env st
      | .tup _ => isTup r env st
      | _ => False)) → (esc false r env st fun d env st => match d with
      | .lst ds => Kq ds (fun _ => True) env st
      | .tup ds => Kq ds (fun _ => True) env st
      | _ => False) → ∃ mu' Fz' env' st' ds chk a, v = .ref a ∧ Rel G mu' Fz' env' st' σ H ∧ Stp mu0 Fz0 env0 σ H0 mu' Fz' env' H ∧ Esd r v mu Fz env σ H mu' Fz' env' ∧ ((isLst r env st ∧ StayL G a ds chk mu' Fz' H) ∨ (isTup r env st ∧ StayT G a ds mu' Fz' H)) ∧ chk st' ∧ Kq ds chk env' st' := by
    intro hk q
    obtain ⟨mu1, Fz1, env1, st1, d, x1, s1, e1, rv, q⟩ := esc_ok x s rr fr q
    cases d <;> try exact q.elim
    · rename_i ds
      have hk' := hk (.tup ds) True.intro mu1 Fz1 rv
      obtain ⟨a, ws, rfl, e, rv⟩ := rv
      exact ⟨mu1, Fz1, env1, st1, ds, _, a, rfl, x1, s1, e1, .inr ⟨hk', ws, e, rv⟩, True.intro, q⟩
    · rename_i ds
      have hk' := hk (.lst ds) True.intro mu1 Fz1 rv
      obtain ⟨a, ws, rfl, e, hz, rv⟩ := rv
      exact ⟨mu1, Fz1, env1, st1, ds, _, a, rfl, x1, s1, e1, .inl ⟨hk', fun m f e' s' t h' rl p _ => ⟨ws, .inl (.inl (p.fzk _ _ hz e)), rv.mono p⟩⟩, True.intro, q⟩
  -- what is read there, by what stands at the address
  have kinds : ∀ (mu' : List Addr) (Fz' : Addr → Prop) (d : D), (∀ (ds : List D), d = .lst ds → ∃ y, deref env st r = some y ∧ VD G.K G.mg mu Fz H y v) → True := fun _ _ _ _ => trivial
  cases r with
  | tmp es =>
    refine gen (fun d hd mu' Fz' rv => ?_) q
    obtain ⟨p, vs, e, e2, _⟩ := rr
    cases d <;> try exact hd.elim
    · obtain ⟨a, ws, e4, e3, _⟩ := rv
      rw [e] at e4; cases e4
      rw [e2] at e3; cases e3
    · exact True.intro
  | brw i =>
    refine gen (fun d hd mu' Fz' rv => ?_) q
    have hv : σ[i]? = some (some v) := rr
    have q' := q
    unfold srcL esc at q'
    unfold isLst isTup deref
    cases he : env[i]? with
    | none => simp only [he] at q'
    | some sl =>
      cases sl with
      | no => simp only [he] at q'
      | own es =>
        obtain ⟨p, vs, e, e2, _⟩ := x.own i es he
        rw [hv] at e; cases e
        cases d <;> try exact hd.elim
        · obtain ⟨a, ws, e4, e3, _⟩ := rv
          cases e4
          rw [e2] at e3; cases e3
        · simp only [he, derefD]
      | val y =>
        simp only [he] at q'
        obtain ⟨w, e1, e2⟩ := x.val i y he
        rw [hv] at e1; cases e1
        cases y <;> try exact q'.elim
        · obtain ⟨b, us, e5, e6, _⟩ := e2
          cases d <;> try exact hd.elim
          · simp only [he, derefD]
          · obtain ⟨a, ws, e4, e3, _⟩ := rv
            rw [e5] at e4; cases e4
            rw [e6] at e3; cases e3
        · obtain ⟨b, us, e5, e6, _⟩ := e2
          cases d <;> try exact hd.elim
          · obtain ⟨a, ws, e4, e3, _⟩ := rv
            rw [e5] at e4; cases e4
            rw [e6] at e3; cases e3
          · simp only [he, derefD]
  | d y =>
    cases y with
    | ref k =>
      have h0 := rr
      obtain ⟨a, rfl, hm⟩ := rr
      unfold srcL at q
      simp only at q
      cases hc : st[k]? with
      | none => simp only [hc] at q
      | some c =>
        cases c with
        | ins c fs => simp only [hc] at q
        | lst ds =>
          simp only [hc] at q
          refine ⟨mu, Fz, env, st, ds, _, a, rfl, x, s, .refl _ _, .inl ⟨by unfold isLst deref derefD refD; simp only [hc], fun m f e' s' t h' rl p ck => ?_⟩, ⟨ds, hc, rfl⟩, q⟩
          obtain ⟨c, e1, rfl⟩ := ck
          obtain ⟨b, e2, ws, e3, e4⟩ := rl.cell k _ e1
          have e5 := p.muget hm
          rw [e5] at e2; cases e2
          exact ⟨ws, SqL.of e3, e4⟩
    | scr ds =>
      have h0 : RV G.K G.mg mu Fz H (.scr ds) v := rr
      obtain ⟨a, ws, e, _, _⟩ := h0
      refine ⟨mu, Fz, env, st, ds, _, a, e, x, s, .refl _ _, .inl ⟨True.intro, fun m f e' s' t h' rl p _ => ?_⟩, True.intro, q⟩
      have h1 : RV G.K G.mg m f h' (.scr ds) v := RV.mono p rr
      obtain ⟨b, us, e1, e2, e3⟩ := scr_sq h1
      rw [e] at e1; cases e1
      exact ⟨us, e2, e3⟩
    | tup es =>
      refine gen (fun d hd mu' Fz' rv => ?_) q
      obtain ⟨b, us, e5, e6, _⟩ := rr
      cases d <;> try exact hd.elim
      · exact True.intro
      · obtain ⟨a, ws, e4, e3, _⟩ := rv
        rw [e5] at e4; cases e4
        rw [e6] at e3; cases e3
    | lst es =>
      refine gen (fun d hd mu' Fz' rv => ?_) q
      obtain ⟨b, us, e5, e6, _⟩ := rr
      cases d <;> try exact hd.elim
      · obtain ⟨a, ws, e4, e3, _⟩ := rv
        rw [e5] at e4; cases e4
        rw [e6] at e3; cases e3
      · exact True.intro
    | _ => exact q.elim
end
section
variable {X : Cx} {G : Gh} {T : Tab} {CALL : CallT} {EX : QX}
theorem si_val {p : E} {tg e : Expr} (hK : X.K = G.K) (he : PE X e (tE G (wpE T CALL EX p))) : L2.PI X tg e (tS G (wpSrc T CALL EX (.val p))) := by
  refine PI.imp (pi_any he) fun σ H R h => ?_
  rw [hK]
  obtain ⟨mu, Fz, env, st, Qp, x, h, k⟩ := h
  unfold wpSrc at h
  refine tE.mk x h fun mu1 Fz1 env1 st1 H1 r v x1 s1 rr1 f1 h1 => ?_
  cases hs : isStr r env1 st1 with
  | some z =>
    simp only [hs] at h1
    have hd : dr env1 st1 r (fun d => d = .str z) := by
      unfold isStr at hs
      unfold dr
      cases q : deref env1 st1 r with
      | none => rw [q] at hs; cases hs
      | some d =>
        rw [q] at hs
        cases d <;> first
          | (cases hs; done)
          | (cases hs; rfl)
    obtain ⟨d, g, rfl⟩ := dr_ok x1 rr1 hd
    obtain rfl : v = _ := g
    exact .inr (.inr ⟨z, rfl, k _ _ _ _ _ _ _ _ x1 s1 (fun _ _ _ _ _ _ _ _ _ => src_str z) h1⟩)
  | none =>
    simp only [hs] at h1
    obtain ⟨mu2, Fz2, env2, st2, ds, chk, a, rfl, x2, s2, _, hL, hc, h1⟩ := srcL_ok x1 s1 rr1 f1 h1
    rcases hL with ⟨_, hL⟩ | ⟨_, hL⟩
    · have hS : SrcS G (Itl G.K a) ds chk mu2 Fz2 H1 := fun m f e' s' t h' rl p ck => by
        obtain ⟨ws, e1, e2⟩ := hL m f e' s' t h' rl p ck
        exact src_list e1 e2
      obtain ⟨ws, e1, e2⟩ := hL mu2 Fz2 env2 st2 σ H1 x2 (Pr.same (Same.refl _)) hc
      exact .inl ⟨a, rfl, ⟨ws, e1⟩, k _ _ _ _ _ _ _ _ x2 s2 hS h1⟩
    · obtain ⟨ws, e1, e2⟩ := id hL
      exact .inr (.inl ⟨a, rfl, ⟨ws, SqT.of e1⟩, k _ _ _ _ _ ds chk _ x2 s2 (fun m f e' s' t h' rl p ck => by
        obtain ⟨ws, e1, e2⟩ := hL.mono p
        exact src_tup e1 e2) h1⟩)
/-- one argument, as a list -/
theorem sa_one {m : Bool} {p : E} {e : Expr} (he : PE X e (tE G (wpE T CALL EX p))) (hs : starEach [e] X.env = [(false, eval e X.env)]) : PA X [e] (tA G (wpEs T CALL EX (.cons m p .nil))) := sa_cons he sa_nil hs
theorem si_rng1 {p : E} {tg e : Expr} {q pos : Pos} (hg : Gl X "range") (hm : X.mg "range" = none) (he : PE X e (tE G (wpE T CALL EX p))) (hs : starEach [e] X.env = [(false, eval e X.env)]) :
    L2.PI X tg (.Call (.Name "range" q) [e] [] pos) (tS G (wpSrc T CALL EX (.rng1 p))) := by
  refine PI.imp (pi_range1 hg hm (pa_cons he pa_nil hs) hs) fun σ H R h => ?_
  obtain ⟨mu, Fz, env, st, Qp, x, h, k⟩ := h
  unfold wpSrc at h
  refine tE.mk x h fun mu1 Fz1 env1 st1 H1 r v x1 s1 rr1 f1 h1 => ?_
  obtain ⟨d, g, h1⟩ := dr_ok x1 rr1 h1
  cases d <;> try exact h1.elim
  obtain rfl : v = _ := g
  exact ⟨_, rfl, h1.1.1, h1.1.2, k _ _ _ _ _ _ _ _ x1 s1 (fun _ _ _ _ _ _ _ _ _ => src_rng _ _) h1.2⟩
theorem si_rng2 {p p2 : E} {tg e e2 : Expr} {q pos : Pos} (hg : Gl X "range") (hm : X.mg "range" = none) (he : PE X e (tE G (wpE T CALL EX p))) (he2 : PE X e2 (tE G (wpE T CALL EX p2))) (hs : starEach [e, e2] X.env = [(false, eval e X.env), (false, eval e2 X.env)]) (hs2 : starEach [e2] X.env = [(false, eval e2 X.env)]) :
    L2.PI X tg (.Call (.Name "range" q) [e, e2] [] pos) (tS G (wpSrc T CALL EX (.rng2 p p2))) := by
  refine PI.imp (pi_range2 hg hm (pa_cons he (pa_cons he2 pa_nil hs2) (by rw [hs, hs2])) hs hs2) fun σ H R h => ?_
  obtain ⟨mu, Fz, env, st, Qp, x, h, k⟩ := h
  unfold wpSrc at h
  refine tE.mk x h fun mu1 Fz1 env1 st1 H1 r v x1 s1 rr1 f1 h1 => tE.mk x1 h1 fun mu2 Fz2 env2 st2 H2 r2 v2 x2 s2 rr2 f2 h2 => ?_
  obtain ⟨d, g, h2⟩ := dr_ok x2 (rr1.mono x1 s2) h2
  obtain ⟨d2, g2, h2⟩ := dr_ok x2 rr2 h2
  cases d <;> try exact h2.elim
  cases d2 <;> try exact h2.elim
  obtain rfl : v = _ := g
  obtain rfl : v2 = _ := g2
  exact ⟨_, _, rfl, ⟨h2.1.1, h2.1.2, h2.2.1.1, h2.2.1.2⟩, k _ _ _ _ _ _ _ _ x2 (s1.trans s2) (fun _ _ _ _ _ _ _ _ _ => src_rng _ _) h2.2.2⟩
theorem si_rng3 {p p2 p3 : E} {tg e e2 e3 : Expr} {q pos : Pos} (hg : Gl X "range") (hm : X.mg "range" = none) (he : PE X e (tE G (wpE T CALL EX p))) (he2 : PE X e2 (tE G (wpE T CALL EX p2))) (he3 : PE X e3 (tE G (wpE T CALL EX p3)))
    (hs : starEach [e, e2, e3] X.env = [(false, eval e X.env), (false, eval e2 X.env), (false, eval e3 X.env)]) (hs2 : starEach [e2, e3] X.env = [(false, eval e2 X.env), (false, eval e3 X.env)]) (hs3 : starEach [e3] X.env = [(false, eval e3 X.env)]) :
    L2.PI X tg (.Call (.Name "range" q) [e, e2, e3] [] pos) (tS G (wpSrc T CALL EX (.rng3 p p2 p3))) := by
  refine PI.imp (pi_range3 hg hm (pa_cons he (pa_cons he2 (pa_cons he3 pa_nil hs3) (by rw [hs2, hs3])) (by rw [hs, hs2])) (by rw [hs, hs2]) (by rw [hs2]; rfl)) fun σ H R h => ?_
  obtain ⟨mu, Fz, env, st, Qp, x, h, k⟩ := h
  unfold wpSrc at h
  refine tE.mk x h fun mu1 Fz1 env1 st1 H1 r v x1 s1 rr1 f1 h1 => tE.mk x1 h1 fun mu2 Fz2 env2 st2 H2 r2 v2 x2 s2 rr2 f2 h2 => tE.mk x2 h2 fun mu3 Fz3 env3 st3 H3 r3 v3 x3 s3 rr3 f3 h3 => ?_
  obtain ⟨d, g, h3⟩ := dr_ok x3 ((rr1.mono x1 s2).mono x2 s3) h3
  obtain ⟨d2, g2, h3⟩ := dr_ok x3 (rr2.mono x2 s3) h3
  obtain ⟨d3, g3, h3⟩ := dr_ok x3 rr3 h3
  cases d <;> try exact h3.elim
  cases d2 <;> try exact h3.elim
  cases d3 <;> try exact h3.elim
  obtain rfl : v = _ := g
  obtain rfl : v2 = _ := g2
  obtain rfl : v3 = _ := g3
  obtain ⟨⟨a1, a2⟩, ⟨b1, b2⟩, rfl, h3⟩ := h3
  exact ⟨_, _, _, _, rfl, RgC.neg a1 a2 b1 b2, k _ _ _ _ _ _ _ _ x3 ((s1.trans s2).trans s3) (fun _ _ _ _ _ _ _ _ _ => src_rngC _ _) h3⟩
theorem isLst_ne {G : Gh} {mu : List Addr} {Fz : Addr → Prop} {env : PEnv} {st : PSto} {r : R} (h : isLst r env st) (h2 : isTup r env st) : False := by
  unfold isLst at h
  unfold isTup at h2
  cases e : deref env st r with
  | none => rw [e] at h; exact h
  | some d =>
    rw [e] at h h2
    cases d <;> first
      | exact h
      | exact h2
theorem si_enum {m : Bool} {p : E} {es : List Expr} {kk : Nat} {tpos q pos : Pos} {e : Expr} (hK : X.K = G.K) (hg : Gl X "enumerate") (hm : X.mg "enumerate" = none) (he : PE X e (tE G (wpE T CALL EX p))) (hs : starEach [e] X.env = [(false, eval e X.env)]) :
    L2.PI X (.Tuple es kk tpos) (.Call (.Name "enumerate" q) [e] [] pos) (tS G (wpSrc T CALL EX (.enum p))) := by
  refine PI.imp (pi_enum hg hm (pa_cons he pa_nil hs) hs) fun σ H R h => ?_
  rw [hK]
  obtain ⟨mu, Fz, env, st, Qp, x, h, k⟩ := h
  unfold wpSrc at h
  refine tE.mk x h fun mu1 Fz1 env1 st1 H1 r v x1 s1 rr1 f1 h1 => ?_
  obtain ⟨hl, h1⟩ := h1
  obtain ⟨mu2, Fz2, env2, st2, ds, chk, a, rfl, x2, s2, _, hL, hc, h1⟩ := srcL_ok x1 s1 rr1 f1 h1
  rcases hL with ⟨_, hL⟩ | ⟨hT, hL⟩
  · obtain ⟨ws, e1, e2⟩ := hL mu2 Fz2 env2 st2 σ H1 x2 (Pr.same (Same.refl _)) hc
    exact ⟨a, ws, rfl, e1, k _ _ _ _ _ _ _ _ x2 s2 (fun m f e' s' t h' rl p ck => by
      obtain ⟨ws, e1, e2⟩ := hL m f e' s' t h' rl p ck
      exact src_enum e1 e2) h1⟩
  · exact (isLst_ne (G := G) (mu := mu) (Fz := Fz) hl hT).elim
theorem si_zip {p p2 : E} {es : List Expr} {kk : Nat} {tpos q pos : Pos} {e e2 : Expr} (hK : X.K = G.K) (hg : Gl X "zip") (hm : X.mg "zip" = none) (he : PE X e (tE G (wpE T CALL EX p))) (he2 : PE X e2 (tE G (wpE T CALL EX p2))) (hs : starEach [e, e2] X.env = [(false, eval e X.env), (false, eval e2 X.env)]) (hs2 : starEach [e2] X.env = [(false, eval e2 X.env)]) :
    L2.PI X (.Tuple es kk tpos) (.Call (.Name "zip" q) [e, e2] [] pos) (tS G (wpSrc T CALL EX (.zip p p2))) := by
  refine PI.imp (RZ.pi_zipA hg hm (pa_cons he (pa_cons he2 pa_nil hs2) (by rw [hs, hs2])) (by rw [hs, hs2]) (by rw [hs2]; rfl)) fun σ H R h => ?_
  rw [hK]
  obtain ⟨mu, Fz, env, st, Qp, x, h, k⟩ := h
  unfold wpSrc at h
  refine tE.mk x h fun mu1 Fz1 env1 st1 H1 r v x1 s1 rr1 f1 h1 => tE.mk x1 h1 fun mu2 Fz2 env2 st2 H2 r2 v2 x2 s2 rr2 f2 h2 => ?_
  have rr1' := rr1.mono x1 s2
  have hn : ∀ a, v = V.ref a → isT r2 → isT r → v2 ≠ V.ref a := fun a ha hT2 hT z => by
    cases r2 with
    | tmp ds2 =>
      cases r with
      | tmp ds1 =>
        obtain ⟨b, ws, eb, e1, _⟩ := rr1
        rw [ha] at eb
        cases eb
        have := f2 _ z
        rw [e1] at this; cases this
      | d y => exact hT
      | brw i => exact hT
    | d y => exact hT2
    | brw i => exact hT2
  rcases h2 with ⟨hl, h2⟩ | ⟨hl, h2⟩
  · obtain ⟨mu3, Fz3, env3, st3, ds, chk, a, rfl, x3, s3, e3, hL, hc, hl2, h3⟩ := srcL_ok x2 (s1.trans s2) rr1' f1 h2
    obtain ⟨mu4, Fz4, env4, st4, ds2, chk2, b, rfl, x4, s4, e4, hL2, hc2, h4⟩ := srcL_ok x3 s3 (e3.rr rr2 (hn a rfl)) (f2.sm fun _ z => s1.sm _ z) h3
    rcases hL with ⟨_, hL⟩ | ⟨hT, hL⟩
    · rcases hL2 with ⟨_, hL2⟩ | ⟨hT2, hL2⟩
      · have hL' : StayL G a ds chk mu4 Fz4 H2 := hL.mono e4.pr
        obtain ⟨hc4, h4⟩ := h4
        obtain ⟨ws, e1, q1⟩ := hL' mu4 Fz4 env4 st4 σ H2 x4 (Pr.same (Same.refl _)) hc4
        obtain ⟨us, e2, q2⟩ := hL2 mu4 Fz4 env4 st4 σ H2 x4 (Pr.same (Same.refl _)) hc2
        exact ⟨a, b, ws, us, rfl, .inl ⟨e1, e2, k _ _ _ _ _ _ _ _ x4 s4 (fun m f e' s' t h' rl p ck => by
          obtain ⟨ws, e1, q1⟩ := hL' m f e' s' t h' rl p ck.1
          obtain ⟨us, e2, q2⟩ := hL2 m f e' s' t h' rl p ck.2
          exact src_zip e1 q1 e2 q2) h4⟩⟩
      · exact (isLst_ne (G := G) (mu := mu) (Fz := Fz) hl2 hT2).elim
    · exact (isLst_ne (G := G) (mu := mu) (Fz := Fz) hl hT).elim
  · obtain ⟨mu3, Fz3, env3, st3, ds, chk, a, rfl, x3, s3, e3, hL, hc, hl2, h3⟩ := srcL_ok x2 (s1.trans s2) rr1' f1 h2
    obtain ⟨mu4, Fz4, env4, st4, ds2, chk2, b, rfl, x4, s4, e4, hL2, hc2, h4⟩ := srcL_ok x3 s3 (e3.rr rr2 (hn a rfl)) (f2.sm fun _ z => s1.sm _ z) h3
    rcases hL with ⟨hT, hL⟩ | ⟨_, hL⟩
    · exact (isLst_ne (G := G) (mu := mu) (Fz := Fz) hT hl).elim
    · rcases hL2 with ⟨hT2, hL2⟩ | ⟨_, hL2⟩
      · exact (isLst_ne (G := G) (mu := mu) (Fz := Fz) hT2 hl2).elim
      · have hL' : StayT G a ds mu4 Fz4 H2 := hL.mono e4.pr
        obtain ⟨ws, e1, q1⟩ := id hL'
        obtain ⟨us, e2, q2⟩ := id hL2
        exact ⟨a, b, ws, us, rfl, .inr ⟨SqT.of e1, SqT.of e2, k _ _ _ _ _ _ _ _ x4 s4 (fun m f e' s' t h' rl p ck => by
          obtain ⟨ws, e1, q1⟩ := hL'.mono p
          obtain ⟨us, e2, q2⟩ := hL2.mono p
          exact src_zipT e1 q1 e2 q2) h4⟩⟩
end
end PI
set_option maxHeartbeats 2000000
namespace PI
open PySem PySem.Spec PyProof.Rows L2

/-! ### targets -/
def gNs : List Nat → TGs
  | [] => gNil
  | i :: is => gCons (gName i) (gNs is)
def gT (K : PySem.W.Frag) : Tg → TG
  | .name i => gName i
  | .tup is => gTup K is.length (gNs is)
def tgIn : Tg → Nat → Prop
  | .name i, j => i = j
  | .tup is, j => j ∈ is
/-- slots are given new values, or lose theirs -/
structure Upd (K : PySem.W.Frag) (mg : Str → Option Value) (mu : List Addr) (Fz : Addr → Prop) (H : Hp) (P : Nat → Prop) (env : PEnv) (σ : L2.St) (env2 : PEnv) (σ2 : L2.St) : Prop where
  le : env2.length = env.length
  ls : σ2.length = σ.length
  ch : ∀ i : Nat, (env2[i]? = env[i]? ∧ σ2[i]? = σ[i]?) ∨ (P i ∧ ((∃ d v, env2[i]? = some (.val d) ∧ σ2[i]? = some (some v) ∧ RV K mg mu Fz H d v) ∨ env2[i]? = some .no))
section
variable {K : PySem.W.Frag} {mg : Str → Option Value} {mu : List Addr} {Fz : Addr → Prop} {H : Hp} {P : Nat → Prop} {env env2 env3 : PEnv} {σ σ2 σ3 : L2.St}
theorem Upd.refl : Upd K mg mu Fz H P env σ env σ := ⟨rfl, rfl, fun _ => .inl ⟨rfl, rfl⟩⟩
theorem Upd.trans (a : Upd K mg mu Fz H P env σ env2 σ2) (b : Upd K mg mu Fz H P env2 σ2 env3 σ3) : Upd K mg mu Fz H P env σ env3 σ3 :=
  ⟨b.le.trans a.le, b.ls.trans a.ls, fun i => by
    rcases b.ch i with ⟨e1, e2⟩ | h
    · rcases a.ch i with ⟨e3, e4⟩ | ⟨hp, ⟨d, v, q1, q2, q3⟩ | q⟩
      · exact .inl ⟨e1.trans e3, e2.trans e4⟩
      · exact .inr ⟨hp, .inl ⟨d, v, e1.trans q1, e2.trans q2, q3⟩⟩
      · exact .inr ⟨hp, .inr (e1.trans q)⟩
    · exact .inr h⟩
theorem Upd.put {i : Nat} {d : D} {v : V} (hl : env.length = σ.length) (hp : P i) (h : RV K mg mu Fz H d v) : Upd K mg mu Fz H P env σ (env.set i (.val d)) (σ.set i (some v)) := by
  refine ⟨List.length_set, List.length_set, fun j => ?_⟩
  by_cases hj : i = j
  · subst hj
    by_cases hi : i < env.length
    · exact .inr ⟨hp, .inl ⟨d, v, List.getElem?_set_self hi, List.getElem?_set_self (by omega), h⟩⟩
    · refine .inl ⟨?_, ?_⟩
      · rw [List.getElem?_eq_none (by rw [List.length_set]; omega), List.getElem?_eq_none (by omega)]
      · rw [List.getElem?_eq_none (by rw [List.length_set]; omega), List.getElem?_eq_none (by omega)]
  · exact .inl ⟨List.getElem?_set_ne hj, List.getElem?_set_ne hj⟩
theorem Upd.none {i : Nat} (hl : env.length = σ.length) (hp : P i) : Upd K mg mu Fz H P env σ (env.set i .no) (σ.set i none) := by
  refine ⟨List.length_set, List.length_set, fun j => ?_⟩
  by_cases hj : i = j
  · subst hj
    by_cases hi : i < env.length
    · exact .inr ⟨hp, .inr (List.getElem?_set_self hi)⟩
    · refine .inl ⟨?_, ?_⟩
      · rw [List.getElem?_eq_none (by rw [List.length_set]; omega), List.getElem?_eq_none (by omega)]
      · rw [List.getElem?_eq_none (by rw [List.length_set]; omega), List.getElem?_eq_none (by omega)]
  · exact .inl ⟨List.getElem?_set_ne hj, List.getElem?_set_ne hj⟩
theorem Upd.imp {P' : Nat → Prop} (h : Upd K mg mu Fz H P env σ env2 σ2) (k : ∀ i, P i → P' i) : Upd K mg mu Fz H P' env σ env2 σ2 := ⟨h.le, h.ls, fun i => (h.ch i).imp id fun ⟨a, b⟩ => ⟨k i a, b⟩⟩
theorem upd_wipe (hl : env.length = σ.length) : ∀ own : List Nat, Upd K mg mu Fz H (· ∈ own) env σ (wipeE env own) (wipe σ own)
  | [] => Upd.refl
  | v :: vs => by
    have ih := (upd_wipe hl vs).imp (P' := (· ∈ v :: vs)) fun _ h => List.mem_cons_of_mem _ h
    refine ih.trans ?_
    show Upd K mg mu Fz H _ (wipeE env vs) (wipe σ vs) ((wipeE env vs).set v .no) ((wipe σ vs).set v none)
    exact Upd.none (by rw [ih.le, ih.ls, hl]) List.mem_cons_self
end
section
variable {G : Gh} {mu : List Addr} {Fz : Addr → Prop} {env env2 : PEnv} {st : PSto} {σ σ2 : L2.St} {H : Hp} {P : Nat → Prop}
theorem Upd.own (u : Upd G.K G.mg mu Fz H P env σ env2 σ2) {i : Nat} {ds : List D} (e : env2[i]? = some (.own ds)) : env[i]? = some (.own ds) ∧ σ2[i]? = σ[i]? := by
  rcases u.ch i with ⟨e1, e2⟩ | ⟨_, ⟨d, v, q, _⟩ | q⟩
  · exact ⟨e1 ▸ e, e2⟩
  · rw [e] at q; cases q
  · rw [e] at q; cases q
theorem Upd.ownA (u : Upd G.K G.mg mu Fz H P env σ env2 σ2) {a : Addr} (h : OwnA env2 σ2 a) : OwnA env σ a := by
  obtain ⟨i, ds, e, q⟩ := h
  obtain ⟨e1, e2⟩ := u.own e
  exact ⟨i, ds, e1, e2 ▸ q⟩
theorem Rel.upd (x : Rel G mu Fz env st σ H) (u : Upd G.K G.mg mu Fz H P env σ env2 σ2) : Rel G mu Fz env2 st σ2 H := by
  refine ⟨by rw [u.le, u.ls]; exact x.len, fun i d e => ?_, fun i ds e => ?_, fun i j ds es a e1 e2 q1 q2 => ?_, x.mlen, x.cell, x.mnd, x.mfz, x.fzl, x.pre, x.new, x.fz0, x.fzn, x.keep⟩
  · rcases u.ch i with ⟨e1, e2⟩ | ⟨_, ⟨d', v, q, q2, q3⟩ | q⟩
    · rw [e2]
      exact x.val i d (e1 ▸ e)
    · rw [e] at q; cases q
      exact ⟨v, q2, q3⟩
    · rw [e] at q; cases q
  · obtain ⟨e1, e2⟩ := u.own e
    rw [e2]
    exact x.own i ds e1
  · obtain ⟨e1', e1''⟩ := u.own e1
    obtain ⟨e2', e2''⟩ := u.own e2
    exact x.sep i j ds es a e1' e2' (e1'' ▸ q1) (e2'' ▸ q2)
theorem asgN_ok : ∀ {is : List Nat} {ds : List D} {vs : List V} {env : PEnv} {σ : L2.St} {Q : PEnv → Prop} {P : Nat → Prop}, env.length = σ.length → RVs G.K G.mg mu Fz H ds vs → asgN is ds env Q → (∀ i ∈ is, P i) →
    ∀ (R : L2.St → Hp → Prop), (∀ env2 σ2, Upd G.K G.mg mu Fz H P env σ env2 σ2 → Q env2 → R σ2 H) → gNs is vs σ H R
  | [], [], vs, env, σ, Q, P, hl, rv, q, hp, R, k => by
    obtain rfl := rv
    exact ⟨rfl, k env σ Upd.refl q⟩
  | [], _ :: _, _, _, _, _, _, _, _, q, _, _, _ => q.elim
  | _ :: _, [], _, _, _, _, _, _, _, q, _, _, _ => q.elim
  | i :: is, d :: ds, vs, env, σ, Q, P, hl, rv, q, hp, R, k => by
    obtain ⟨v, w, rfl, r1, r2⟩ := rv
    refine ⟨v, w, rfl, ?_⟩
    have u : Upd G.K G.mg mu Fz H P env σ (env.set i (.val d)) (σ.set i (some v)) := Upd.put hl (hp i List.mem_cons_self) r1
    exact asgN_ok (by rw [u.le, u.ls, hl]) r2 q (fun j hj => hp j (List.mem_cons_of_mem _ hj)) R fun env2 σ2 u2 q2 => k env2 σ2 (u.trans u2) q2
theorem asgN_len : ∀ {is : List Nat} {ds : List D} {env : PEnv} {Q : PEnv → Prop}, asgN is ds env Q → is.length = ds.length
  | [], [], _, _, _ => rfl
  | [], _ :: _, _, _, q => q.elim
  | _ :: _, [], _, _, q => q.elim
  | _ :: _, _ :: _, _, _, q => congrArg (· + 1) (asgN_len q)
/-- an item goes to its target -/
theorem asgT_ok {tg : Tg} {d : D} {v : V} {Q : PEnv → Prop} {P : Nat → Prop} (x : Rel G mu Fz env st σ H) (rv : RV G.K G.mg mu Fz H d v) (q : asgT tg d env Q) (hp : ∀ i, tgIn tg i → P i)
    (R : L2.St → Hp → Prop) (k : ∀ env2 σ2, Upd G.K G.mg mu Fz H P env σ env2 σ2 → Q env2 → R σ2 H) : gT G.K tg v σ H R := by
  cases tg with
  | name i => exact k _ _ (Upd.put x.len (hp i rfl) rv) q
  | tup is =>
    cases d <;> try exact q.elim
    obtain ⟨a, ws, rfl, e, rv⟩ := rv
    exact ⟨a, ws, rfl, SqT.of e, by rw [← rv.length]; exact (asgN_len q).symm, asgN_ok x.len rv q hp R k⟩
end

/-! ### comprehensions -/
theorem wipe_get (σ : L2.St) : ∀ (vs : List Nat) (i : Nat), (wipe σ vs)[i]? = if i ∈ vs then (if i < σ.length then some none else none) else σ[i]?
  | [], i => by simp [wipe]
  | v :: vs, i => by
    unfold wipe
    have ih := wipe_get σ vs i
    by_cases hv : v = i
    · subst hv
      rw [if_pos List.mem_cons_self]
      by_cases hl : v < σ.length
      · rw [List.getElem?_set_self (by rw [wipe_length]; exact hl), if_pos hl]
      · rw [if_neg hl, List.getElem?_eq_none (by rw [List.length_set, wipe_length]; omega)]
    · rw [List.getElem?_set_ne hv, ih]
      have e : (i ∈ v :: vs) ↔ i ∈ vs := by
        rw [List.mem_cons]
        exact ⟨fun z => z.elim (fun z => absurd z.symm hv) id, .inr⟩
      by_cases hi : i ∈ vs
      · rw [if_pos hi, if_pos (e.mpr hi)]
      · rw [if_neg hi, if_neg fun z => hi (e.mp z)]
theorem wipe_upd {K : PySem.W.Frag} {mg : Str → Option Value} {mu : List Addr} {Fz : Addr → Prop} {H : Hp} {env env2 : PEnv} {σ σ2 : L2.St} {own : List Nat} (u : Upd K mg mu Fz H (· ∈ own) env (wipe σ own) env2 σ2) : wipe σ2 own = wipe σ own := by
  have hl : σ2.length = σ.length := u.ls.trans (wipe_length σ own)
  apply List.ext_getElem?
  intro i
  rw [wipe_get, wipe_get, hl]
  by_cases hi : i ∈ own
  · rw [if_pos hi, if_pos hi]
  · rw [if_neg hi, if_neg hi]
    rcases u.ch i with ⟨_, e⟩ | ⟨h, _⟩
    · rw [e, wipe_get, if_neg hi]
    · exact absurd h hi
theorem backE_get (env env' : PEnv) (hl : env'.length = env.length) : ∀ (vs : List Nat) (i : Nat), (backE env env' vs)[i]? = if i ∈ vs then env[i]? else env'[i]?
  | [], i => by simp [backE]
  | v :: vs, i => by
    unfold backE
    have ih := backE_get env env' hl vs i
    have hb : (backE env env' vs).length = env.length := by
      clear ih
      induction vs with
      | nil => exact hl
      | cons w ws ih => unfold backE; rw [List.length_set]; exact ih
    by_cases hv : v = i
    · subst hv
      rw [if_pos List.mem_cons_self]
      by_cases hlt : v < env.length
      · rw [List.getElem?_set_self (by rw [hb]; exact hlt), List.getElem?_eq_getElem hlt, List.getD_eq_getElem?_getD, List.getElem?_eq_getElem hlt]
        rfl
      · rw [List.getElem?_eq_none (by rw [List.length_set, hb]; omega), List.getElem?_eq_none (by omega)]
    · rw [List.getElem?_set_ne hv, ih]
      have e : (i ∈ v :: vs) ↔ i ∈ vs := by
        rw [List.mem_cons]
        exact ⟨fun z => z.elim (fun z => absurd z.symm hv) id, .inr⟩
      by_cases hi : i ∈ vs
      · rw [if_pos hi, if_pos (e.mpr hi)]
      · rw [if_neg hi, if_neg fun z => hi (e.mp z)]
theorem backE_length (env env' : PEnv) : ∀ (vs : List Nat), (backE env env' vs).length = env'.length
  | [] => rfl
  | v :: vs => by unfold backE; rw [List.length_set]; exact backE_length env env' vs
theorem wipeE_own {env : PEnv} : ∀ {vs : List Nat} {j : Nat}, j ∈ vs → ∀ es, (wipeE env vs)[j]? ≠ some (.own es)
  | [], _, h, _ => nomatch h
  | v :: vs, j, h, es => by
    unfold wipeE
    intro e
    by_cases hv : v = j
    · subst hv
      by_cases hl : v < (wipeE env vs).length
      · rw [List.getElem?_set_self hl] at e; cases e
      · rw [List.getElem?_eq_none (by rw [List.length_set]; omega)] at e; cases e
    · rw [List.getElem?_set_ne hv] at e
      have hj : j ∈ vs := (List.mem_cons.mp h).elim (fun z => absurd z.symm hv) id
      exact wipeE_own hj es e
section
variable {G : Gh} {mu mu' : List Addr} {Fz Fz' : Addr → Prop} {env env2 env4 : PEnv} {st st' : PSto} {σ σ2 : L2.St} {H H2 H4 : Hp} {own : List Nat}
/-- back from a block's turn -/
theorem Rel.back (x : Rel G mu Fz env st σ H) (sm : Same H H2) (u : Upd G.K G.mg mu Fz H2 (· ∈ own) env σ env2 σ2) (hw : ∀ i, i ∈ own → env2[i]? ≠ some (.own ([] : List D)) ∧ ∀ ds, env2[i]? ≠ some (.own ds)) (x4 : Rel G mu' Fz' env4 st' σ2 H4) (s : Stp mu Fz env2 σ2 H2 mu' Fz' env4 H4) :
    Rel G mu' Fz' (backE env env4 own) st' σ H4 ∧ Stp mu Fz env σ H mu' Fz' (backE env env4 own) H4 := by
  have hl4 : env4.length = env.length := s.sz.trans u.le
  have get : ∀ i : Nat, (backE env env4 own)[i]? = if i ∈ own then env[i]? else env4[i]? := backE_get env env4 hl4 own
  have sig : ∀ i : Nat, i ∉ own → σ2[i]? = σ[i]? := fun i hi => by
    rcases u.ch i with ⟨_, e⟩ | ⟨h, _⟩
    · exact e
    · exact absurd h hi
  have hown : ∀ (i : Nat) (ds : List D), env2[i]? = some (.own ds) → i ∉ own ∧ env[i]? = some (.own ds) ∧ σ2[i]? = σ[i]? := fun i ds e =>
    ⟨fun hi => (hw i hi).2 ds e, u.own e⟩
  have oa : ∀ a, OwnA env2 σ2 a → OwnA env σ a := fun a h => u.ownA h
  have nn : ∀ a, H2 a = none → H a = none := fun a h => sm.free h
  have st0 : Stp mu Fz env σ H mu' Fz' (backE env env4 own) H4 := by
    refine ⟨s.mux, fun a h => ?_, s.fz, fun a h => ?_, fun a o e hm ho => s.kp a o (sm a o e) hm fun z => ho (oa a z), fun a h => nn a (s.sm a h), fun i ds e => ?_, by rw [backE_length]; exact hl4⟩
    · exact (s.mun a h).imp id fun z => z.imp (oa a) (nn a)
    · exact (s.fzn a h).imp id fun z => z.imp (oa a) (nn a)
    · rw [get] at e
      by_cases hi : i ∈ own
      · rw [if_pos hi] at e; exact ⟨ds, e⟩
      · rw [if_neg hi] at e
        obtain ⟨es, e2⟩ := s.own i ds e
        exact ⟨es, (hown i es e2).2.1⟩
  have pr : Pr mu Fz H mu' Fz' H4 := st0.pr x
  -- an own list of a slot that the block can't see stays
  have hid : ∀ (i : Nat) (ds : List D) (a : Addr) (vs : List V), i ∈ own → env[i]? = some (.own ds) → σ[i]? = some (some (.ref a)) → H a = some (.lst vs) → ¬ Fz a → a ∉ mu → H4 a = some (.lst vs) ∧ ¬ Fz' a ∧ a ∉ mu' := fun i ds a vs hi e q e1 hz hm => by
    have no : ¬ OwnA env2 σ2 a := fun ⟨j, es, e2, q2⟩ => by
      obtain ⟨hj, e3, e4⟩ := hown j es e2
      have := x.sep i j ds es a e e3 q (e4 ▸ q2)
      exact hj (this ▸ hi)
    have e2 := sm a _ e1
    refine ⟨s.kp a _ e2 hm no, fun z => ?_, fun z => ?_⟩
    · rcases s.fzn a z with z | z | z
      · exact hz z
      · exact no z
      · rw [e2] at z; cases z
    · rcases s.mun a z with z | z | z
      · exact hm z
      · exact no z
      · rw [e2] at z; cases z
  refine ⟨x.of_stp st0 (fun i d e => ?_) (fun i ds e => ?_) x4.mlen x4.cell x4.mnd x4.mfz x4.fzl (fun a _ z => x.none0 z), st0⟩
  · rw [get] at e
    by_cases hi : i ∈ own
    · rw [if_pos hi] at e
      obtain ⟨v, q, r⟩ := x.val i d e
      exact ⟨v, q, r.mono pr⟩
    · rw [if_neg hi] at e
      obtain ⟨v, q, r⟩ := x4.val i d e
      exact ⟨v, (sig i hi) ▸ q, r⟩
  · rw [get] at e
    by_cases hi : i ∈ own
    · rw [if_pos hi] at e
      obtain ⟨a, vs, q, e1, rv, hz, hm, _⟩ := x.own i ds e
      obtain ⟨e2, hz2, hm2⟩ := hid i ds a vs hi e q e1 hz hm
      exact ⟨a, vs, q, e2, rv.mono pr, hz2, hm2⟩
    · rw [if_neg hi] at e
      obtain ⟨a, vs, q, e1, rv, hz, hm, _⟩ := x4.own i ds e
      exact ⟨a, vs, (sig i hi) ▸ q, e1, rv, hz, hm⟩
/-- an object that is none of ours is written -/
theorem Rel.other (x : Rel G mu Fz env st σ H) {p : Addr} {vs ws : List V} (e : H p = some (.lst vs)) (hz : ¬ Fz p) (hm : p ∉ mu) (ho : ¬ OwnA env σ p) (h0 : G.H0 p = none) : Rel G mu Fz env st σ (L2.upd H p (.lst ws)) := by
  have pr : Pr mu Fz H mu Fz (L2.upd H p (.lst ws)) := pr_upd x e hz
  refine ⟨x.len, fun i d q => ?_, fun i ds q => ?_, x.sep, x.mlen, fun r c q => ?_, x.mnd, x.mfz, fun a z => ?_, x.pre, x.new, x.fz0, x.fzn, fun a o q hn => ?_⟩
  · obtain ⟨v, h1, h2⟩ := x.val i d q
    exact ⟨v, h1, h2.mono pr⟩
  · obtain ⟨a, us, h1, h2, h3, h4, h5, h6⟩ := x.own i ds q
    refine ⟨a, us, h1, ?_, h3.mono pr, h4, h5, h6⟩
    rw [upd_ne (show a ≠ p from fun z => ho (z ▸ ⟨i, ds, q, h1⟩))]
    exact h2
  · obtain ⟨a, h1, h2⟩ := x.cell r c q
    refine ⟨a, h1, h2.mono pr fun o e3 => ?_⟩
    rw [upd_ne (show a ≠ p from fun z => hm (z ▸ List.mem_of_getElem? h1))]
    exact e3
  · obtain ⟨us, q⟩ := x.fzl a z
    exact ⟨us, by rw [upd_ne (show a ≠ p from fun y => hz (y ▸ z))]; exact q⟩
  · rw [upd_ne (show a ≠ p from fun y => by rw [y, h0] at q; cases q)]
    exact x.keep a o q hn
end
section
variable {X : Cx} {G : Gh} {T : Tab} {CALL : CallT} {EX : QX}
/-- a tuple target's slots, or a name's, in a block -/
theorem sp_name {i : Nat} {x : Str} {pos : Pos} (hN : X.N.Nodup) (hi : X.N[i]? = some x) (hx : Loc X.env.scope x) (hf : X.fn x = true ∨ X.env.scope.names.lookup x = some .local) : PG X (.Name x pos) (gT G.K (.name i)) := pg_name hN hi hx hf
theorem st_none : PTs X [] (tT G (wpT T CALL EX .none)) := ⟨fun pins s σ H Q I h => by
  obtain ⟨mu, Fz, env, st, Qp, x, h, k⟩ := h
  unfold wpT at h
  exact pts_nil.run pins s σ H Q I (k _ _ _ _ _ _ x .refl h)⟩
theorem st_some {p : E} {c : Expr} (h : PT X c (tT G (wB (wpE T CALL EX p)))) : PTs X [c] (tT G (wpT T CALL EX (.some p))) := ⟨fun pins s σ H Q I h2 => by
  refine (pts_one h).run pins s σ H Q I ?_
  obtain ⟨mu, Fz, env, st, Qp, x, h, k⟩ := h2
  unfold wpT at h
  exact ⟨mu, Fz, env, st, Qp, x, h, k⟩⟩
theorem comp_tlc {m : Bool} {tgp : Tg} {sp : Src} {ip : Eo} {ep : E} {vs : List Nat} {σ : L2.St} {H : Hp} {Q : VK} (htg : ∀ i, tgIn tgp i → i ∈ vs) (h : tE G (wpE T CALL EX (.comp ep m tgp sp ip vs)) σ H Q) :
    tLc (tS G (wpSrc T CALL EX sp)) (gT G.K tgp) (tT G (wpT T CALL (fun _ _ _ => False) ip)) (tE G (wpE T CALL (fun _ _ _ => False) ep)) vs σ H Q := by
  obtain ⟨mu, Fz, env, st, Qp, x, h, k⟩ := h
  unfold wpE at h
  refine ⟨mu, Fz, env, st, _, x, h, fun mu1 Fz1 env1 st1 H1 ds chk J x1 s1 src h1 D hD => ?_⟩
  have tracked : ∀ a ∈ mu1, H1 a ≠ none := fun a ha => by
    rcases x1.cellK ha with ⟨_, q⟩ | ⟨_, _, _, q⟩ <;> (rw [q]; exact fun z => nomatch z)
  have dm : D ∉ mu1 := fun z => tracked D z hD
  have dz : ¬ Fz1 D := fun z => by
    obtain ⟨_, q⟩ := x1.fzl D z
    rw [hD] at q; cases q
  have dow : ¬ OwnA env1 σ D := fun z => by
    obtain ⟨⟨_, q⟩, _⟩ := x1.ownK z
    rw [hD] at q; cases q
  have d0 := x1.none0 hD
  have dst : H D = none := s1.sm D hD
  refine ⟨fun i mm H' => mm = ds.length - i ∧ i ≤ ds.length ∧ ∃ (mu' : List Addr) (Fz' : Addr → Prop) (env' : PEnv) (st' : PSto) (acc : List PI.D) (ws : List V), Rel G mu' Fz' env' st' σ H' ∧ Stp mu Fz env σ H mu' Fz' env' H' ∧ Pr mu1 Fz1 H1 mu' Fz' H' ∧
      H' D = some (.lst ws) ∧ RVs G.K G.mg mu' Fz' H' acc ws ∧ D ∉ mu' ∧ ¬ Fz' D ∧ ¬ OwnA env' σ D ∧
      compLoop tgp vs m (wpE T CALL (fun _ _ _ => False) ep) (wpT T CALL (fun _ _ _ => False) ip) chk Qp (ds.drop i) acc env' st', ⟨ds.length, ?_⟩, fun i mm H' hW => ?_⟩
  · have sm : Same H1 (upd H1 D (.lst [])) := same_upd hD
    exact ⟨rfl, Nat.zero_le _, mu1, Fz1, env1, st1, [], [], x1.same sm, s1.trans (Stp.same sm), Pr.same sm, upd_same, rfl, dm, dz, dow, h1⟩
  · obtain ⟨rfl, hle, mu', Fz', env', st', acc, ws, x', s', p', eD, rv, m', z', o', h'⟩ := hW
    by_cases hlt : i < ds.length
    · have hdi : ds[i]? = some ds[i] := List.getElem?_eq_getElem hlt
      rw [List.drop_eq_getElem_cons hlt] at h'
      unfold compLoop at h'
      obtain ⟨hck, h'⟩ := h'
      have sr := src mu' Fz' env' st' σ H' x' p' hck
      obtain ⟨hgo, hy⟩ := sr.go i _ hdi
      refine .inr ⟨hgo, fun H'' => ∃ (mu4 : List Addr) (Fz4 : Addr → Prop) (env4 : PEnv) (st4 : PSto) (acc : List PI.D) (ws : List V), Rel G mu4 Fz4 env4 st4 σ H'' ∧ Stp mu Fz env σ H mu4 Fz4 env4 H'' ∧ Pr mu1 Fz1 H1 mu4 Fz4 H'' ∧
        H'' D = some (.lst ws) ∧ RVs G.K G.mg mu4 Fz4 H'' acc ws ∧ D ∉ mu4 ∧ ¬ Fz4 D ∧ ¬ OwnA env4 σ D ∧
        compLoop tgp vs m (wpE T CALL (fun _ _ _ => False) ep) (wpT T CALL (fun _ _ _ => False) ip) chk Qp (ds.drop (i + 1)) acc env4 st4, fun H'' hN => ⟨ds.length - (i + 1), by omega, rfl, hlt, hN⟩, fun v H2 y => ?_⟩
      obtain ⟨sm, rd⟩ := hy v H2 y
      -- the block's own slots go, the target is set
      have uw : Upd G.K G.mg mu' Fz' H2 (· ∈ vs) env' σ (wipeE env' vs) (wipe σ vs) := upd_wipe x'.len vs
      have x2 : Rel G mu' Fz' env' st' σ H2 := x'.same sm
      have xw := x2.upd uw
      refine asgT_ok xw rd h' htg _ fun env2 σ2 u2 h2 => ?_
      refine ⟨wipe_upd u2, ?_⟩
      have u : Upd G.K G.mg mu' Fz' H2 (· ∈ vs) env' σ env2 σ2 := uw.trans u2
      have xb : Rel G mu' Fz' env2 st' σ2 H2 := xw.upd u2
      have hw : ∀ j, j ∈ vs → env2[j]? ≠ some (.own ([] : List PI.D)) ∧ ∀ es, env2[j]? ≠ some (.own es) := fun j hj => by
        have gw : ∀ es, env2[j]? ≠ some (.own es) := fun es e => by
          obtain ⟨e1, _⟩ := u2.own e
          have := wipeE_own (env := env') hj es
          exact this e1
        exact ⟨gw [], gw⟩
      have d2 : H2 D = some (.lst ws) := sm D _ eD
      refine ⟨mu', Fz', env2, st', _, xb, h2, fun mu3 Fz3 env3 st3 H3 b x3 s3 h3 => ?_⟩
      have noD : ¬ OwnA env2 σ2 D := fun z => o' (u.ownA z)
      -- a turn's end: back to the frame's own slots
      have fin : ∀ (mu4 : List Addr) (Fz4 : Addr → Prop) (env4 : PEnv) (st4 : PSto) (H4 : Hp), Rel G mu4 Fz4 env4 st4 σ2 H4 → Stp mu' Fz' env2 σ2 H2 mu4 Fz4 env4 H4 →
          Rel G mu4 Fz4 (backE env' env4 vs) st4 σ H4 ∧ Stp mu Fz env σ H mu4 Fz4 (backE env' env4 vs) H4 ∧ Pr mu1 Fz1 H1 mu4 Fz4 H4 ∧ H4 D = some (.lst ws) ∧ RVs G.K G.mg mu4 Fz4 H4 acc ws ∧ D ∉ mu4 ∧ ¬ Fz4 D ∧ ¬ OwnA (backE env' env4 vs) σ D := by
        intro mu4 Fz4 env4 st4 H4 x4 s4
        obtain ⟨xo, so⟩ := x'.back sm u hw x4 s4
        have pr := so.pr x'
        refine ⟨xo, s'.trans so, p'.trans pr, s4.kp D _ d2 m' noD, rv.mono pr, fun z => ?_, fun z => ?_, fun z => o' (so.ownA z)⟩
        · rcases s4.mun D z with z | z | z
          · exact m' z
          · exact noD z
          · rw [d2] at z; cases z
        · rcases s4.fzn D z with z | z | z
          · exact z' z
          · exact noD z
          · rw [d2] at z; cases z
      cases b with
      | false =>
        refine iteF ?_
        obtain ⟨xo, so, po, eo, ro, mo, zo, oo⟩ := fin _ _ _ _ _ x3 s3
        exact ⟨_, _, _, _, acc, ws, xo, so, po, eo, ro, mo, zo, oo, h3⟩
      | true =>
        refine iteT ?_
        refine tE.mk x3 h3 fun mu4 Fz4 env4 st4 H4 r y x4 s4 rr4 f4 h4 => ?_
        obtain ⟨mu5, Fz5, env5, st5, d, x5, s5, e5, rd5, hz, h5⟩ := esc_ok x4 s4 rr4 f4 h4
        obtain ⟨xo, so, po, eo, ro, mo, zo, oo⟩ := fin _ _ _ _ _ x5 (s3.trans s5)
        refine ⟨ws, eo, by rw [← ro.length]; exact hz, mu5, Fz5, _, st5, acc ++ [d], ws ++ [y], xo.other eo zo mo oo d0, ?_, ?_, upd_same, ?_, mo, zo, oo, h5⟩
        · refine ⟨so.mux, so.mun, so.fz, so.fzn, fun a o e h1 h2 => ?_, fun a e => ?_, so.own, so.sz⟩
          · rw [upd_ne (show a ≠ D from fun z => by rw [z, dst] at e; cases e)]
            exact so.kp a o e h1 h2
          · by_cases ha : a = D
            · rw [ha]; exact dst
            · rw [upd_ne ha] at e
              exact so.sm a e
        · exact po.trans (pr_upd xo eo zo)
        · exact (ro.app (.cons rd5 .nil)).mono (pr_upd xo eo zo)
    · have hi' : i = ds.length := by omega
      subst hi'
      rw [List.drop_length] at h'
      unfold compLoop at h'
      obtain ⟨hck, h'⟩ := h'
      have st := (src mu' Fz' env' st' σ H' x' p' hck).stop
      exact .inl ⟨st, k _ _ _ _ _ (.tmp acc) _ x' s' ⟨D, ws, rfl, eD, rv, z', m', o', d0⟩ (fun p e => by cases e; exact dst) h'⟩
theorem se_comp {m : Bool} {tgp : Tg} {sp : Src} {ip : Eo} {ep : E} {own : List (Str × Nat)} {elt tg iter : Expr} {ifs : List Expr} {scope : Scope} {pos : Pos} (hK : X.K = G.K) (hc : X.calm = true) (hN : X.N.Nodup) (hi : L2.PI X tg iter (tS G (wpSrc T CALL EX sp))) (ok : BlkOk X.N X.env.scope scope own)
    (hg : ∀ (s : Shared) (H : Hp) (C : Addr) (cl : List (Str × Addr)) (fp : List Addr), PG (X.blk s H scope (compEnvC scope cl C X.env) fp) tg (gT G.K tgp)) (ht : ∀ (s : Shared) (H : Hp) (C : Addr) (cl : List (Str × Addr)) (fp : List Addr), PTs (X.blk s H scope (compEnvC scope cl C X.env) fp) ifs (tT G (wpT T CALL (fun _ _ _ => False) ip)))
    (he : ∀ (s : Shared) (H : Hp) (C : Addr) (cl : List (Str × Addr)) (fp : List Addr), PE (X.blk s H scope (compEnvC scope cl C X.env) fp) elt (tE G (wpE T CALL (fun _ _ _ => False) ep))) (hs : ∀ x, foldedSetIterable iter X.env x = pure x) (htg : ∀ i, tgIn tgp i → i ∈ own.map (·.2)) :
    SE X G (wpE T CALL EX (.comp ep m tgp sp ip (own.map (·.2)))) (.ListComp elt [⟨tg, iter, ifs, 0⟩] scope pos) := by
  refine SE.ofv (pe_lc hc hN hi ok hg ht he hs) (by intro _; rfl) fun σ H Q h => comp_tlc htg h
end
end PI
set_option maxHeartbeats 2000000
namespace PI
open PySem PySem.Spec PyProof.Rows L2

/-! ### statements -/
/-- a statement's reading by its meaning -/
def tS2 (G : Gh) (w : Ends → PEnv → PSto → Prop) : TS := fun D σ H => ∃ mu Fz env st Dp, Rel G mu Fz env st σ H ∧ w Dp env st ∧
  (∀ mu' Fz' env' st' σ' H', Rel G mu' Fz' env' st' σ' H' → Pr mu Fz H mu' Fz' H' → Dp.nx env' st' → D.nx σ' H') ∧
  (∀ mu' Fz' env' st' σ' H', Rel G mu' Fz' env' st' σ' H' → Pr mu Fz H mu' Fz' H' → Dp.bk env' st' → D.bk σ' H') ∧
  (∀ mu' Fz' env' st' σ' H', Rel G mu' Fz' env' st' σ' H' → Pr mu Fz H mu' Fz' H' → Dp.ct env' st' → D.ct σ' H') ∧
  ∀ mu' Fz' env' st' σ' H' r v, Rel G mu' Fz' env' st' σ' H' → RR G mu' Fz' env' σ' H' r v → Dp.rt r env' st' → D.rt v H'
theorem PS.imp {X : Cx} {s : Stmt} {t t' : TS} (h : PS X s t) (k : ∀ D σ H, t' D σ H → t D σ H) : PS X s t' := ⟨fun pins sh σ H D I q => h.run pins sh σ H D I (k D σ H q)⟩
theorem PSs.imp {X : Cx} {s : List Stmt} {t t' : TS} (h : PSs X s t) (k : ∀ D σ H, t' D σ H → t D σ H) : PSs X s t' := ⟨fun pins sh σ H D I q => h.run pins sh σ H D I (k D σ H q)⟩
section
variable {G : Gh} {mu : List Addr} {Fz : Addr → Prop} {env : PEnv} {st : PSto} {σ : L2.St} {H : Hp}
/-- a new list goes to a slot -/
theorem Rel.setOwn (x : Rel G mu Fz env st σ H) {i : Nat} {p : Addr} {vs : List V} {ds : List D} (e : H p = some (.lst vs)) (hr : RVs G.K G.mg mu Fz H ds vs) (hz : ¬ Fz p) (hm : p ∉ mu) (ho : ¬ OwnA env σ p) (h0 : G.H0 p = none) :
    Rel G mu Fz (env.set i (.own ds)) st (σ.set i (some (.ref p))) H := by
  have hl := x.len
  have get : ∀ (j : Nat) (s : Sl), (env.set i (.own ds))[j]? = some s → (j = i ∧ s = .own ds ∧ i < env.length) ∨ (j ≠ i ∧ env[j]? = some s) := fun j s q => by
    by_cases hj : i = j
    · subst hj
      by_cases hi : i < env.length
      · rw [List.getElem?_set_self hi] at q
        cases q
        exact .inl ⟨rfl, rfl, hi⟩
      · rw [List.getElem?_eq_none (by rw [List.length_set]; omega)] at q; cases q
    · rw [List.getElem?_set_ne hj] at q
      exact .inr ⟨fun z => hj z.symm, q⟩
  have sg : ∀ j : Nat, j ≠ i → (σ.set i (some (V.ref p)))[j]? = σ[j]? := fun j hj => List.getElem?_set_ne fun z => hj z.symm
  refine ⟨by rw [List.length_set, List.length_set]; exact hl, fun j d q => ?_, fun j es q => ?_, fun j k es fs a q1 q2 r1 r2 => ?_, x.mlen, x.cell, x.mnd, x.mfz, x.fzl, x.pre, x.new, x.fz0, x.fzn, x.keep⟩
  · rcases get j _ q with ⟨_, q, _⟩ | ⟨hj, q⟩
    · cases q
    · rw [sg j hj]; exact x.val j d q
  · rcases get j _ q with ⟨rfl, q, hi⟩ | ⟨hj, q⟩
    · cases q
      exact ⟨p, vs, List.getElem?_set_self (by omega), e, hr, hz, hm, h0⟩
    · rw [sg j hj]; exact x.own j es q
  · rcases get j _ q1 with ⟨rfl, _, hi⟩ | ⟨hj, q1'⟩
    · rcases get k _ q2 with ⟨hk, _, _⟩ | ⟨hk, q2⟩
      · exact hk.symm
      · rw [List.getElem?_set_self (by omega)] at r1
        rw [sg k hk] at r2
        cases r1
        exact (ho ⟨k, fs, q2, r2⟩).elim
    · rcases get k _ q2 with ⟨rfl, _, hi⟩ | ⟨hk, q2'⟩
      · rw [List.getElem?_set_self (by omega)] at r2
        rw [sg j hj] at r1
        cases r2
        exact (ho ⟨j, es, q1', r1⟩).elim
      · rw [sg j hj] at r1
        rw [sg k hk] at r2
        exact x.sep j k es fs a q1' q2' r1 r2
/-- name = value -/
theorem asgR_name {i : Nat} {r : R} {v : V} {Q : PEnv → PSto → Prop} (x : Rel G mu Fz env st σ H) (rr : RR G mu Fz env σ H r v) (q : asgR (.name i) r env st Q) :
    ∃ mu' Fz' env' st', Rel G mu' Fz' env' st' (σ.set i (some v)) H ∧ Pr mu Fz H mu' Fz' H ∧ Q env' st' := by
  cases r with
  | d y => exact ⟨mu, Fz, _, st, x.upd (Upd.put (P := fun _ => True) x.len trivial rr), Pr.same (Same.refl H), q⟩
  | tmp ds =>
    obtain ⟨p, vs, rfl, e1, e2, e3, e4, e5, e6⟩ := rr
    exact ⟨mu, Fz, _, st, x.setOwn e1 e2 e3 e4 e5 e6, Pr.same (Same.refl H), q⟩
  | brw j =>
    unfold asgR at q
    obtain ⟨mu1, Fz1, env1, st1, d, x1, s1, e1, rd, q⟩ := esc_ok x .refl rr (show Frh H (.brw j) v from True.intro) q
    exact ⟨mu1, Fz1, _, st1, x1.upd (Upd.put (P := fun _ => True) x1.len trivial rd), e1.pr, q⟩
end
section
variable {X : Cx} {G : Gh} {T : Tab} {CALL : CallT} {EX : QX}
theorem ss_nil : PSs X [] (tS2 G (wpSs T CALL .nil EX)) := PSs.imp pss_nil fun D σ H ⟨mu, Fz, env, st, Dp, x, h, n, _⟩ => by
  unfold wpSs at h
  exact n _ _ _ _ _ _ x (Pr.same (Same.refl H)) h
theorem ss_cons {s : S} {ss : Ss} {e : Stmt} {es : List Stmt} (h1 : PS X e (tS2 G (wpS T CALL s EX))) (h2 : PSs X es (tS2 G (wpSs T CALL ss EX))) : PSs X (e :: es) (tS2 G (wpSs T CALL (.cons s ss) EX)) := PSs.imp (pss_cons h1 h2) fun D σ H ⟨mu, Fz, env, st, Dp, x, h, n, b, c, r⟩ => by
  unfold wpSs at h
  refine ⟨mu, Fz, env, st, _, x, h, fun mu' Fz' env' st' σ' H' x' p' h' => ?_, b, c, r⟩
  exact ⟨mu', Fz', env', st', Dp, x', h', fun _ _ _ _ _ _ x2 p2 q => n _ _ _ _ _ _ x2 (p'.trans p2) q, fun _ _ _ _ _ _ x2 p2 q => b _ _ _ _ _ _ x2 (p'.trans p2) q, fun _ _ _ _ _ _ x2 p2 q => c _ _ _ _ _ _ x2 (p'.trans p2) q, r⟩
/-- no statement of the text: an own list becomes a cell -/
theorem ss_cell {i : Nat} {ss : Ss} {es : List Stmt} (h2 : PSs X es (tS2 G (wpSs T CALL ss EX))) : PSs X es (tS2 G (wpSs T CALL (.cons (.cell i) ss) EX)) := PSs.imp h2 fun D σ H ⟨mu, Fz, env, st, Dp, x, h, n, b, c, r⟩ => by
  unfold wpSs wpS at h
  simp only at h
  cases he : env[i]? with
  | none => simp only [he] at h
  | some sl =>
    cases sl with
    | no => simp only [he] at h
    | val d =>
      simp only [he] at h
      exact ⟨mu, Fz, env, st, Dp, x, h, n, b, c, r⟩
    | own ds =>
      simp only [he] at h
      obtain ⟨a, vs, e1, _⟩ := x.own i ds he
      have q : esc true (.brw i) env st fun d env st => wpSs T CALL ss EX Dp env st := by
        unfold esc
        simp only [he]
        exact h
      obtain ⟨mu1, Fz1, env1, st1, d, x1, s1, _, _, h1⟩ := esc_ok x .refl (show RR G mu Fz env σ H (.brw i) (.ref a) from e1) True.intro q
      have p1 := s1.pr x
      exact ⟨mu1, Fz1, env1, st1, Dp, x1, h1, fun _ _ _ _ _ _ x2 p2 q => n _ _ _ _ _ _ x2 (p1.trans p2) q, fun _ _ _ _ _ _ x2 p2 q => b _ _ _ _ _ _ x2 (p1.trans p2) q, fun _ _ _ _ _ _ x2 p2 q => c _ _ _ _ _ _ x2 (p1.trans p2) q, r⟩
theorem s_pass {pos : Pos} : PS X (.Pass pos) (tS2 G (wpS T CALL .pass EX)) := PS.imp ps_pass fun D σ H ⟨mu, Fz, env, st, Dp, x, h, n, _⟩ => by
  unfold wpS at h
  exact n _ _ _ _ _ _ x (Pr.same (Same.refl H)) h
theorem s_brk {pos : Pos} : PS X (.Break pos) (tS2 G (wpS T CALL .brk EX)) := PS.imp ps_break fun D σ H ⟨mu, Fz, env, st, Dp, x, h, n, b, _⟩ => by
  unfold wpS at h
  exact b _ _ _ _ _ _ x (Pr.same (Same.refl H)) h
theorem s_cnt {pos : Pos} : PS X (.Continue pos) (tS2 G (wpS T CALL .cnt EX)) := PS.imp ps_continue fun D σ H ⟨mu, Fz, env, st, Dp, x, h, n, b, c, _⟩ => by
  unfold wpS at h
  exact c _ _ _ _ _ _ x (Pr.same (Same.refl H)) h
theorem s_expr {p : E} {e : Expr} {pos : Pos} (he : PE X e (tE G (wpE T CALL EX p))) (hs : swapsWith e none pos.line X.env = pure false) : PS X (.Expr e pos) (tS2 G (wpS T CALL (.expr p) EX)) := PS.imp (ps_expr he hs) fun D σ H ⟨mu, Fz, env, st, Dp, x, h, n, _⟩ => by
  unfold wpS at h
  exact tE.mk x h fun mu' Fz' env' st' H' r v x' s' rr _ q => n _ _ _ _ _ _ x' (s'.pr x) q
theorem s_ret {p : E} {e : Expr} {pos : Pos} (he : PE X e (tE G (wpE T CALL EX p))) : PS X (.Return (some e) pos) (tS2 G (wpS T CALL (.ret p) EX)) := PS.imp (ps_ret he) fun D σ H ⟨mu, Fz, env, st, Dp, x, h, n, b, c, r⟩ => by
  unfold wpS at h
  exact tE.mk x h fun mu' Fz' env' st' H' rr v x' s' rv _ q => r _ _ _ _ _ _ rr v x' rv q
theorem s_retn {pos : Pos} : PS X (.Return none pos) (tS2 G (wpS T CALL .retn EX)) := PS.imp ps_retN fun D σ H ⟨mu, Fz, env, st, Dp, x, h, n, b, c, r⟩ => by
  unfold wpS at h
  exact r _ _ _ _ _ _ (.d .non) _ x rfl h
theorem s_asgE {p : E} {i : Nat} {σ : L2.St} {H : Hp} {D : L2.Ends} (h : tS2 G (wpS T CALL (.asg (.name i) p) EX) D σ H) : tAsg (tE G (wpE T CALL EX p)) (gName i) D σ H := by
  obtain ⟨mu, Fz, env, st, Dp, x, h, n, _⟩ := h
  unfold wpS at h
  refine tE.mk x h fun mu' Fz' env' st' H' r v x' s' rr _ q => ?_
  obtain ⟨mu2, Fz2, env2, st2, x2, p2, q⟩ := asgR_name x' rr q
  exact n _ _ _ _ _ _ x2 ((s'.pr x).trans p2) q
theorem s_asg {p : E} {i : Nat} {y : Str} {e : Expr} {pos pos' : Pos} (hN : X.N.Nodup) (hi : X.N[i]? = some y) (hx : Loc X.env.scope y) (he : PE X e (tE G (wpE T CALL EX p))) (hs : swapsWith e (some (.Name y pos')) pos.line X.env = pure false) (hf : X.fn y = true ∨ X.env.scope.names.lookup y = some .local) :
    PS X (.Assign [.Name y pos'] e pos) (tS2 G (wpS T CALL (.asg (.name i) p) EX)) := PS.imp (ps_set hN hi hx he hs hf) fun D σ H h => s_asgE h
theorem s_asgLc {m : Bool} {tgp : Tg} {sp : Src} {ip : Eo} {ep : E} {own : List (Str × Nat)} {i : Nat} {y : Str} {py : Pos} {elt tg iter : Expr} {ifs : List Expr} {scope : Scope} {pos spos : Pos} (hc : X.calm = true) (hN : X.N.Nodup) (hy : X.N[i]? = some y) (hyl : X.env.scope.names.lookup y = some .local)
    (hsw : swapsWith (.ListComp elt [⟨tg, iter, ifs, 0⟩] scope pos) (some (.Name y py)) spos.line X.env = pure true) (hi : L2.PI X tg iter (tS G (wpSrc T CALL EX sp))) (ok : BlkOk X.N X.env.scope scope own)
    (hg : ∀ (s : Shared) (H : Hp) (C : Addr) (cl : List (Str × Addr)) (fp : List Addr), PG (X.blk s H scope (compEnvC scope cl C X.env) fp) tg (gT G.K tgp)) (ht : ∀ (s : Shared) (H : Hp) (C : Addr) (cl : List (Str × Addr)) (fp : List Addr), PTs (X.blk s H scope (compEnvC scope cl C X.env) fp) ifs (tT G (wpT T CALL (fun _ _ _ => False) ip)))
    (he : ∀ (s : Shared) (H : Hp) (C : Addr) (cl : List (Str × Addr)) (fp : List Addr), PE (X.blk s H scope (compEnvC scope cl C X.env) fp) elt (tE G (wpE T CALL (fun _ _ _ => False) ep))) (hs : ∀ x, foldedSetIterable iter X.env x = pure x) (htg : ∀ i, tgIn tgp i → i ∈ own.map (·.2)) :
    PS X (.Assign [.Name y py] (.ListComp elt [⟨tg, iter, ifs, 0⟩] scope pos) spos) (tS2 G (wpS T CALL (.asg (.name i) (.comp ep m tgp sp ip (own.map (·.2)))) EX)) :=
  PS.imp (ps_setLc hc hN hy hyl hsw hi ok hg ht he hs) fun D σ H h => comp_tlc htg (s_asgE h)
theorem s_asgT {p : E} {is : List Nat} {tg e : Expr} {pos : Pos} (hK : X.K = G.K) (he : PE X e (tE G (wpE T CALL EX p))) (hg : PG X tg (gT G.K (.tup is))) (hs : swapsWithSole [tg] e pos.line X.env = pure false) (hw : swappedStores [tg] e X.env = pure none) (h1 : (assignEach [tg] X.env).map (·.2) = [assign tg X.env]) :
    PS X (.Assign [tg] e pos) (tS2 G (wpS T CALL (.asg (.tup is) p) EX)) := PS.imp (ps_asg he hg hs hw h1) fun D σ H ⟨mu, Fz, env, st, Dp, x, h, n, _⟩ => by
  unfold wpS at h
  refine tE.mk x h fun mu' Fz' env' st' H' r v x' s' rr _ q => ?_
  obtain ⟨d, g, q⟩ := dr_ok x' rr q
  cases d <;> try exact q.elim
  have q' : asgT (.tup is) (.tup _) env' (fun env => Dp.nx env st') := q
  exact asgT_ok (P := fun _ => True) x' g q' (fun _ _ => trivial) _ fun env2 σ2 u q2 => n _ _ _ _ _ _ (x'.upd u) (s'.pr x) q2
theorem iff_eq {p : E} {a b : Ss} (Dn : Ends) (env : PEnv) (st : PSto) (h : wpS T CALL (.iff p a b) EX Dn env st) : wB (wpE T CALL EX p) env st fun c env st => match c with
      | true => wpSs T CALL a EX Dn env st
      | false => wpSs T CALL b EX Dn env st := by
  unfold wpS at h
  unfold wB
  have e : (fun (z : R) (env : PEnv) (st : PSto) => match z with
      | .d (.bl c) => (fun (c : Bool) (env : PEnv) (st : PSto) => match c with
        | true => wpSs T CALL a EX Dn env st
        | false => wpSs T CALL b EX Dn env st) c env st
      | _ => False) = fun x env st => match x with
      | .d (.bl true) => wpSs T CALL a EX Dn env st
      | .d (.bl false) => wpSs T CALL b EX Dn env st
      | _ => False := by
    funext z env st
    cases z with
    | d y =>
      cases y with
      | bl b => cases b <;> rfl
      | _ => rfl
    | _ => rfl
  exact Eq.mpr (congrArg (fun f => wpE T CALL EX p env st f) e) h
theorem s_iff {p : E} {a b : Ss} {c : Expr} {as bs : List Stmt} {pos : Pos} (hc : PT X c (tT G (wB (wpE T CALL EX p)))) (ha : PSs X as (tS2 G (wpSs T CALL a EX))) (hb : PSs X bs (tS2 G (wpSs T CALL b EX))) : PS X (.If c as bs pos) (tS2 G (wpS T CALL (.iff p a b) EX)) :=
  PS.imp (ps_if hc ha hb) fun D σ H ⟨mu, Fz, env, st, Dp, x, h, n, b, c, r⟩ => by
  refine tT.mk x (iff_eq Dp env st h) fun mu1 Fz1 env1 st1 H1 k x1 s1 h1 => ?_
  have p1 := s1.pr x
  cases k with
  | true =>
    refine iteT ?_
    exact ⟨mu1, Fz1, env1, st1, Dp, x1, h1, fun _ _ _ _ _ _ x2 p2 q => n _ _ _ _ _ _ x2 (p1.trans p2) q, fun _ _ _ _ _ _ x2 p2 q => b _ _ _ _ _ _ x2 (p1.trans p2) q, fun _ _ _ _ _ _ x2 p2 q => c _ _ _ _ _ _ x2 (p1.trans p2) q, r⟩
  | false =>
    refine iteF ?_
    exact ⟨mu1, Fz1, env1, st1, Dp, x1, h1, fun _ _ _ _ _ _ x2 p2 q => n _ _ _ _ _ _ x2 (p1.trans p2) q, fun _ _ _ _ _ _ x2 p2 q => b _ _ _ _ _ _ x2 (p1.trans p2) q, fun _ _ _ _ _ _ x2 p2 q => c _ _ _ _ _ _ x2 (p1.trans p2) q, r⟩
theorem s_whl {p : E} {b : Ss} {c : Expr} {bs : List Stmt} {pos : Pos} (hp : PassesOwn (model X.prog X.w) X.A X.env X.xe) (hc : PT X c (tT G (wB (wpE T CALL EX p)))) (hb : PSs X bs (tS2 G (wpSs T CALL b EX))) : PS X (.While c bs [] pos) (tS2 G (wpS T CALL (.whl p b) EX)) :=
  PS.imp (ps_while hp hc hb) fun D σ H ⟨mu, Fz, env, st, Dp, x, h, n, b, c, r⟩ => by
  unfold wpS at h
  obtain ⟨W, ⟨m0, w0⟩, turn⟩ := h
  refine ⟨fun m σ' H' => ∃ mu' Fz' env' st', Rel G mu' Fz' env' st' σ' H' ∧ Pr mu Fz H mu' Fz' H' ∧ W m env' st', ⟨m0, mu, Fz, env, st, x, Pr.same (Same.refl H), w0⟩, fun m σ' H' ⟨mu', Fz', env', st', x', p', w'⟩ => ?_⟩
  refine tT.mk x' (turn m env' st' w') fun mu1 Fz1 env1 st1 H1 k x1 s1 h1 => ?_
  have p1 := p'.trans (s1.pr x')
  cases k with
  | true =>
    refine iteT ⟨fun σ2 H2 => ∃ m', m' < m ∧ ∃ mu2 Fz2 env2 st2, Rel G mu2 Fz2 env2 st2 σ2 H2 ∧ Pr mu Fz H mu2 Fz2 H2 ∧ W m' env2 st2, fun σ2 H2 z => z, ?_⟩
    exact ⟨mu1, Fz1, env1, st1, _, x1, h1, fun _ _ _ _ _ _ x2 p2 ⟨m', hm, w2⟩ => ⟨m', hm, _, _, _, _, x2, p1.trans p2, w2⟩, fun _ _ _ _ _ _ x2 p2 q => n _ _ _ _ _ _ x2 (p1.trans p2) q, fun _ _ _ _ _ _ x2 p2 ⟨m', hm, w2⟩ => ⟨m', hm, _, _, _, _, x2, p1.trans p2, w2⟩, r⟩
  | false => exact iteF (n _ _ _ _ _ _ x1 p1 h1)
theorem s_for {tgp : Tg} {sp : Src} {b : Ss} {tg iter : Expr} {bs : List Stmt} {pos : Pos} (hp : PassesOwn (model X.prog X.w) X.A X.env X.xe) (hc : X.calm = true) (hi : L2.PI X tg iter (tS G (wpSrc T CALL EX sp))) (hg : PG X tg (gT G.K tgp)) (hb : PSs X bs (tS2 G (wpSs T CALL b EX))) (hs : ∀ x, foldedSetIterable iter X.env x = pure x) :
    PS X (.For tg iter bs [] pos) (tS2 G (wpS T CALL (.forr tgp sp b) EX)) := PS.imp (ps_for hp hc hi hg hb hs) fun D σ H ⟨mu, Fz, env, st, Dp, x, h, n, bk, ct, r⟩ => by
  unfold wpS at h
  refine ⟨mu, Fz, env, st, _, x, h, fun mu1 Fz1 env1 st1 H1 ds chk J x1 s1 src h1 => ?_⟩
  have p1 := s1.pr x
  refine ⟨fun i m σ' H' => m = ds.length - i ∧ i ≤ ds.length ∧ ∃ mu' Fz' env' st', Rel G mu' Fz' env' st' σ' H' ∧ Pr mu1 Fz1 H1 mu' Fz' H' ∧ forLoop tgp (wpSs T CALL b EX) chk Dp (ds.drop i) env' st', ⟨ds.length, rfl, Nat.zero_le _, mu1, Fz1, env1, st1, x1, Pr.same (Same.refl _), h1⟩, fun i m σ' H' hW => ?_⟩
  obtain ⟨rfl, hle, mu', Fz', env', st', x', p', h'⟩ := hW
  by_cases hlt : i < ds.length
  · have hdi : ds[i]? = some ds[i] := List.getElem?_eq_getElem hlt
    rw [List.drop_eq_getElem_cons hlt] at h'
    unfold forLoop at h'
    obtain ⟨hck, h'⟩ := h'
    obtain ⟨hgo, hy⟩ := (src mu' Fz' env' st' σ' H' x' p' hck).go i _ hdi
    refine .inr ⟨hgo, fun σ2 H2 => ∃ mu2 Fz2 env2 st2, Rel G mu2 Fz2 env2 st2 σ2 H2 ∧ Pr mu1 Fz1 H1 mu2 Fz2 H2 ∧ forLoop tgp (wpSs T CALL b EX) chk Dp (ds.drop (i + 1)) env2 st2, fun σ2 H2 z => ⟨ds.length - (i + 1), by omega, rfl, hlt, z⟩, fun v H2 y => ?_⟩
    obtain ⟨sm, rd⟩ := hy v H2 y
    have x2 := x'.same sm
    have p2 : Pr mu1 Fz1 H1 mu' Fz' H2 := p'.trans (Pr.same sm)
    refine asgT_ok (P := fun _ => True) x2 rd h' (fun _ _ => trivial) _ fun env2 σ2 u h2 => ?_
    exact ⟨mu', Fz', env2, st', _, x2.upd u, h2, fun _ _ _ _ _ _ x3 p3 q => ⟨_, _, _, _, x3, p2.trans p3, q⟩, fun _ _ _ _ _ _ x3 p3 q => n _ _ _ _ _ _ x3 ((p1.trans p2).trans p3) q, fun _ _ _ _ _ _ x3 p3 q => ⟨_, _, _, _, x3, p2.trans p3, q⟩, r⟩
  · have hi' : i = ds.length := by omega
    subst hi'
    rw [List.drop_length] at h'
    unfold forLoop at h'
    obtain ⟨hck, h'⟩ := h'
    exact .inl ⟨(src mu' Fz' env' st' σ' H' x' p' hck).stop, n _ _ _ _ _ _ x' (p1.trans p') h'⟩
end
end PI
set_option maxHeartbeats 2000000
namespace PI
open PySem PySem.Spec PyProof.Rows L2

/-! ### calls -/
/-- the cells alone -/
structure RelS (K : PySem.W.Frag) (mg : Str → Option Value) (mu : List Addr) (Fz : Addr → Prop) (st : PSto) (H : Hp) : Prop where
  mlen : mu.length = st.length
  cell : ∀ (r : Nat) (c : Cell), st[r]? = some c → ∃ a, mu[r]? = some a ∧ RC K mg mu Fz H c a
  mnd : mu.Nodup
  mfz : ∀ a ∈ mu, ¬ Fz a
  fzl : ∀ a, Fz a → ∃ vs, H a = some (.lst vs)
/-- behind a call -/
structure Post (mu : List Addr) (Fz : Addr → Prop) (H : Hp) (mu' : List Addr) (Fz' : Addr → Prop) (H' : Hp) : Prop where
  mux : ∃ l, mu' = mu ++ l
  mun : ∀ a ∈ mu', a ∈ mu ∨ H a = none
  fz : ∀ a, Fz a → Fz' a
  fzn : ∀ a, Fz' a → Fz a ∨ H a = none
  keep : ∀ a o, H a = some o → a ∉ mu → H' a = some o
  sm : ∀ a, H' a = none → H a = none
def RA (K : PySem.W.Frag) (mg : Str → Option Value) (mu' : List Addr) (Fz' : Addr → Prop) (H H' : Hp) : R → V → Prop
  | .d x, v => RV K mg mu' Fz' H' x v
  | .tmp ds, v => ∃ p vs, v = .ref p ∧ H p = none ∧ H' p = some (.lst vs) ∧ RVs K mg mu' Fz' H' ds vs ∧ ¬ Fz' p ∧ p ∉ mu'
  | .brw _, _ => False
/-- an exception, as the layer tells of it -/
def RX (mg : Str → Option Value) (ex : Exn) (cls : Value) (od : Option Addr) (_ : Hp) : Prop := ex.fs = [] ∧ od = none ∧ ∃ C, mg (Str.ofString ex.cls) = some (.ref C) ∧ cls = .ref C
/-- what a def of the table promises, so many calls deep -/
def spF (K : PySem.W.Frag) (mg : Str → Option Value) (T : Tab) (k : Nat) (f : String) (np : Nat) : Sp := fun vs H Q E => ∃ mu Fz st ds Qp Ep, RelS K mg mu Fz st H ∧ RVs K mg mu Fz H ds vs ∧ vs.length = np ∧ wpC T k f ds st Qp Ep ∧
  (∀ mu' Fz' st' H' r v, RelS K mg mu' Fz' st' H' → Post mu Fz H mu' Fz' H' → RA K mg mu' Fz' H H' r v → Qp r st' → Q v H') ∧
  ∀ mu' Fz' st' H' ex cls od, RelS K mg mu' Fz' st' H' → Post mu Fz H mu' Fz' H' → RX mg ex cls od H' → Ep ex st' → E cls od H'
/-- a def keeps its promise (where nothing is being shown as a text) -/
structure FnG (P : Program) (w : World) (K : PySem.W.Frag) (mg : Str → Option Value) (base : Heap) (k : Nat) (f : Addr) (fd : FuncData) (ps : List Str) (sp : Sp) : Prop where
  len : ∀ vs H Q E, sp vs H Q E → vs.length = ps.length
  run : ∀ (A : Around) (outer : List Env) (s : Shared) (H : Hp) (args : Args) (us : List Value) (vs : List V) (Q : VK) (E : XK), Room k A → A.guards = some [] → Env0 P w K mg base A outer s H → BindsTo s fd args (ps.zip us) → Vals vs us → sp vs H Q E →
    codeAny (model P w) A (.call (.ref f) args) (CR (CX P w) outer P w H s Q E) s
/-- what this body wants of exceptions -/
def WX2 (G : Gh) (EX : QX) : WX := fun cls od σ H => ∃ mu Fz env st ex, Rel G mu Fz env st σ H ∧ RX G.mg ex cls od H ∧ EX ex env st

section
variable {G : Gh} {mu mu' : List Addr} {Fz Fz' : Addr → Prop} {env : PEnv} {st st' : PSto} {σ : L2.St} {H H' : Hp}
theorem Rel.cells (x : Rel G mu Fz env st σ H) : RelS G.K G.mg mu Fz st H := ⟨x.mlen, x.cell, x.mnd, x.mfz, x.fzl⟩
/-- back from a call -/
theorem Rel.after (x : Rel G mu Fz env st σ H) (y : RelS G.K G.mg mu' Fz' st' H') (p : Post mu Fz H mu' Fz' H') : Rel G mu' Fz' env st' σ H' ∧ Stp mu Fz env σ H mu' Fz' env H' := by
  have s : Stp mu Fz env σ H mu' Fz' env H' := ⟨p.mux, fun a h => (p.mun a h).imp id .inr, p.fz, fun a h => (p.fzn a h).imp id .inr, fun a o e h _ => p.keep a o e h, p.sm, fun i ds e => ⟨ds, e⟩, rfl⟩
  have pr := s.pr x
  refine ⟨x.of_stp s (fun i d e => ?_) (fun i ds e => ?_) y.mlen y.cell y.mnd y.mfz y.fzl (fun a _ z => x.none0 z), s⟩
  · obtain ⟨v, e1, r⟩ := x.val i d e
    exact ⟨v, e1, r.mono pr⟩
  · obtain ⟨a, vs, e1, e2, r, hz, hm, _⟩ := x.own i ds e
    refine ⟨a, vs, e1, p.keep a _ e2 hm, r.mono pr, fun z => ?_, fun z => ?_⟩
    · rcases p.fzn a z with z | z
      · exact hz z
      · rw [e2] at z; cases z
    · rcases p.mun a z with z | z
      · exact hm z
      · rw [e2] at z; cases z
theorem RA.rr (x : Rel G mu Fz env st σ H) {r : R} {v : V} (h : RA G.K G.mg mu' Fz' H H' r v) : RR G mu' Fz' env σ H' r v ∧ Frh H r v := by
  cases r with
  | d y => exact ⟨h, True.intro⟩
  | brw i => exact h.elim
  | tmp ds =>
    obtain ⟨p, vs, rfl, e1, e2, e3, e4, e5⟩ := h
    refine ⟨⟨p, vs, rfl, e2, e3, e4, e5, fun z => ?_, x.none0 e1⟩, fun q z => by cases z; exact e1⟩
    obtain ⟨i, es, e, q⟩ := z
    obtain ⟨a, us, q1, q2, _⟩ := x.own i es e
    rw [q] at q1; cases q1
    rw [e1] at q2; cases q2
end
section
variable {X : Cx} {G : Gh} {T : Tab} {EX : QX} {k : Nat}
/-- the callee runs -/
theorem run_fnG {pins : List (Addr × Obj)} {σ : L2.St} {H : Hp} {s : Shared} {Q : VK} {us : List Value} {vs : List V} {f : Addr} {fd : FuncData} {ps : List Str} {sp : Sp} {E : XK} (F : FnG X.prog X.w X.K X.mg X.base k f fd ps sp) (hr : Room k X.A) (hg : X.A.guards = some []) (hb : Binds X.K fd ps [])
    (I : Inv X pins σ H s) (r : Vals vs us) (h : sp vs H Q E) (hx : ∀ e s', CX X.prog X.w X.stack H s E e s' → X.xe e s') : wpAny (model X.prog X.w) X.A (call (.ref f) us) (EP X pins σ Q) X.xe s := by
  have hl : us.length = ps.length := by rw [← r.length]; exact F.len _ _ _ _ h
  have hb' := hb s us I.kIn (by rw [List.append_nil]; exact hl)
  rw [List.append_nil] at hb'
  refine wpAny_call (codeAny_mono (F.run X.A X.stack s H ⟨us, []⟩ us vs Q E hr hg I.env0 hb' r h) fun r s' hq => ?_)
  cases r with
  | error e => exact hx e s' hq
  | ok fl =>
    cases fl with
    | ret u => exact I.after hq
    | next => exact False.elim hq
    | brk => exact False.elim hq
    | cont => exact False.elim hq
/-- the answer of a call, from what the def promises -/
theorem call_sp {pins : List (Addr × Obj)} {σ : L2.St} {H : Hp} {s : Shared} {us : List Value} {vs : List V} {f : Addr} {fd : FuncData} {ps : List Str} {fn : String} {mu : List Addr} {Fz : Addr → Prop} {env : PEnv} {st : PSto} {ds : List D} {Qp : QE} {Q : VK}
    (hK : X.K = G.K) (hmg : X.mg = G.mg) (F : FnG X.prog X.w X.K X.mg X.base k f fd ps (spF G.K G.mg T k fn ps.length)) (hr : Room k X.A) (hg : X.A.guards = some []) (hb : Binds X.K fd ps []) (tk : Takes X (WX2 G EX))
    (I : Inv X pins σ H s) (r : Vals vs us) (hl : vs.length = ps.length) (x : Rel G mu Fz env st σ H) (rv : RVs G.K G.mg mu Fz H ds vs) (h : wpC T k fn ds st (fun r st => Qp r env st) (fun e st => EX e env st))
    (kk : ∀ mu' Fz' env' st' H' r v, Rel G mu' Fz' env' st' σ H' → Stp mu Fz env σ H mu' Fz' env' H' → RR G mu' Fz' env' σ H' r v → Frh H r v → Qp r env' st' → Q v H') :
    wpAny (model X.prog X.w) X.A (call (.ref f) us) (EP X pins σ Q) X.xe s := by
  refine run_fnG (E := fun cls od H' => WX2 G EX cls od σ H') F hr hg hb I r ⟨mu, Fz, st, ds, _, _, x.cells, rv, hl, h, fun mu' Fz' st' H' r v y p ra q => ?_, fun mu' Fz' st' H' ex cls od y p rx q => ?_⟩ fun e s' c => ?_
  · obtain ⟨x', s'⟩ := x.after y p
    obtain ⟨rr, fr⟩ := ra.rr x
    exact kk _ _ _ _ _ _ _ x' s' rr fr q
  · obtain ⟨x', s'⟩ := x.after y p
    exact ⟨mu', Fz', env, st', ex, x', rx, q⟩
  · exact tk e s' (XE.of_call I (fun cls d H' hh => hh) c)
theorem wpC_np {T : Tab} {k : Nat} {fn : String} {ds : List D} {st : PSto} {Q : R → PSto → Prop} {E : Exn → PSto → Prop} {d : FDef} (h : wpC T k fn ds st Q E) (ht : T.fn fn = some d) : ds.length = d.np := by
  cases k with
  | zero => exact h.elim
  | succ k =>
    unfold wpC at h
    obtain ⟨d', e, h, _⟩ := oq_ok h
    rw [ht] at e
    cases e
    exact h
theorem se_call {f : Addr} {fd : FuncData} {ps : List Str} {fn : String} {y : Str} {pq : Es} {e : Expr} {es : List Expr} {p pos : Pos} {d : FDef} (hK : X.K = G.K) (hmg : X.mg = G.mg) (F : FnG X.prog X.w X.K X.mg X.base k f fd ps (spF G.K G.mg T k fn ps.length)) (hr : Room k X.A) (hgd : X.A.guards = some []) (hb : Binds X.K fd ps []) (tk : Takes X (WX2 G EX))
    (hg : Gl X y) (hm : X.mg y = some (.ref f)) (hk : PySem.W.keepIn X.K (.ref f) = true) (hT : T.fn fn = some d) (hn : d.np = ps.length) (ha : PA X (e :: es) (tA G (wpEs T (wpC T k) EX pq)))
    (hdb : (y == ("__debug__" : Str)) = false) (he : starEach (e :: es) X.env = (false, eval e X.env) :: starEach es X.env) (hpl : (backTo pos (starEach es X.env)).any (·.1) = false) :
    SE X G (wpE T (wpC T k) EX (.call fn pq)) (.Call (.Name y p) (e :: es) [] pos) := by
  have hE : PE X (.Call (.Name y p) (e :: es) [] pos) (tE G (wpE T (wpC T k) EX (.call fn pq))) := by
    refine ⟨fun pins s σ H Q I h => ?_⟩
    obtain ⟨mu, Fz, env, st, Qp, x, h, kk⟩ := h
    unfold wpE at h
    refine wpAny_Call_Name_kw (ld_glob I hg hm ?_ hdb)
    have hA : tA G (wpEs T (wpC T k) EX pq) σ H fun vs H1 => ∃ mu' Fz' env' st' ds, Rel G mu' Fz' env' st' σ H1 ∧ Stp mu Fz env σ H mu' Fz' env' H1 ∧ RVs G.K G.mg mu' Fz' H1 ds vs ∧ wpC T k fn ds st' (fun r st => Qp r env' st) (fun e st => EX e env' st) := by
      refine ⟨mu, Fz, env, st, _, x, h, fun mu1 Fz1 env1 st1 H1 rs vs x1 s1 rr1 f1 h1 => ?_⟩
      obtain ⟨mu2, Fz2, env2, st2, ds, x2, s2, p2, rv, q⟩ := escs_ok x1 s1 rr1 f1 h1
      exact ⟨mu2, Fz2, env2, st2, ds, x2, s2, rv, q⟩
    refine PySem.W.callWith_K (h₀ := X.base) I.ok.mod.kin hk (thn (ha.run pos pins s σ H _ I hA) fun us s1 ⟨vs, H1, I1, r, mu', Fz', env', st', ds, x', s', rv, q⟩ => ⟨I1.kIn, ?_⟩) he hpl
    exact call_sp hK hmg F hr hgd hb tk I1 r (by rw [← rv.length, wpC_np q hT, hn]) x' rv q fun mu2 Fz2 env2 st2 H2 r v x2 s2 rr fr q => kk _ _ _ _ _ _ _ x2 (s'.trans s2) rr (fr.sm fun _ z => s'.sm _ z) q
  exact SE.ofv hE (by intro _; rfl) fun _ _ _ h => h
theorem se_call0 {f : Addr} {fd : FuncData} {ps : List Str} {fn : String} {y : Str} {p pos : Pos} (hK : X.K = G.K) (hmg : X.mg = G.mg) (F : FnG X.prog X.w X.K X.mg X.base k f fd ps (spF G.K G.mg T k fn ps.length)) (hr : Room k X.A) (hgd : X.A.guards = some []) (hb : Binds X.K fd ps []) (tk : Takes X (WX2 G EX))
    (hg : Gl X y) (hm : X.mg y = some (.ref f)) (hk : PySem.W.keepIn X.K (.ref f) = true) (hn : ps.length = 0) (hdb : (y == ("__debug__" : Str)) = false) : SE X G (wpE T (wpC T k) EX (.call fn .nil)) (.Call (.Name y p) [] [] pos) := by
  have hE : PE X (.Call (.Name y p) [] [] pos) (tE G (wpE T (wpC T k) EX (.call fn .nil))) := by
    refine ⟨fun pins s σ H Q I h => ?_⟩
    obtain ⟨mu, Fz, env, st, Qp, x, h, kk⟩ := h
    unfold wpE wpEs escs at h
    refine wpAny_Call_Name_kw (ld_glob I hg hm ?_ hdb)
    exact PySem.W.callWith_K0 I.kIn hk (call_sp (us := []) (vs := []) (ds := []) hK hmg F hr hgd hb tk I .nil hn.symm x rfl h kk)
  exact SE.ofv hE (by intro _; rfl) fun _ _ _ h => h

/-! ### defs -/
theorem fnG_of {P : Program} {w : World} {K : PySem.W.Frag} {mg : Str → Option Value} {base : Heap} {k : Nat} {f : Addr} {name qual : Str} {params : Arguments} {body : List Stmt} {scope : Scope} {dV kV doc pm cdv ct oc : Value} {an od : Option Addr}
    {osl : Array (Option Value)} {N ps : List Str} {sp : Sp} (lk : K.lookup f = some ⟨oc, od, .func (PySem.W.fnOf name qual params body scope dV kV doc pm an cdv ct), osl⟩) (hcd : PySem.W.codeIn K cdv qual = true) (S : FnScope N ps scope)
    (len : ∀ vs H Q E, sp vs H Q E → vs.length = ps.length)
    (hbody : ∀ (A : Around) (outer : List Env) (s : Shared) (H : Hp) (vs : List V) (Q : VK) (E : XK), Room k (A.deeper (envOfC qual scope s.heap.objs.size f cdv)) → A.guards = some [] → sp vs H Q E →
      ∃ t, PSs (cxOf (CX P w) P w K mg base N qual scope f cdv A outer s H E) body t ∧ t { nx := fun _ H' => Q .non H', rt := Q } (L2.start N vs) H) :
    FnG P w K mg base (k + 1) f (PySem.W.fnOf name qual params body scope dV kV doc pm an cdv ct) ps sp := by
  refine ⟨len, fun A outer s H args us vs Q E hr hgd e0 hb r hsp => ?_⟩
  have hl := len _ _ _ _ hsp
  have KX : K.In s.heap := e0.mod.kin.keeps fun b o e => (e0.bs b o e).1
  have lim : s.heap.NoLimit := e0.mod.nolimit.keeps fun b o e => (e0.bs b o e).1
  have hkind : ∀ y ∈ ps.zip us, scope.names.lookup y.1 = some .local ∨ (scope.names.lookup y.1 = some .cell ∧ ((cellsFrom (s.heap.objs.size + 1) scope.names []).lookup y.1).isSome = true) := fun ⟨n, v⟩ hy => by
    rcases S.par n (List.of_mem_zip hy).1 with q | q
    · exact .inl q
    · exact .inr ⟨q, PySem.W.cellsFrom_some _ _ _ (.inl q)⟩
  refine codeAny_call_function hr.depth (KX _ _ lk) rfl S.co S.gen rfl (PySem.W.codeRec_of KX hcd) (hb _ _ _ _ ?_)
  refine wpAny_newFunctionEnv_cells S.kind hkind fun env he s1 x => ?_
  subst he
  refine ⟨lim.keeps x.toInCall.keep, codeAny_func ?_⟩
  obtain ⟨t, ht, hq⟩ := hbody A outer s H vs Q E (hr.deeper _) hgd hsp
  have I : Inv (cxOf (CX P w) P w K mg base N qual scope f cdv A outer s H E) [] (L2.start N vs) H s1 := inv_start S hr.hd e0 hl r x
  refine wpAny_mono (ht.run [] s1 (L2.start N vs) H _ I hq) (fun fl s' hs => ?_) fun e s' hs => hs
  have fin : ∀ {σ' : L2.St} {H' : Hp} {v : V} {u : Value}, Inv (cxOf (CX P w) P w K mg base N qual scope f cdv A outer s H E) [] σ' H' s' → RelV v u → Q v H' → CE outer P w H s Q u s' :=
    fun {σ' H' v u} J rv q => ⟨v, H', J.os, J.bare, J.base, J.hok, rv, q⟩
  cases fl with
  | ret u =>
    obtain ⟨v, σ', H', J, rv, q⟩ := hs
    exact fin J rv q
  | next =>
    obtain ⟨σ', H', J, q⟩ := hs
    exact fin (v := V.non) (u := Value.none) J rfl q
  | brk =>
    obtain ⟨_, _, _, q⟩ := hs
    exact False.elim q
  | cont =>
    obtain ⟨_, _, _, q⟩ := hs
    exact False.elim q
/-- the frame at a def's entry -/
theorem rel_start {K : PySem.W.Frag} {mg : Str → Option Value} {mu : List Addr} {Fz : Addr → Prop} {st : PSto} {H : Hp} {ds : List D} {vs : List V} {N : List Str} (y : RelS K mg mu Fz st H) (rv : RVs K mg mu Fz H ds vs) (hN : vs.length ≤ N.length) :
    Rel ⟨K, mg, H, mu, Fz⟩ mu Fz (ds.map .val ++ List.replicate (N.length - ds.length) .no) st (L2.start N vs) H := by
  have hl := rv.length
  have noOwn : ∀ (i : Nat) (es : List D), (ds.map Sl.val ++ List.replicate (N.length - ds.length) Sl.no)[i]? ≠ some (.own es) := fun i es e => by
    by_cases hi : i < ds.length
    · rw [List.getElem?_append_left (by simpa using hi), List.getElem?_map] at e
      cases q : ds[i]? with
      | none => rw [q] at e; cases e
      | some d => rw [q] at e; cases e
    · rw [List.getElem?_append_right (by simpa using hi), List.getElem?_replicate] at e
      split at e <;> cases e
  refine ⟨?_, fun i d e => ?_, fun i es e => (noOwn i es e).elim, fun i j es fs a e _ _ _ => (noOwn i es e).elim, y.mlen, y.cell, y.mnd, y.mfz, y.fzl, ⟨[], by simp⟩, fun a h => .inl h, fun _ h => h, fun a h => .inl h, fun a o e _ => e⟩
  · unfold L2.start
    rw [List.length_append, List.length_append, List.length_map, List.length_map, List.length_replicate, List.length_replicate, hl]
  · have hi : i < ds.length := by
      by_cases hi : i < ds.length
      · exact hi
      · rw [List.getElem?_append_right (by simpa using hi), List.getElem?_replicate] at e
        split at e <;> cases e
    rw [List.getElem?_append_left (by simpa using hi), List.getElem?_map] at e
    cases q : ds[i]? with
    | none => rw [q] at e; cases e
    | some d' =>
      rw [q] at e
      cases e
      obtain ⟨v, e1, r⟩ := pGet (RVs.iff.mp rv) q
      refine ⟨v, ?_, r⟩
      unfold L2.start
      rw [List.getElem?_append_left (by rw [List.length_map, ← hl]; exact hi), List.getElem?_map, e1]
      rfl
theorem Rel.post {G : Gh} {mu' : List Addr} {Fz' : Addr → Prop} {env' : PEnv} {st' : PSto} {σ' : L2.St} {H' : Hp} (x : Rel G mu' Fz' env' st' σ' H') : Post G.mu0 G.fz0 G.H0 mu' Fz' H' :=
  ⟨x.pre, x.new, x.fz0, x.fzn, x.keep, fun a h => x.none0 h⟩
theorem RR.out {G : Gh} {mu' : List Addr} {Fz' : Addr → Prop} {env' : PEnv} {st' : PSto} {σ' : L2.St} {H' : Hp} {r : R} {v : V} {Q : R → Prop} (x : Rel G mu' Fz' env' st' σ' H') (rr : RR G mu' Fz' env' σ' H' r v) (q : outR r env' Q) : ∃ r', RA G.K G.mg mu' Fz' G.H0 H' r' v ∧ Q r' := by
  cases r with
  | d y => exact ⟨.d y, rr, q⟩
  | tmp ds =>
    obtain ⟨p, vs, rfl, e1, e2, e3, e4, e5, e6⟩ := rr
    exact ⟨.tmp ds, ⟨p, vs, rfl, e6, e1, e2, e3, e4⟩, q⟩
  | brw i =>
    have hv : σ'[i]? = some (some v) := rr
    unfold outR at q
    cases he : env'[i]? with
    | none => simp only [he] at q
    | some sl =>
      cases sl with
      | no => simp only [he] at q
      | val d =>
        simp only [he] at q
        obtain ⟨w, e1, e2⟩ := x.val i d he
        rw [hv] at e1; cases e1
        exact ⟨.d d, e2, q⟩
      | own ds =>
        simp only [he] at q
        obtain ⟨a, vs, e1, e2, e3, e4, e5, e6⟩ := x.own i ds he
        rw [hv] at e1; cases e1
        exact ⟨.tmp ds, ⟨a, vs, rfl, e6, e2, e3, e4, e5⟩, q⟩
/-- THE RULE for a def of the table: its body's meaning is its meaning -/
theorem fn_ok {P : Program} {w : World} {K : PySem.W.Frag} {mg : Str → Option Value} {base : Heap} {T : Tab} {k : Nat} {f : Addr} {fd : FuncData} {x qual : Str} {sm : Stmt} {N ps : List Str} {fn : String} {d : FDef} (F : Fun K x qual sm f fd) (S : FnScope N ps (defScope sm)) (ht : T.fn fn = some d) (hnp : d.np = ps.length) (hns : d.ns = N.length)
    (hbody : ∀ (X : Cx) (G : Gh) (EX : QX), X.prog = P → X.w = w → X.K = K → X.mg = mg → X.base = base → X.N = N → X.env.scope = defScope sm → X.calm = true → X.fn = (fun _ => true) → Room k X.A → X.A.guards = some [] → G.K = K → G.mg = mg → Takes X (WX2 G EX) → PassesOwn (model X.prog X.w) X.A X.env X.xe →
      X.stack = X.env :: X.outer → X.env.frame = some X.env.locals → X.ex = [] → PSs X (defBody sm) (tS2 G (wpSs T (wpC T k) d.body EX))) : FnG P w K mg base (k + 1) f fd ps (spF K mg T (k + 1) fn ps.length) := by
  obtain ⟨oc, od, kV, doc, pm, an, cdv, ct, osl, rfl, lk, hcd⟩ := F.ex
  refine fnG_of lk hcd S (fun vs H Q E ⟨_, _, _, _, _, _, _, _, h, _⟩ => h) fun A outer s H vs Q E hr hgd ⟨mu, Fz, st, ds, Qp, Ep, y, rv, hl, h, hq, hx⟩ => ?_
  unfold wpC at h
  obtain ⟨d', e, h⟩ := oq_ok h
  rw [ht] at e
  cases e
  obtain ⟨hds, h⟩ := h
  have hpl : ps.length ≤ N.length := by have := congrArg List.length S.pre; rw [List.length_take] at this; omega
  have x0 := rel_start (N := N) y rv (by rw [hl]; exact hpl)
  rw [hns, ← hds] at h
  refine ⟨_, hbody _ ⟨K, mg, H, mu, Fz⟩ (fun e _ st => Ep e st) rfl rfl rfl rfl rfl rfl rfl rfl rfl hr hgd rfl rfl ?_ (passes_of rfl) rfl rfl rfl, mu, Fz, _, st, _, x0, h, fun mu' Fz' env' st' σ' H' x' _ q => ?_, fun mu' Fz' env' st' σ' H' x' _ q => q.elim, fun mu' Fz' env' st' σ' H' x' _ q => q.elim, fun mu' Fz' env' st' σ' H' r v x' rr q => ?_⟩
  · refine (takes_of (E := E) rfl rfl rfl rfl).imp fun cls od σ' H' ⟨mu', Fz', env', st', ex, x', rx, q⟩ => ?_
    exact hx mu' Fz' st' H' ex cls od x'.cells x'.post rx q
  · exact hq mu' Fz' st' H' (.d .non) .non x'.cells x'.post rfl q
  · have q : outR r env' (fun r => Qp r st') := q
    obtain ⟨r', ra, q⟩ := rr.out x' q
    exact hq mu' Fz' st' H' r' v x'.cells x'.post ra q
end
end PI
set_option maxHeartbeats 2000000
namespace PI
open PySem PySem.Spec PyProof.Rows L2

/-! ### raise -/
/-- an own class of exceptions over ValueError, without an __init__ of its own -/
structure ExcK (K : PySem.W.Frag) (mg : Str → Option Value) (c : String) : Prop where
  ex : ∃ C, mg (Str.ofString c) = some (.ref C) ∧ PySem.W.excIn K C [.type "ValueError", .type "Exception", .type "BaseException", .type "object"] "ValueError.__new__" = true ∧ PySem.W.keepIn K (.ref C) = true ∧
    PySem.W.subIn K (.ref C) (.type "BaseException") = some true ∧ PySem.W.typeIn K (.ref C) = some (.type "type")
section
variable {X : Cx} {G : Gh} {T : Tab} {CALL : CallT} {EX : QX}
theorem s_raise {c : String} {m : Str} {j : Nat} {p p2 pos pos2 : Pos} (hK : X.K = G.K) (hmg : X.mg = G.mg) (hc : X.calm = true) (tk : Takes X (WX2 G EX)) (hx : ExcK X.K X.mg c) (hg : Gl X (Str.ofString c)) (hdb : (Str.ofString c == ("__debug__" : Str)) = false) :
    PS X (.Raise (some (.Call (.Name (Str.ofString c) p) [.Constant (.str m) j p2] [] pos)) none pos2) (tS2 G (wpS T CALL (.raise c) EX)) := by
  obtain ⟨C, gC, xC, kC, bC, tC⟩ := hx.ex
  refine PS.imp (ps_raise hc tk (pmk_own PySem.F.excBase_ValueError xC gC kC (raises_own bC tC) hg hdb)) fun D σ H ⟨mu, Fz, env, st, Dp, x, h, _⟩ => ?_
  unfold wpS at h
  exact ⟨mu, Fz, env, st, _, x, ⟨rfl, rfl, C, hmg ▸ gC, rfl⟩, h⟩

/-! ### stores -/
theorem iop_mulW : OpR X (inplaceOp .Mult) (rI L2.CMulW fun i j => .int (i * j)) := opI fun _ _ _ _ _ _ _ hc q => imul_int q hc.ok
def rIp (o : BOp) : R2 := match o with
  | .add => rI0 fun i j => .int (i + j)
  | .sub => rI0 fun i j => .int (i - j)
  | .mul => rI L2.CMulW fun i j => .int (i * j)
  | _ => fun _ _ _ _ => False
def ipPlain : BOp → Bool
  | .add => true
  | .sub => true
  | .mul => true
  | _ => false
theorem op_ip (o : BOp) (h : ipPlain o = true) : PIp X (opOf o) (rIp o) := by
  cases o with
  | add => exact fun pins s σ H x y v u Q I r1 r2 q => iop_add pins s σ H x y v u Q I r1 r2 q
  | sub => exact fun pins s σ H x y v u Q I r1 r2 q => iop_sub pins s σ H x y v u Q I r1 r2 q
  | mul => exact fun pins s σ H x y v u Q I r1 r2 q => iop_mulW pins s σ H x y v u Q I r1 r2 q
  | _ => cases h
theorem s_aug {o : BOp} {p : E} {i : Nat} {y : Str} {e : Expr} {pos pos' : Pos} (ho : ipPlain o = true) (hN : X.N.Nodup) (hi : X.N[i]? = some y) (hx : Loc X.env.scope y) (he : PE X e (tE G (wpE T CALL EX p))) (hf : X.fn y = true ∨ X.env.scope.names.lookup y = some .local) :
    PS X (.AugAssign (.Name y pos') (opOf o) e pos) (tS2 G (wpS T CALL (.aug i o p) EX)) := PS.imp (ps_aug hN hi hx he (op_ip o ho) hf) fun D σ H ⟨mu, Fz, env, st, Dp, x, h, n, _⟩ => by
  unfold wpS at h
  cases hv : env[i]? with
  | none => simp only [hv] at h
  | some sl =>
    cases sl with
    | no => simp only [hv] at h
    | own ds => simp only [hv] at h
    | val z =>
      cases z <;> simp only [hv] at h
      rename_i a
      obtain ⟨v, e1, rv⟩ := x.val i _ hv
      obtain rfl : v = _ := rv
      refine ⟨_, e1, tE.mk x h fun mu1 Fz1 env1 st1 H1 r w x1 s1 rr f h1 => ?_⟩
      have p1 := s1.pr x
      obtain ⟨d, g, h1⟩ := dr_ok x1 rr h1
      cases d <;> try exact h1.elim
      obtain rfl : w = _ := g
      have put : ∀ c : Int, Dp.nx (env1.set i (.val (.int c))) st1 → D.nx (σ.set i (some (.int c))) H1 := fun c q =>
        n _ _ _ _ _ _ (x1.upd (Upd.put (P := fun _ => True) (d := .int c) x1.len trivial rfl)) p1 q
      cases o with
      | add => exact ⟨_, _, rfl, rfl, put _ h1⟩
      | sub => exact ⟨_, _, rfl, rfl, put _ h1⟩
      | mul => exact ⟨_, _, rfl, rfl, h1.1, put _ h1.2⟩
      | _ => cases ho
theorem s_sub {po pi pe : E} {m : Bool} {o i e : Expr} {tpos pos : Pos} (ho : PE X o (tE G (wpE T CALL EX po))) (hi : PE X i (tE G (wpE T CALL EX pi))) (he : PE X e (tE G (wpE T CALL EX pe)))
    (hs : swapsWithSole [.Subscript o i tpos] e pos.line X.env = pure false) (hw : swappedStores [.Subscript o i tpos] e X.env = pure none)
    (ha : ∀ v, assign (.Subscript o i tpos) X.env v = (do
      let ov ← holding [v] (eval o X.env)
      let iv ← holding [v, ov] (eval i X.env)
      standAt tpos
      holding [v, ov, iv] (setItem ov iv v)
      release [v, ov, iv] [])) (h1 : (assignEach [.Subscript o i tpos] X.env).map (·.2) = [assign (.Subscript o i tpos) X.env]) :
    PS X (.Assign [.Subscript o i tpos] e pos) (tS2 G (wpS T CALL (.sub po pi pe m) EX)) := PS.imp (ps_asg he (pg_sub ho hi set_list ha) hs hw h1) fun D σ H ⟨mu, Fz, env, st, Dp, x, h, n, _⟩ => by
  unfold wpS at h
  refine tE.mk x h fun mu1 Fz1 env1 st1 H1 r v x1 s1 rr1 f1 h1 => tE.mk x1 h1 fun mu2 Fz2 env2 st2 H2 ro vo x2 s2 rr2 f2 h2 => tE.mk x2 h2 fun mu3 Fz3 env3 st3 H3 ri vi x3 s3 rr3 f3 h3 => ?_
  obtain ⟨di, gi, h3⟩ := dr_ok x3 rr3 h3
  obtain ⟨mu4, Fz4, env4, st4, d, x4, s4, e4, rd, h4⟩ := esc_ok x3 ((s1.trans s2).trans s3) ((rr1.mono x1 s2).mono x2 s3) f1 h3
  unfold setV at h4
  cases di <;> try exact h4.elim
  obtain rfl : vi = _ := gi
  have hn : ∀ ds, ro ≠ .tmp ds := fun ds z => by subst z; exact h4.elim
  have rr2' := rr2.mono x2 s3
  have rro : RR G mu4 Fz4 env4 σ H3 ro vo := e4.rr rr2' fun z => by
    cases ro with
    | tmp ds => exact absurd rfl (hn ds)
    | d y => exact z.elim
    | brw i => exact z.elim
  obtain ⟨a, ws, ds, put, rfl, e, rv, h4, pr, fin⟩ := modL_ok x4 rro h4
  obtain ⟨j, e1, h4⟩ := oq_ok h4
  obtain ⟨x5, s5⟩ := fin (ds.set j d) (ws.set j v) (RVs.iff.mpr (pSet rd j (RVs.iff.mp rv)))
  rw [rv.length] at e1
  exact ⟨a, ws, _, j, rfl, rfl, e, e1, n _ _ _ _ _ _ x5 ((s4.trans s5).pr x) h4⟩
end
end PI
set_option maxHeartbeats 2000000
namespace PI
open PySem PySem.Spec PyProof.Rows L2

/-! ### isinstance with built-in classes -/
def tyNames : List String := ["bool", "int", "str", "tuple", "list", "dict"]
def tyAll : List String := ["NoneType", "bool", "int", "str", "tuple", "list", "dict"]
theorem kit_all : (tyAll.all fun a => tyNames.all fun n => kitB a n == some (a == n || (a == "bool" && n == "int"))) = true := by decide +kernel
theorem kit_at {K : PySem.W.Frag} {a n : String} (ha : a ∈ tyAll) (hn : n ∈ tyNames) : PySem.W.kitOne K (.type a) (.type n) = some (a == n || (a == "bool" && n == "int")) := by
  have h := List.all_eq_true.mp (List.all_eq_true.mp kit_all a ha) n hn
  exact kit_ty (by simpa using h)
section
variable {G : Gh} {mu : List Addr} {Fz : Addr → Prop} {H : Hp}
theorem tyx_ok {d : D} {v : V} {a : String} (g : VD G.K G.mg mu Fz H d v) (e : tyN d = some a) : a ∈ tyAll ∧ TyX G.K H v (.type a) := by
  cases d with
  | non => obtain rfl : v = _ := g; cases e; exact ⟨by decide, .base .non⟩
  | bl b => obtain rfl : v = _ := g; cases e; exact ⟨by decide, .base (.bl b)⟩
  | int b => obtain rfl : v = _ := g; cases e; exact ⟨by decide, .base (.int b)⟩
  | str b => obtain rfl : v = _ := g; cases e; exact ⟨by decide, .base (.str b)⟩
  | tup ds => obtain ⟨p, vs, rfl, h, _⟩ := g; cases e; exact ⟨by decide, .base (.tup h)⟩
  | lst ds => obtain ⟨p, vs, rfl, h, _⟩ := g; cases e; exact ⟨by decide, .base (.lst h)⟩
  | scr ds =>
    obtain ⟨p, vs, rfl, h, _⟩ := g
    cases e
    rcases h with ⟨o, h⟩ | ⟨o, its, n, h, hc, _⟩
    · exact ⟨by decide, .base (.frz h)⟩
    · exact ⟨by decide, .kList h hc⟩
  | dic0 => obtain ⟨p, rfl, h⟩ := g; cases e; exact ⟨by decide, .base (.dK h)⟩
  | ref r => cases e
  | exc c fs => cases e
theorem isTy_ok {sub : String → String → Bool} {st : PSto} {d : D} {v : V} {n : String} {b : Bool} (g : VD G.K G.mg mu Fz H d v) (hn : n ∈ tyNames) (e : isTy sub st d (.b n) = some b) : ∃ t, TyX G.K H v t ∧ PySem.W.kitOne G.K t (.type n) = some b := by
  unfold isTy at e
  obtain ⟨a, ea, rfl⟩ := Option.map_eq_some_iff.mp e
  obtain ⟨h1, h2⟩ := tyx_ok g ea
  exact ⟨_, h2, kit_at h1 hn⟩
theorem kitAny_at {sub : String → String → Bool} {st : PSto} {d : D} {a : String} (ha : a ∈ tyAll) (ea : tyN d = some a) : ∀ {ns : List String} {b : Bool}, (∀ n ∈ ns, n ∈ tyNames) → isTys sub st d (ns.map Ty.b) = some b → PySem.W.kitAny G.K (.type a) (ns.map Value.type) = some b
  | [], b, _, e => by cases e; exact kitAny_nil
  | x :: xs, b, hx, e => by
    simp only [List.map] at e
    unfold isTys at e
    cases e1 : isTy sub st d (.b x) with
    | none => simp only [e1] at e; cases e
    | some b1 =>
      cases e2 : isTys sub st d (xs.map Ty.b) with
      | none => simp only [e1, e2] at e; cases e
      | some b2 =>
        simp only [e1, e2] at e
        cases e
        have i2 := kitAny_at ha ea (fun n h => hx n (List.mem_cons_of_mem _ h)) e2
        unfold isTy at e1
        rw [ea] at e1
        cases e1
        exact kitAny_cons (kit_at ha (hx x List.mem_cons_self)) (fun z => by show _ = some ((a == x || a == "bool" && x == "int") || b2); rw [z]; exact i2) fun z => by show ((a == x || a == "bool" && x == "int") || b2) = true; rw [z]; rfl
theorem isTys_ok {sub : String → String → Bool} {st : PSto} {d : D} {v : V} (g : VD G.K G.mg mu Fz H d v) {ns : List String} {b : Bool} (hn : ∀ n ∈ ns, n ∈ tyNames) (h0 : ns ≠ []) (e : isTys sub st d (ns.map Ty.b) = some b) : ∃ t, TyX G.K H v t ∧ PySem.W.kitAny G.K t (ns.map Value.type) = some b := by
  have : ∃ a, tyN d = some a := by
    cases ns with
    | nil => exact absurd rfl h0
    | cons x xs =>
      simp only [List.map] at e
      unfold isTys at e
      cases e1 : isTy sub st d (.b x) with
      | none => simp only [e1] at e; cases e
      | some b1 =>
        unfold isTy at e1
        obtain ⟨a, ea, _⟩ := Option.map_eq_some_iff.mp e1
        exact ⟨a, ea⟩
  obtain ⟨a, ea⟩ := this
  obtain ⟨h3, h4⟩ := tyx_ok g ea
  exact ⟨.type a, h4, kitAny_at h3 ea hn e⟩
end
theorem VD.same {K : PySem.W.Frag} {mg : Str → Option Value} {mu : List Addr} {Fz : Addr → Prop} {H H' : Hp} {d : D} {v : V} (sm : Same H H') (h : VD K mg mu Fz H d v) : VD K mg mu Fz H' d v := by
  cases d with
  | lst ds => obtain ⟨a, vs, e, h1, h2⟩ := h; exact ⟨a, vs, e, sm _ _ h1, h2.mono (Pr.same sm)⟩
  | _ => exact RV.mono (Pr.same sm) (show RV K mg mu Fz H _ v from h)
section
variable {X : Cx} {G : Gh} {T : Tab} {CALL : CallT} {EX : QX}
/-- the class a name tells, its value -/
structure BTy (X : Cx) (n : String) : Prop where
  ok : n ∈ tyNames
  gl : Gl X (Str.ofString n)
  mg : X.mg (Str.ofString n) = none
  bt : bootBuiltins (Str.ofString n) = some (.type n)
  nn : Str.ofString n ≠ "__name__"
  nd : (Str.ofString n == ("__debug__" : Str)) = false
theorem BTy.pe {n : String} (b : BTy X n) {p : Pos} : PE X (.Name (Str.ofString n) p) (tC (.ty n)) := pe_bltn b.gl b.mg b.bt rfl b.nn b.nd
theorem se_isi {n : String} {p : E} {e : Expr} {p1 p2 pos : Pos} (hK : X.K = G.K) (hg : Gl X "isinstance") (hm : X.mg "isinstance" = none) (he : PE X e (tE G (wpE T CALL EX p))) (b : BTy X n)
    (hs : starEach [e, .Name (Str.ofString n) p2] X.env = (false, eval e X.env) :: starEach [.Name (Str.ofString n) p2] X.env) :
    SE X G (wpE T CALL EX (.isi p [.b n])) (.Call (.Name "isinstance" p1) [e, .Name (Str.ofString n) p2] [] pos) := by
  refine SE.ofv (pe_callB call_isi hg hm (by decide +kernel) (pa_cons he (pa_cons b.pe pa_nil rfl) hs) (by decide) (by decide) hs rfl) (by intro _; rfl) fun σ H Q h => ?_
  obtain ⟨mu, Fz, env, st, Qp, x, h, k⟩ := h
  unfold wpE at h
  refine ⟨mu, Fz, env, st, _, x, h, fun mu1 Fz1 env1 st1 H1 r v x1 s1 rr1 f1 h1 => ?_⟩
  obtain ⟨d, g, h1⟩ := dr_ok x1 rr1 h1
  obtain ⟨c, e1, h1⟩ := oq_ok h1
  obtain ⟨t, h2, h3⟩ := isTys_ok g (ns := [n]) (fun m h => by cases h with | head => exact b.ok | tail _ h => cases h) (by simp) e1
  show rIsi X.K _ H1 Q
  have h3' : PySem.W.kitOne G.K t (.type n) = some c := by
    unfold PySem.W.kitAny at h3
    simp only [List.map] at h3
    cases q : PySem.W.kitOne G.K t (.type n) with
    | none => rw [q] at h3; cases h3
    | some z =>
      rw [q] at h3
      cases z with
      | true => exact h3
      | false => exact h3
  exact ⟨v, .ty n, t, _, c, rfl, .ty n, hK ▸ h2, hK ▸ h3', k _ _ _ _ _ (.d (.bl c)) (.bl c) x1 s1 rfl trivial h1⟩
theorem tC_tup {x : V} {ns : List String} : ∀ {H : Hp} {Q : List V → Hp → Prop} (t : TA), (∀ σ H Q, Q (ns.map V.ty) H → t σ H Q) → True := fun _ _ => trivial
/-- the names in a tuple -/
def nmE (p : Pos) (n : String) : Expr := .Name (Str.ofString n) p
def PAty (X : Cx) (ns : List String) (es : List Expr) : Prop := ∃ t, PA X es t ∧ ∀ σ H Q, Q (ns.map V.ty) H → t σ H Q
theorem paty_nil : PAty X [] [] := ⟨_, pa_nil, fun _ _ _ h => h⟩
theorem paty_cons {n : String} {ns : List String} {es : List Expr} {p : Pos} (b : BTy X n) (h : PAty X ns es) : PAty X (n :: ns) (.Name (Str.ofString n) p :: es) := by
  obtain ⟨t, h1, h2⟩ := h
  exact ⟨_, pa_cons b.pe h1 rfl, fun σ H Q q => h2 σ H _ q⟩
theorem clsVs : ∀ ns : List String, Paired ClsV (ns.map V.ty) (ns.map Value.type)
  | [] => .nil
  | n :: ns => .cons (.ty n) (clsVs ns)
theorem se_isiT {ns : List String} {p : E} {e : Expr} {es : List Expr} {kk} {p1 p2 pos : Pos} (hK : X.K = G.K) (hg : Gl X "isinstance") (hm : X.mg "isinstance" = none) (he : PE X e (tE G (wpE T CALL EX p))) (hns : ∀ n ∈ ns, n ∈ tyNames) (hne : ns ≠ []) (hl : ns.length ≤ 100) (b : PAty X ns es)
    (hs : starEach [e, .Tuple es kk p2] X.env = (false, eval e X.env) :: starEach [.Tuple es kk p2] X.env) (hs2 : starEach [.Tuple es kk p2] X.env = (false, eval (.Tuple es kk p2) X.env) :: starEach [] X.env) :
    SE X G (wpE T CALL EX (.isi p (ns.map .b))) (.Call (.Name "isinstance" p1) [e, .Tuple es kk p2] [] pos) := by
  obtain ⟨t, hp, ht⟩ := b
  refine SE.ofv (pe_callB call_isiT hg hm (by decide +kernel) (pa_cons he (pa_cons (pe_tup hp) pa_nil hs2) hs) (by decide) (by decide) hs (by rw [hs2]; rfl)) (by intro _; rfl) fun σ H Q h => ?_
  obtain ⟨mu, Fz, env, st, Qp, x, h, k⟩ := h
  unfold wpE at h
  refine ⟨mu, Fz, env, st, _, x, h, fun mu1 Fz1 env1 st1 H1 r v x1 s1 rr1 f1 h1 => ?_⟩
  obtain ⟨d, g, h1⟩ := dr_ok x1 rr1 h1
  obtain ⟨c, e1, h1⟩ := oq_ok h1
  obtain ⟨ty, h2, h3⟩ := isTys_ok g hns hne e1
  refine ht σ H1 _ ⟨by rw [List.length_map, sizeLine_eq]; omega, fun q hq => ?_⟩
  show rIsiT X.K _ (upd H1 q (.tup (ns.map V.ty))) Q
  have sm := same_upd (H := H1) (o := HO.tup (ns.map V.ty)) hq
  have g2 : VD G.K G.mg mu1 Fz1 (upd H1 q (.tup (ns.map V.ty))) d v := VD.same sm g
  obtain ⟨t2, h2', h3'⟩ := isTys_ok g2 hns hne e1
  obtain ⟨x4, s4, rr4⟩ := (Out.fin (G := G) (r := .d (.bl c)) (v := .bl c) x1 ⟨sm, rfl⟩)
  exact ⟨v, q, ns.map V.ty, t2, ns.map Value.type, c, rfl, upd_same, clsVs ns, hK ▸ h2', hK ▸ h3', k _ _ _ _ _ (.d (.bl c)) (.bl c) x4 (s1.trans s4) rr4 trivial h1⟩
end
end PI
set_option maxHeartbeats 4000000
namespace PI
open PySem PySem.Spec PyProof.Rows L2

/-! ### repr -/
mutual
theorem dp_noDict {K : PySem.W.Frag} {H : Hp} : ∀ (d : PyData) (v : V), Dp K H v d → d.hasDict = false
  | .none, _, _ => rfl
  | .bool _, _, _ => rfl
  | .int _, _, _ => rfl
  | .str _, _, _ => rfl
  | .list ds, _, h => by
    cases h with
    | lst _ ha => unfold PyData.hasDict; exact dp_noDictAll ds _ ha
  | .tuple ds, _, h => by
    cases h with
    | tup _ ha => unfold PyData.hasDict; exact dp_noDictAll ds _ ha
  | .dict _, _, h => by cases h
theorem dp_noDictAll {K : PySem.W.Frag} {H : Hp} : ∀ (ds : List PyData) (vs : List V), DpAll K H vs ds → PyData.hasDictAll ds = false
  | [], _, _ => rfl
  | d :: ds, _, h => by
    cases h with
    | cons h1 h2 => unfold PyData.hasDictAll; rw [dp_noDict d _ h1, dp_noDictAll ds _ h2]; rfl
end
def rRepr (K : PySem.W.Frag) : List V → Hp → VK → Prop := fun xs H Q => ∃ v d, xs = [v] ∧ Dp K H v d ∧ seqD d ∧ d.showable = true ∧ d.depth ≤ 12 ∧ d.shown.length ≤ sizeLine ∧ Q (.str d.shown) H
theorem call_reprD {X : Cx} (hg : X.A.guards = some []) (hu : X.A.units + 65 < cLine) : CallR X (.builtin "repr") (rRepr X.K) := by
  intro pins s σ H xs us Q I r h
  obtain ⟨v, d, rfl, dp, sq, hs, hd, hz, q⟩ := h
  obtain ⟨u, rfl, ru⟩ := r.one
  obtain ⟨as, rd⟩ := Dp.reads I d v u dp ru
  have nd := dp_noDict d v dp
  have hv : ∃ a, u = .ref a := by
    cases dp <;> first | exact sq.elim | (cases ru; exact ⟨_, rfl⟩)
  obtain ⟨a, rfl⟩ := hv
  exact repr_of_reads' rd hs (PyData.noDict_hsm nd) hg (by omega) (fun _ _ e => e) (fun h' u tk hk => ⟨.str d.shown, H, I.kept hk, ⟨_, rfl⟩, q⟩) hz
section
variable {X : Cx} {G : Gh} {T : Tab} {CALL : CallT} {EX : QX}
theorem se_repr {m : Bool} {p : E} {e : Expr} {p1 pos : Pos} (hK : X.K = G.K) (hgd : X.A.guards = some []) (hu : X.A.units + 65 < cLine) (hg : Gl X "repr") (hm : X.mg "repr" = none) (he : PE X e (tE G (wpE T CALL EX p))) (hs : starEach [e] X.env = [(false, eval e X.env)]) :
    SE X G (wpE T CALL EX (.bi .repr (.cons m p .nil))) (.Call (.Name "repr" p1) [e] [] pos) := by
  refine SE.ofv (pe_callB (call_reprD hgd hu) hg hm (by decide +kernel) (sa_one (m := m) he hs) (by decide) (by decide) hs rfl) (by intro _; rfl) fun σ H Q h => ?_
  obtain ⟨mu, Fz, env, st, Qp, x, h, k⟩ := h
  unfold wpE at h
  refine ⟨mu, Fz, env, st, _, x, h, fun mu1 Fz1 env1 st1 H1 rs vs x1 s1 rr1 f1 h1 => ?_⟩
  obtain ⟨ds, g, h1⟩ := drs_ok x1 rr1 h1
  show rRepr X.K vs H1 Q
  cases g with
  | nil => exact h1.elim
  | @cons d v ds vs g gs =>
    cases gs with
    | cons g2 gs2 => cases d <;> exact h1.elim
    | nil =>
      have h1 : vw st1 d fun p => seqD p ∧ p.showable = true ∧ p.depth ≤ 12 ∧ p.shown.length ≤ sizeLine ∧ Qp (.d (.str p.shown)) env1 st1 := by cases d <;> exact h1
      obtain ⟨pd, dp, q1, q2, q3, q4, q5⟩ := vw_dp x1 g h1
      rw [hK]
      exact ⟨v, pd, rfl, dp, q1, q2, q3, q4, k _ _ _ _ _ (.d (.str pd.shown)) (.str pd.shown) x1 s1 rfl trivial q5⟩
end

/-! ### len(set(texts)) -/
theorem stepS_any (a : List Str) (x k : Str) : (stepS a x).any (· == k) = (a.any (· == k) || decide (k = x)) := by
  unfold stepS
  by_cases h : a.any (· == x) = true
  · rw [if_pos h]
    by_cases e : k = x
    · subst e; rw [h]; simp
    · simp [e]
  · rw [if_neg h, List.any_append]
    by_cases e : k = x
    · subst e; simp
    · have hb : (x == k) = false := by simpa [beq_iff_eq] using (fun h' : x = k => e h'.symm)
      simp [hb, e]
theorem stepS_len (a : List Str) (x : Str) : (stepS a x).length = if a.any (· == x) then a.length else a.length + 1 := by
  unfold stepS; split <;> simp
theorem dedS_take (xs : List Str) (i : Nat) (h : i < xs.length) : dedS (xs.take (i + 1)) = stepS (dedS (xs.take i)) (xs.getD i Str.empty) := by
  unfold dedS
  rw [List.take_succ, List.foldl_append, List.getElem?_eq_getElem h]
  have e : xs.getD i Str.empty = xs[i] := by simp [List.getD, h]
  rw [e]
  rfl
theorem dedS_le (xs : List Str) : (dedS xs).length ≤ xs.length := by
  have : ∀ (xs a : List Str), (xs.foldl stepS a).length ≤ a.length + xs.length := by
    intro xs
    induction xs with
    | nil => intro a; simp
    | cons x xs ih =>
      intro a
      rw [List.foldl_cons, List.length_cons]
      have := ih (stepS a x)
      have h2 := stepS_len a x
      split at h2 <;> omega
  have := this xs []
  unfold dedS
  simpa using this
section
variable {prog : Program} {w : World} {A : Around} {R : Result → Shared → Prop} {I : Addr} {fp wr : List Addr} {G : Array GenState → Array GenState → Prop} {n : Nat} {P : Nat → Value → Prop} {St : Nat → Shared → Prop}
theorem set_loop_strs (W : WalksS prog w A.in1 I fp wr G n P St) (S : Addr) (hSf : S ∉ fp) (xs : List Str) (hsz : xs.length = n) (hb : n + 1 < scanBound)
    (hval : ∀ i v, P i v → ∃ t, v = .str (xs.getD i Str.empty) t) :
    ∀ (k i : Nat) (s : Shared), n - i = k → i ≤ n → St i s →
      s.heap.SetOf (PySem.strKind prog w) S (fun k' => (dedS (xs.take i)).any (· == k')) (dedS (xs.take i)).length →
      (∀ s', Moved (S :: wr) G s s' → s'.heap.SetOf (PySem.strKind prog w) S (fun k' => (dedS (xs.take n)).any (· == k')) (dedS (xs.take n)).length → R (.ok (.ret .none)) s') →
      codeAny (model prog w) A (.builtin "set.update.loop" ⟨[.ref S, .ref I], []⟩) R s := by
  have hSw : S ∉ wr := fun h => hSf (W.sub _ h)
  have hsub : ∀ b ∈ wr, b ∈ S :: wr := fun b hb => List.mem_cons_of_mem _ hb
  intro k
  induction k with
  | zero =>
    intro i s hk hi hst hS hR
    have hin : i = n := by omega
    subst hin
    refine codeAny_builtin PyProof.Rows.F.entry_set_update_loop ?_
    rw [Around.under_plainId PyProof.Rows.F.plain_set_update_loop _]
    show wpAny _ A.in1 (pyNext (.ref I) >>= _) _ _ s
    refine wpAny_bind (W.done s _ _ hst fun s' hm => ?_)
    show wpAny _ A.in1 (ret Value.none) _ _ s'
    exact wpAny_pure (hR s' (hm.mono hsub) (by
      obtain ⟨o, es, ep, t, ho, rest⟩ := hS
      exact ⟨o, es, ep, t, hm.heap S _ hSw ho, rest⟩))
  | succ k ih =>
    intro i s hk hi hst hS hR
    have hlt : i < n := by omega
    refine codeAny_builtin PyProof.Rows.F.entry_set_update_loop ?_
    rw [Around.under_plainId PyProof.Rows.F.plain_set_update_loop _]
    show wpAny _ A.in1 (pyNext (.ref I) >>= _) _ _ s
    refine wpAny_bind (W.item i s _ _ hlt hst fun v s' hP hst' hm => ?_)
    obtain ⟨t, rfl⟩ := hval i v hP
    have hS' : s'.heap.SetOf (PySem.strKind prog w) S (fun k' => (dedS (xs.take i)).any (· == k')) (dedS (xs.take i)).length := by
      obtain ⟨o, es, ep, tb, ho, rest⟩ := hS
      exact ⟨o, es, ep, tb, hm.heap S _ hSw ho, rest⟩
    show wpAny _ A.in1 (holding [Value.str (xs.getD i Str.empty) t] (setAdd S (.str (xs.getD i Str.empty) t)) >>= _) _ _ s'
    refine wpAny_bind (wpAny_holding ?_)
    unfold setAdd
    refine wpAny_holding ?_
    refine wpAny_bind ((PySem.strKind prog w).pyHash (k := xs.getD i Str.empty) (strKind_is _ _ _ _) ?_)
    have hle := dedS_le (xs.take i)
    rw [List.length_take] at hle
    refine wpAny_setAddHashed_of (knd := PySem.strKind prog w) (s := { s' with toks := s'.toks + 1 }) (strKind_is _ _ _ _) rfl hS' (by omega) fun h' hsb hS2 => ?_
    have hSi : h'.SetOf (PySem.strKind prog w) S (fun k' => (dedS (xs.take (i + 1))).any (· == k')) (dedS (xs.take (i + 1))).length :=
      SetOf_congr hS2 (fun k' => by rw [dedS_take xs i (by omega), stepS_any]) (by rw [dedS_take xs i (by omega), stepS_len])
    refine wpAny_pure ⟨plainId_quiet PyProof.Rows.F.plain_set_update_loop _, ih (i + 1) _ (by omega) hlt (W.frame _ s' _ _ hst' (Nat.le_succ _) fun b hb o e => ?_) hSi fun s'' hm'' hS'' => ?_⟩
    · rw [hsb.2 b (fun h : b = S => hSf (by rw [← h]; exact hb))]; exact e
    · refine hR s'' (Moved.trans W.gtrans ((hm.mono hsub).then_heap (Nat.le_succ _) fun b o hb e => ?_) hm'') hS''
      rw [hsb.2 b (fun h : b = S => hb (by rw [h]; exact List.mem_cons_self))]; exact e
end
section
variable {prog : Program} {w : World} {A : Around} {E : Value → Shared → Prop} {s : Shared}
theorem call_set_strs {l : Addr} {items : Array Value} {xs : List Str} {Q : Value → Shared → Prop}
    (hh : A.handled = none) (hl : s.heap.IsList l items) (hi : PyProof.Rows.StrsAre items.toList xs) (hb : xs.length + 1 < scanBound)
    (h : ∀ (h' : Heap) (tk : Nat), h'.SetOf (PySem.strKind prog w) s.heap.objs.size (fun k' => (dedS xs).any (· == k')) (dedS xs).length →
      (∀ b o, b < s.heap.objs.size → s.heap.get? b = some o → h'.get? b = some o) → Q (.ref s.heap.objs.size) { s with heap := h', toks := tk }) :
    wpAny (model prog w) A (call (.type "set") [.ref l]) Q E s := by
  obtain ⟨c, tl, hmro⟩ := PySem.F.called_set.mro
  have hmade := PySem.F.called_set.made
  have hsub := PySem.F.called_set.sub
  refine wpAny_call (codeAny_of_tree ?_)
  show wpAny _ _ (callAny (.type "set") _) _ _ _
  refine wpAny_pure ⟨Code.quiet_builtin _ (by decide +kernel), codeAny_builtin PySem.F.entry_type_call ?_⟩
  rw [Around.under_plain (weight_type_call_type "set" [.ref l] []) rfl]
  have h1 := PySem.F.called_set.notType
  have h2 := PySem.F.called_set.canCreate
  have hct := PySem.F.typeCall_set_1 (.ref l)
  repeat (any_goals (first | assumption | wp_step))
  refine codeAny_mono (code_set_new_1 (.ref l) (E := E) (Q₁ := fun obj s₁ => ∃ led : Bool, obj = .ref s.heap.objs.size ∧ s₁ = { s with heap := s.heap.push { cls := .type "set", dict := none, data := .set #[] 0 (.fresh 0 0 led) } }) fun led => ⟨led, rfl, rfl⟩) fun r s₁ hr => ?_
  cases r with
  | error e => exact hr
  | ok fl =>
    cases fl with
    | ret obj =>
      obtain ⟨led, rfl, rfl⟩ := hr
      have hS : (s.heap.push { cls := .type "set", dict := none, data := .set #[] 0 (.fresh 0 0 led) }).get? s.heap.objs.size = some { cls := .type "set", dict := none, data := .set #[] 0 (.fresh 0 0 led) } := Heap.get?_push_size _ rfl
      have hT : Shared.TypeIs { s with heap := s.heap.push { cls := .type "set", dict := none, data := .set #[] 0 (.fresh 0 0 led) } } (.ref s.heap.objs.size) "set" := ⟨_, hS, rfl⟩
      have hli := PySem.F.called_set.init.lookup
      have hbi := PySem.F.called_set.init.bind (.ref s.heap.objs.size)
      repeat (any_goals (first | assumption | wp_step))
      refine codeAny_mono (codeAny_call_builtin (R := wants (fun r s₂ => r = .none ∧ ∃ h' tk, s₂ = { s with heap := h', toks := tk } ∧
          h'.SetOf (PySem.strKind prog w) s.heap.objs.size (fun k' => (dedS xs).any (· == k')) (dedS xs).length ∧
          (∀ b o, b < s.heap.objs.size → s.heap.get? b = some o → h'.get? b = some o)) E) PySem.F.called_set.init.plain PySem.F.entry_set_init (check_set_init_1 hT ?_)) fun r₂ s₂ hr₂ => ?_
      · obtain ⟨ol, hol, hcl, nl, hdl⟩ := hl
        obtain ⟨ocls, odict, odata, oslots⟩ := ol
        simp only at hcl hdl
        subst hcl; subst hdl
        have hol' : (s.heap.push { cls := .type "set", dict := none, data := .set #[] 0 (.fresh 0 0 led) }).get? l = some { cls := .type "list", dict := odict, data := .seq items nl, slots := oslots } := Heap.get?_push_of_some _ hol
        have hsls := PySem.F.sub_list_set
        have hslf := PySem.F.sub_list_frozenset
        have hne : (Value.type "list" == Value.type "dict") = false := by decide
        have hl1 : (s.heap.push { cls := .type "set", dict := none, data := .set #[] 0 (.fresh 0 0 led) }).IsList l items := ⟨_, hol', rfl, nl, rfl⟩
        unfold Builtin.«set.__init__» noKeywords Builtin.Frozenset.updateFrom
        generalize hPI : pyIter = PI
        wp_walk
        subst hPI
        refine wpAny_pyIter_list hl1 ?_
        refine wpAny_bind (wpAny_runValue ?_)
        have hlS : l < s.heap.objs.size := Heap.lt_size hol
        have hh3 : A.in1.in1.in1.handled = none := by simp [hh]
        have hneI : l ≠ (s.heap.push { cls := .type "set", dict := none, data := .set #[] 0 (.fresh 0 0 led) }).objs.size := by
          rw [Heap.size_push]; exact Nat.ne_of_lt (Nat.lt_succ_of_lt hlS)
        have hSf : s.heap.objs.size ∉ [(s.heap.push { cls := .type "set", dict := none, data := .set #[] 0 (.fresh 0 0 led) }).objs.size, l] := by
          rw [Heap.size_push]; simp only [List.mem_cons, List.mem_singleton, List.not_mem_nil, or_false, not_or]
          exact ⟨Nat.ne_of_lt (Nat.lt_succ_self _), Nat.ne_of_gt hlS⟩
        have hsz : xs.length = items.size := by rw [← StrsAre.len_eq hi, Array.length_toList]
        have htk : xs.take items.size = xs := by rw [← hsz]; exact List.take_length
        have hval : ∀ (i : Nat) (v : Value), items[i]? = some v → ∃ t, v = .str (xs.getD i Str.empty) t := fun i v hv => SS.strs_at hi i v (by rw [Array.getElem?_toList]; exact hv)
        refine set_loop_strs ((Walks.list hh3 _ l hneI items).toS) s.heap.objs.size
          hSf xs hsz (by rw [← hsz]; exact hb) hval (items.size - 0) 0 _ (by omega) (Nat.zero_le _)
          ⟨⟨_, Heap.get?_push_size _ rfl, rfl, rfl⟩, (hl1.push _)⟩ ?hS0 ?hR
        case hS0 =>
          have hget : ((s.heap.push { cls := .type "set", dict := none, data := .set #[] 0 (.fresh 0 0 led) }).push { cls := .type "list_iterator", data := .fields #[.ref l, .int 0 0] }).get? s.heap.objs.size
              = some { cls := .type "set", dict := none, data := .set #[] 0 (.fresh 0 0 led) } := Heap.get?_push_of_some _ hS
          exact PyProof.Rows.SetOf_congr ((PyProof.Rows.setObjOf_fresh (knd := PySem.strKind prog w) led).setOf hget (by unfold scanBound; omega)) (fun _ => rfl) rfl
        case hR =>
          intro s' hm hS'
          rw [htk] at hS'
          obtain ⟨h', g', d', tk', os'⟩ := s'
          have eg : g' = s.gens := hm.gens
          have ed : d' = s.drawn := hm.drawn
          have eo : os' = s.os := hm.os
          subst eg; subst ed; subst eo
          show wpAny _ _ _ _ _ _
          refine wpAny_pure ?_
          show wpAny _ _ (ret Value.none) _ _ _
          refine wpAny_pure ⟨rfl, h', tk', rfl, hS', fun b o hb e => ?_⟩
          have hb1 : b ≠ s.heap.objs.size := Nat.ne_of_lt hb
          have hb2 : b ≠ (s.heap.push { cls := .type "set", dict := none, data := .set #[] 0 (.fresh 0 0 led) }).objs.size := by
            rw [Heap.size_push]; exact Nat.ne_of_lt (Nat.lt_succ_of_lt hb)
          exact hm.heap b o (by simp only [List.mem_cons, List.mem_singleton, List.not_mem_nil, or_false, not_or]; exact ⟨hb1, hb2⟩) (Heap.get?_push_of_some _ (Heap.get?_push_of_some _ e))
      · cases r₂ with
        | error e => exact hr₂
        | ok fl₂ =>
          cases fl₂ with
          | ret r =>
            obtain ⟨rfl, h', tk, rfl, hS', hk'⟩ := hr₂
            repeat (any_goals (first | assumption | wp_step))
            exact h _ _ hS' hk'
          | _ => exact hr₂.elim
    | _ => exact hr.elim
end
section
variable {X : Cx} {G : Gh} {T : Tab} {CALL : CallT} {EX : QX}
/-- len(set(xs)), xs a list of texts -/
def tLenS (K : PySem.W.Frag) (ta : TE) : TE := fun σ H Q => ta σ H fun x H1 => ∃ l, ∃ xs : List Str, x = .ref l ∧ SqL K H1 l (xs.map V.str) ∧ xs.length ≤ 4000 ∧ Q (.int (dedS xs).length) H1
theorem pe_lenS {a : Expr} {ta : TE} {p p2 q pos : Pos} (hc : X.calm = true) (hg : Gl X "len") (hm : X.mg "len" = none) (hg2 : Gl X "set") (hm2 : X.mg "set" = none) (ha : PE X a ta)
    (na : starEach [a] X.env = (false, eval a X.env) :: starEach [] X.env) : PE X (.Call (.Name "len" p) [.Call (.Name "set" p2) [a] [] q] [] pos) (tLenS X.K ta) := by
  refine ⟨fun pins s σ H Q I h => ?_⟩
  refine Call_ (ld_blt I hg hm boot_len ?_)
  refine PyProof.Rows.callWith_builtin1 (PyProof.Rows.args_cons ?_ rfl) rfl rfl
  refine Call_ (ld_blt I hg2 hm2 boot_set ?_)
  refine PyProof.Rows.callWith_type1 (PyProof.Rows.args_cons (thn (ha.run pins s σ H _ I h) fun v s1 ⟨x, H1, I1, r1, q1⟩ => PyProof.Rows.args_nil ?_) na) na rfl
  obtain ⟨l, xs, rfl, hq, h1, q1⟩ := q1
  cases r1
  obtain ⟨its, r, pl, hz⟩ := I1.list hq
  have hs : StrsAre its.toArray.toList xs := by simpa using L2.strsAre_of r
  refine call_set_strs (I1.ok.hd hc) pl.isList hs (by unfold scanBound; omega) fun h' tk hS hk => ?_
  refine PyProof.Rows.args_nil ?_
  obtain ⟨o, es, ep, t, ho, hex, hd, _, _, _, hf, hn⟩ := hS
  have I2 : Inv X pins σ H1 { s1 with heap := h', toks := tk } := I1.kept fun b o e => hk b o (Heap.lt_size e) e
  have hle := dedS_le xs
  refine call_len_set ho hex hd hf (by rw [hn] <;> omega) ⟨.int (dedS xs).length, H1, I2.tok _, ⟨_, by rw [hn]⟩, q1⟩
theorem se_lenset {m : Bool} {p : E} {e : Expr} {p1 p2 p3 pos : Pos} (hK : X.K = G.K) (hc : X.calm = true) (hg : Gl X "len") (hm : X.mg "len" = none) (hg2 : Gl X "set") (hm2 : X.mg "set" = none) (he : PE X e (tE G (wpE T CALL EX p))) (hs : starEach [e] X.env = [(false, eval e X.env)]) :
    SE X G (wpE T CALL EX (.bi .lenset (.cons m p .nil))) (.Call (.Name "len" p1) [.Call (.Name "set" p2) [e] [] p3] [] pos) := by
  refine SE.ofv (pe_lenS hc hg hm hg2 hm2 he hs) (by intro _; rfl) fun σ H Q h => ?_
  obtain ⟨mu, Fz, env, st, Qp, x, h, k⟩ := h
  unfold wpE wpEs wpEs at h
  refine ⟨mu, Fz, env, st, _, x, h, fun mu1 Fz1 env1 st1 H1 r v x1 s1 rr1 f1 h1 => ?_⟩
  unfold drs drs at h1
  obtain ⟨d, g, h1⟩ := dr_ok x1 rr1 h1
  cases d <;> try exact h1.elim
  obtain ⟨a, vs, rfl, e, rv⟩ := g
  obtain ⟨ns, e1, h2, h1⟩ := oq_ok h1
  obtain rfl := rv.strs e1
  exact ⟨a, ns, rfl, SqL.of e, h2, k _ _ _ _ _ (.d (.int (dedS ns).length)) _ x1 s1 rfl trivial h1⟩
end
end PI
set_option maxHeartbeats 2000000
namespace PI
open PySem

/-! ### the check of a text against its AST -/
structure CC where
  N : List Str
  fns : List (Str × String)
  bis : List Str
  cons : List (Str × D)
  excs : List String

def isStar : Expr → Bool
  | .Starred _ _ => true
  | _ => false
def isSet : Expr → Bool
  | .Set _ _ _ => true
  | _ => false
def isComp : Expr → Bool
  | .ListComp _ _ _ _ => true
  | .SetComp _ _ _ _ => true
  | .DictComp _ _ _ _ _ => true
  | _ => false
def isTupE : Expr → Bool
  | .Tuple _ _ _ => true
  | _ => false
def baseOk : Expr → Bool
  | .Call _ [] [] _ => false
  | _ => true
def visB (sc : Scope) (x : Str) : Bool := match sc.names.lookup x with
  | some .local => true
  | some .cell => true
  | some .free => true
  | _ => false
def locB (sc : Scope) (x : Str) : Bool := match sc.names.lookup x with
  | some .local => true
  | some .cell => true
  | _ => false
def locB1 (sc : Scope) (x : Str) : Bool := match sc.names.lookup x with
  | some .local => true
  | _ => false
def glB (sc : Scope) (x : Str) : Bool := match sc.names.lookup x with
  | some .globalImplicit => !(x == ("__debug__" : Str))
  | _ => false
def fbF (fb : Option Scope) : Str → Bool := match fb with
  | none => fun _ => true
  | some scope => fun x => scope.names.lookup x == some .cell
mutual
def eqD : D → D → Bool
  | .non, .non => true
  | .bl a, .bl b => a == b
  | .int a, .int b => decide (a = b)
  | .str a, .str b => decide (a = b)
  | .tup a, .tup b => eqDs a b
  | _, _ => false
def eqDs : List D → List D → Bool
  | [], [] => true
  | a :: as, b :: bs => eqD a b && eqDs as bs
  | _, _ => false
end
def constB (c : CC) (sc : Scope) (d : D) (x : Expr) : Bool := match x with
  | .Constant .none _ _ => match d with
    | .non => true
    | _ => false
  | .Constant (.bool b) _ _ => match d with
    | .bl a => a == b
    | _ => false
  | .Constant (.int b) _ _ => match d with
    | .int a => decide (a = b)
    | _ => false
  | .Constant (.str b) _ _ => match d with
    | .str a => decide (a = b)
    | _ => false
  | .Name y _ => glB sc y && match c.cons.lookup y with
    | some d' => eqD d' d
    | none => false
  | _ => false
def slotB (c : CC) (sc : Scope) (i : Nat) (x : Expr) : Bool := match x with
  | .Name n _ => decide (c.N[i]? = some n) && visB sc n && !(n == ("__debug__" : Str)) && !(n == ("__classdict__" : Str))
  | _ => false
def tgNB (c : CC) (sc : Scope) (fb : Option Scope) (i : Nat) (x : Expr) : Bool := match x with
  | .Name n _ => decide (c.N[i]? = some n) && locB sc n && (fbF fb n || locB1 sc n)
  | _ => false
def tgNsB (c : CC) (sc : Scope) (fb : Option Scope) : List Nat → List Expr → Bool
  | [], [] => true
  | i :: is, x :: xs => tgNB c sc fb i x && tgNsB c sc fb is xs
  | _, _ => false
def tgB (c : CC) (sc : Scope) (fb : Option Scope) (tg : Tg) (x : Expr) : Bool := match tg with
  | .name i => tgNB c sc fb i x
  | .tup is => match x with
    | .Tuple es _ _ => tgNsB c sc fb is es
    | _ => false
def biNm : Bi → String
  | .len => "len"
  | .abs => "abs"
  | .max2 => "max"
  | .min2 => "min"
  | .max1 => "max"
  | .min1 => "min"
  | .sum => "sum"
  | .any => "any"
  | .all => "all"
  | .int1 => "int"
  | .list1 => "list"
  | .tuple1 => "tuple"
  | .str1 => "str"
  | .sorted1 => "sorted"
  | .lenset => "len"
  | .repr => "repr"
  | .divmod => "divmod"
def meNm : Me → String
  | .append => "append"
  | .pop0 => "pop"
  | .pop1 => "pop"
  | .insert => "insert"
  | .clear => "clear"
  | .reverse => "reverse"
  | .extend => "extend"
  | .index => "index"
  | .count => "count"
  | .join => "join"
  | .split => "split"
def me0 : Me → Bool
  | .pop0 => true
  | .clear => true
  | .reverse => true
  | _ => false
/-- a built-in name of the module -/
def bltB (c : CC) (sc : Scope) (n : String) (y : Str) : Bool := decide (y = Str.ofString n) && glB sc y && decide (y ∈ c.bis)
def tyB (c : CC) (sc : Scope) (t : Ty) (x : Expr) : Bool := match t with
  | .b n => (match x with
    | .Name y _ => bltB c sc n y && decide (n ∈ tyNames)
    | _ => false)
  | _ => false
def tysB (c : CC) (sc : Scope) : List Ty → List Expr → Bool
  | [], [] => true
  | t :: ts, x :: xs => tyB c sc t x && tysB c sc ts xs
  | _, _ => false
mutual
def chkE (c : CC) (sc : Scope) (fb : Option Scope) : E → Expr → Bool
  | .slot i, x => slotB c sc i x
  | .const d, x => constB c sc d x
  | .bin o p q, x => match x with
    | .BinOp a op b _ => decide (op = opOf o) && chkE c sc fb p a && chkE c sc fb q b
    | _ => false
  | .neg p, x => match x with
    | .UnaryOp .USub a _ => chkE c sc fb p a
    | _ => false
  | .cmp o p q, x => match x with
    | .Compare a [op] [b] _ => decide (op = cOf o) && !isSet b && chkE c sc fb p a && chkE c sc fb q b
    | _ => false
  | .chain o o2 p q r, x => match x with
    | .Compare a [op, op2] [b, d] _ => decide (op = cOf o) && decide (op2 = cOf o2) && !isSet d && chkE c sc fb p a && chkE c sc fb q b && chkE c sc fb r d
    | _ => false
  | .andv p q, x => match x with
    | .BoolOp .And (a :: b :: []) _ => chkE c sc fb p a && chkE c sc fb q b
    | .BoolOp .And (a :: b :: d :: r) pos => chkE c sc fb p a && chkE c sc fb q (.BoolOp .And (b :: d :: r) pos)
    | _ => false
  | .orv p q, x => match x with
    | .BoolOp .Or (a :: b :: []) _ => chkE c sc fb p a && chkE c sc fb q b
    | .BoolOp .Or (a :: b :: d :: r) pos => chkE c sc fb p a && chkE c sc fb q (.BoolOp .Or (b :: d :: r) pos)
    | _ => false
  | .notv p, x => match x with
    | .UnaryOp .Not a _ => chkE c sc fb p a
    | _ => false
  | .ite p q r, x => match x with
    | .IfExp t a b _ => chkE c sc fb p t && chkE c sc fb q a && chkE c sc fb r b
    | _ => false
  | .tup ps, x => match x with
    | .Tuple es _ _ => chkEs c sc fb ps es
    | _ => false
  | .lst ps, x => match x with
    | .List es _ => chkEs c sc fb ps es
    | _ => false
  | .idx p q, x => match x with
    | .Subscript a b _ => !isSlice b && chkE c sc fb p a && chkE c sc fb q b
    | _ => false
  | .slc p lo hi, x => match x with
    | .Subscript a (.Slice l u none _) _ => chkE c sc fb p a && chkO c sc fb lo l && chkO c sc fb hi u
    | _ => false
  | .comp elt m tg src ifs own, x => match x with
    | .ListComp e [⟨t, iter, fs, 0⟩] scope _ => chkSrc c sc fb src t iter && !isSet iter && L2.blkC c.N sc scope (own.map fun i => (c.N.getD i Str.empty, i)) && tgB c (L2.relS scope sc) (some scope) tg t && chkT c (L2.relS scope sc) (some scope) ifs fs &&
        chkE c (L2.relS scope sc) (some scope) elt e && (match tg with
          | .name i => own.contains i
          | .tup is => is.all fun i => own.contains i)
    | _ => false
  | .call f ps, x => match x with
    | .Call (.Name y _) args [] _ => glB sc y && decide (c.fns.lookup y = some f) && chkEs c sc fb ps args
    | _ => false
  | .bi b ps, x => match x with
    | .Call (.Name y _) (a :: as) [] _ => bltB c sc (biNm b) y && (match b with
      | .lenset => (match as with
        | [] => (match a with
          | .Call (.Name y2 _) (e :: es) [] _ => bltB c sc "set" y2 && (match es with
            | [] => (match ps with
              | .cons _ p .nil => !isStar e && chkE c sc fb p e
              | _ => false)
            | _ => false)
          | _ => false)
        | _ => false)
      | .repr => (match as with
        | [] => (match ps with
              | .cons _ p .nil => !isStar a && chkE c sc fb p a
              | _ => false)
        | _ => false)
      | _ => biPlain b && chkEs c sc fb ps (a :: as))
    | _ => false
  | .me m p ps, x => match x with
    | .Call (.Attribute o name apos) args [] cpos => decide (name = Str.ofString (meNm m)) && mePlain m && (apos.endLine == cpos.line) && baseOk o && chkE c sc fb p o && chkEs c sc fb ps args && decide (args.length < 29) && (args.isEmpty == me0 m)
    | _ => false
  | .isi p cs, x => match x with
    | .Call (.Name y _) (e :: t :: []) [] _ => bltB c sc "isinstance" y && !isStar e && chkE c sc fb p e && (match t with
      | .Tuple ts _ _ => tysB c sc cs ts && !cs.isEmpty && decide (cs.length ≤ 100)
      | t => (match cs with
        | [t1] => tyB c sc t1 t
        | _ => false))
    | _ => false
def chkEs (c : CC) (sc : Scope) (fb : Option Scope) : Es → List Expr → Bool
  | .nil, xs => xs.isEmpty
  | .cons _ p ps, xs => match xs with
    | x :: xs => !isStar x && chkE c sc fb p x && chkEs c sc fb ps xs
    | [] => false
def chkO (c : CC) (sc : Scope) (fb : Option Scope) : Eo → Option Expr → Bool
  | .none, x => x.isNone
  | .some p, x => match x with
    | some x => chkE c sc fb p x
    | none => false
def chkT (c : CC) (sc : Scope) (fb : Option Scope) : Eo → List Expr → Bool
  | .none, x => x.isEmpty
  | .some p, x => match x with
    | [x] => chkE c sc fb p x
    | _ => false
def chkSrc (c : CC) (sc : Scope) (fb : Option Scope) : Src → Expr → Expr → Bool
  | .val p, _, x => chkE c sc fb p x
  | .rng1 p, _, x => match x with
    | .Call (.Name y _) [a] [] _ => bltB c sc "range" y && !isStar a && chkE c sc fb p a
    | _ => false
  | .rng2 p q, _, x => match x with
    | .Call (.Name y _) [a, b] [] _ => bltB c sc "range" y && !isStar a && !isStar b && chkE c sc fb p a && chkE c sc fb q b
    | _ => false
  | .rng3 p q r, _, x => match x with
    | .Call (.Name y _) [a, b, d] [] _ => bltB c sc "range" y && !isStar a && !isStar b && !isStar d && chkE c sc fb p a && chkE c sc fb q b && chkE c sc fb r d
    | _ => false
  | .enum p, t, x => match x with
    | .Call (.Name y _) [a] [] _ => bltB c sc "enumerate" y && isTupE t && !isStar a && chkE c sc fb p a
    | _ => false
  | .zip p q, t, x => match x with
    | .Call (.Name y _) [a, b] [] _ => bltB c sc "zip" y && isTupE t && !isStar a && !isStar b && chkE c sc fb p a && chkE c sc fb q b
    | _ => false
end
/-- name = [..] on one line, the name a local -/
def swapB (sc : Scope) (y : Str) (py : Pos) (e : Expr) : Bool := match e with
  | .ListComp _ _ s pos => locB1 sc y && (py.line == pos.line) && !(s.names.any fun (n, k) => n == y && (k == .local || k == .cell))
  | _ => false
mutual
def chkS (c : CC) (sc : Scope) : S → Stmt → Bool
  | .asg tg p, x => match tg with
    | .name i => (match x with
      | .Assign [.Name y py] e pos => tgNB c sc none i (.Name y py) && chkE c sc none p e && (match e with
        | .ListComp _ _ _ _ => (match p with
          | .comp _ _ _ _ _ _ => true
          | _ => false)
        | e => !isComp e)
      | _ => false)
    | .tup is => (match x with
      | .Assign [.Tuple ts k py] e pos => tgB c sc none (.tup is) (.Tuple ts k py) && chkE c sc none p e && !isComp e && !isTupE e
      | _ => false)
  | .aug i o p, x => match x with
    | .AugAssign (.Name y py) op e _ => tgNB c sc none i (.Name y py) && decide (op = opOf o) && ipPlain o && chkE c sc none p e
    | _ => false
  | .sub po pi pe m, x => match x with
    | .Assign [.Subscript o i _] e _ => chkE c sc none po o && chkE c sc none pi i && chkE c sc none pe e && !isComp e && !isSlice i
    | _ => false
  | .expr p, x => match x with
    | .Expr e _ => !isComp e && chkE c sc none p e
    | _ => false
  | .ret p, x => match x with
    | .Return (some e) _ => chkE c sc none p e
    | _ => false
  | .retn, x => match x with
    | .Return none _ => true
    | _ => false
  | .iff p a b, x => match x with
    | .If t as bs _ => chkE c sc none p t && chkSs c sc a as && chkSs c sc b bs
    | _ => false
  | .whl p b, x => match x with
    | .While t bs [] _ => chkE c sc none p t && chkSs c sc b bs
    | _ => false
  | .forr tg src b, x => match x with
    | .For t iter bs [] _ => tgB c sc none tg t && chkSrc c sc none src t iter && !isSet iter && chkSs c sc b bs
    | _ => false
  | .raise n, x => match x with
    | .Raise (some (.Call (.Name y _) [.Constant (.str _) _ _] [] _)) none _ => decide (y = Str.ofString n) && glB sc y && decide (n ∈ c.excs)
    | _ => false
  | .pass, x => match x with
    | .Pass _ => true
    | _ => false
  | .brk, x => match x with
    | .Break _ => true
    | _ => false
  | .cnt, x => match x with
    | .Continue _ => true
    | _ => false
  | .cell _, _ => false
def chkSs (c : CC) (sc : Scope) : Ss → List Stmt → Bool
  | .nil, xs => xs.isEmpty
  | .cons s ss, xs => match s with
    | .cell _ => chkSs c sc ss xs
    | s => match xs with
      | x :: xs => chkS c sc s x && chkSs c sc ss xs
      | [] => false
end
end PI
set_option maxHeartbeats 4000000
namespace PI
open PySem PySem.Spec PyProof.Rows L2

/-! ### what a check gives -/
theorem vis_of {sc : Scope} {x : Str} (h : visB sc x = true) : Vis sc x := by
  unfold visB at h
  unfold Vis
  split at h
  · rename_i e; exact .inl e
  · rename_i e; exact .inr (.inl e)
  · rename_i e; exact .inr (.inr e)
  · cases h
theorem loc_of {sc : Scope} {x : Str} (h : locB sc x = true) : L2.Loc sc x := by
  unfold locB at h
  unfold L2.Loc
  split at h
  · rename_i e; exact .inl e
  · rename_i e; exact .inr e
  · cases h
theorem loc1_of {sc : Scope} {x : Str} (h : locB1 sc x = true) : sc.names.lookup x = some .local := by
  unfold locB1 at h
  split at h
  · assumption
  · cases h
theorem gl_of {sc : Scope} {x : Str} (h : glB sc x = true) : sc.names.lookup x = some .globalImplicit ∧ (x == ("__debug__" : Str)) = false := by
  unfold glB at h
  split at h
  · rename_i e; exact ⟨e, by simpa using h⟩
  · cases h
theorem star1 {e : Expr} {es : List Expr} {env : Env} (h : isStar e = false) : starEach (e :: es) env = (false, eval e env) :: starEach es env := by
  cases e <;> first
    | rfl
    | (cases h; done)
theorem star0 {env : Env} : starEach [] env = [] := rfl
theorem backPlain {env : Env} {pos : Pos} : ∀ {es : List Expr}, (∀ e ∈ es, isStar e = false) → (backTo pos (starEach es env)).any (·.1) = false
  | [], _ => rfl
  | e :: es, h => by
    rw [star1 (h e List.mem_cons_self)]
    show (false || (backTo pos (starEach es env)).any (·.1)) = false
    rw [backPlain fun e he => h e (List.mem_cons_of_mem _ he)]
    rfl
theorem backAll {env : Env} {pos : Pos} : ∀ {es : List Expr}, (∀ e ∈ es, isStar e = false) → (backTo pos (starEach es env)).all (fun x => !x.1) = true
  | [], _ => rfl
  | e :: es, h => by
    rw [star1 (h e List.mem_cons_self)]
    show (true && (backTo pos (starEach es env)).all (fun x => !x.1)) = true
    rw [backAll fun e he => h e (List.mem_cons_of_mem _ he)]
    rfl
theorem chkEs_star {c : CC} {sc : Scope} {fb : Option Scope} : ∀ {ps : Es} {es : List Expr}, chkEs c sc fb ps es = true → ∀ e ∈ es, isStar e = false
  | .nil, es, h => by
    unfold chkEs at h
    cases es with
    | nil => intro e he; cases he
    | cons => cases h
  | .cons m p ps, es, h => by
    unfold chkEs at h
    cases es with
    | nil => cases h
    | cons x xs =>
      simp only [Bool.and_eq_true, Bool.not_eq_true'] at h
      intro e he
      cases he with
      | head => exact h.1.1
      | tail _ he => exact chkEs_star h.2 e he
mutual
theorem eqD_ok : ∀ {a b : D}, eqD a b = true → a = b
  | .non, b, h => by cases b <;> first | rfl | cases h
  | .bl a, b, h => by cases b <;> first | (unfold eqD at h; rw [beq_iff_eq.mp h]) | (unfold eqD at h; cases h)
  | .int a, b, h => by cases b <;> first | (unfold eqD at h; rw [of_decide_eq_true h]) | (unfold eqD at h; cases h)
  | .str a, b, h => by cases b <;> first | (unfold eqD at h; rw [of_decide_eq_true h]) | (unfold eqD at h; cases h)
  | .tup a, b, h => by cases b <;> first | (unfold eqD at h; rw [eqDs_ok h]) | (unfold eqD at h; cases h)
  | .lst a, b, h => by unfold eqD at h; cases h
  | .scr a, b, h => by unfold eqD at h; cases h
  | .ref a, b, h => by unfold eqD at h; cases h
  | .dic0, b, h => by unfold eqD at h; cases h
  | .exc _ _, b, h => by unfold eqD at h; cases h
theorem eqDs_ok : ∀ {a b : List D}, eqDs a b = true → a = b
  | [], b, h => by
    cases b with
    | nil => rfl
    | cons => unfold eqDs at h; cases h
  | x :: xs, b, h => by
    cases b with
    | nil => unfold eqDs at h; cases h
    | cons y ys =>
      unfold eqDs at h
      simp only [Bool.and_eq_true] at h
      rw [eqD_ok h.1, eqDs_ok h.2]
end
structure CCx (X : Cx) (G : Gh) (T : Tab) (k : Nat) (EX : QX) (c : CC) (sc : Scope) (fb : Option Scope) : Prop where
  hK : X.K = G.K
  hmg : X.mg = G.mg
  hc : X.calm = true
  nd : X.N.Nodup
  hN : X.N = c.N
  hsc : X.env.scope = sc
  kind : sc.kind = .function
  hg : X.A.guards = some []
  room : Room k X.A
  tk : Takes X (WX2 G EX)
  fnb : X.fn = fbF fb
  fns : ∀ y f, c.fns.lookup y = some f → ∃ a fd ps d, FnG X.prog X.w X.K X.mg X.base k a fd ps (spF G.K G.mg T k f ps.length) ∧ X.mg y = some (.ref a) ∧ PySem.W.keepIn X.K (.ref a) = true ∧ Binds X.K fd ps [] ∧ T.fn f = some d ∧ d.np = ps.length
  bis : ∀ y ∈ c.bis, X.mg y = none
  cons : ∀ y d, c.cons.lookup y = some d → ∃ v u, X.mg y = some u ∧ RelV v u ∧ ∀ mu Fz H, RV G.K G.mg mu Fz H d v
  excs : ∀ e ∈ c.excs, ExcK X.K X.mg e
section
variable {X : Cx} {G : Gh} {T : Tab} {k : Nat} {EX : QX} {c : CC} {sc : Scope} {fb : Option Scope}
theorem CCx.hu (h : CCx X G T k EX c sc fb) : X.A.units + 65 < cLine := by have := h.room.un; omega
theorem CCx.gl (h : CCx X G T k EX c sc fb) {x : Str} (e : glB sc x = true) : Gl X x := by
  show X.env.scope.names.lookup x = _
  rw [h.hsc]
  exact (gl_of e).1
theorem CCx.blk (h : CCx X G T k EX c sc fb) {scope : Scope} (hk : scope.kind = .function) (s : Shared) (H : Hp) (C : Addr) (cl : List (Str × Addr)) (fp : List Addr) :
    CCx (X.blk s H scope (compEnvC scope cl C X.env) fp) G T k (fun _ _ _ => False) c (relS scope sc) (some scope) :=
  ⟨h.hK, h.hmg, h.hc, h.nd, h.hN, by rw [← h.hsc]; rfl, hk, h.hg, h.room, fun u s' ⟨a, B, sI, pins, σ, H, cls, d, e, I, nb, up, sky, na, os, ag, w⟩ => by
    obtain ⟨mu, Fz, env, st, ex, _, _, w⟩ := w
    exact w.elim, rfl, h.fns, h.bis, h.cons, h.excs⟩
theorem CCx.blt (h : CCx X G T k EX c sc fb) {n : String} {y : Str} (e : bltB c sc n y = true) : y = Str.ofString n ∧ Gl X y ∧ X.mg y = none ∧ (y == ("__debug__" : Str)) = false := by
  unfold bltB at e
  simp only [Bool.and_eq_true, decide_eq_true_eq] at e
  exact ⟨e.1.1, h.gl e.1.2, h.bis y e.2, (gl_of e.1.2).2⟩
theorem slot_ok (h : CCx X G T k EX c sc fb) {i : Nat} {x : Expr} (e : slotB c sc i x = true) : SE X G (wpE T (wpC T k) EX (.slot i)) x := by
  unfold slotB at e
  split at e
  · simp only [Bool.and_eq_true, decide_eq_true_eq, Bool.not_eq_true'] at e
    obtain ⟨⟨⟨e1, e2⟩, e3⟩, e4⟩ := e
    exact se_slot (by rw [h.hN]; exact e1) (by rw [h.hsc]; exact vis_of e2) e3 e4
  · cases e
theorem const_ok (h : CCx X G T k EX c sc fb) {d : D} {x : Expr} (e : constB c sc d x = true) : SE X G (wpE T (wpC T k) EX (.const d)) x := by
  unfold constB at e
  split at e
  · cases d <;> first | (cases e; done) | exact se_const pe_non (by intro _; rfl) fun _ _ _ => rfl
  · cases d <;> first | (cases e; done) | (rw [beq_iff_eq.mp e]; exact se_const pe_bl (by intro _; rfl) fun _ _ _ => rfl)
  · cases d <;> first | (cases e; done) | (rw [of_decide_eq_true e]; exact se_const pe_int (by intro _; rfl) fun _ _ _ => rfl)
  · cases d <;> first | (cases e; done) | (rw [of_decide_eq_true e]; exact se_const pe_str (by intro _; rfl) fun _ _ _ => rfl)
  · simp only [Bool.and_eq_true] at e
    obtain ⟨e1, e2⟩ := e
    split at e2
    · rename_i d' he
      rw [← eqD_ok e2]
      obtain ⟨v, u, h1, h2, h3⟩ := h.cons _ _ he
      exact se_const (pe_glob (h.gl e1) h1 h2 (gl_of e1).2) (by intro _; rfl) h3
    · cases e2
  · cases e
theorem tgN_ok (h : CCx X G T k EX c sc fb) {i : Nat} {x : Expr} (e : tgNB c sc fb i x = true) : ∃ y p, x = .Name y p ∧ X.N[i]? = some y ∧ Loc X.env.scope y ∧ (X.fn y = true ∨ X.env.scope.names.lookup y = some .local) ∧ PG X x (gName i) := by
  unfold tgNB at e
  split at e
  · simp only [Bool.and_eq_true, decide_eq_true_eq, Bool.or_eq_true] at e
    obtain ⟨⟨e1, e2⟩, e3⟩ := e
    rename_i y p
    have h1 : X.N[i]? = some y := by rw [h.hN]; exact e1
    have h2 : Loc X.env.scope y := by rw [h.hsc]; exact loc_of e2
    have h3 : X.fn y = true ∨ X.env.scope.names.lookup y = some .local := by
      rw [h.fnb, h.hsc]
      exact e3.imp id loc1_of
    exact ⟨y, p, rfl, h1, h2, h3, pg_name h.nd h1 h2 h3⟩
  · cases e
theorem tgNs_ok (h : CCx X G T k EX c sc fb) : ∀ {is : List Nat} {es : List Expr}, tgNsB c sc fb is es = true → PGs X es (gNs is) ∧ (assignEach es X.env).length = is.length ∧ (assignEach es X.env).findIdx? (·.1) = none
  | [], [], _ => ⟨pgs_nil, rfl, rfl⟩
  | [], _ :: _, e => by cases e
  | _ :: _, [], e => by cases e
  | i :: is, x :: xs, e => by
    unfold tgNsB at e
    simp only [Bool.and_eq_true] at e
    obtain ⟨y, p, rfl, _, _, _, h2⟩ := tgN_ok h e.1
    obtain ⟨h3, h4, h5⟩ := tgNs_ok h e.2
    refine ⟨pgs_cons h2 h3 rfl, ?_, ?_⟩
    · show (assignEach xs X.env).length + 1 = is.length + 1
      rw [h4]
    · show List.findIdx? (·.1) ((false, assign (.Name y p) X.env) :: assignEach xs X.env) = none
      rw [List.findIdx?_cons, h5]
      rfl
theorem tg_ok (h : CCx X G T k EX c sc fb) {tg : Tg} {x : Expr} (e : tgB c sc fb tg x = true) : PG X x (gT G.K tg) := by
  unfold tgB at e
  cases tg with
  | name i =>
    obtain ⟨_, _, _, _, _, _, h2⟩ := tgN_ok h e
    exact h2
  | tup is =>
    simp only at e
    split at e
    · obtain ⟨h3, h4, h5⟩ := tgNs_ok h e
      show PG X _ (gTup G.K is.length (gNs is))
      rw [← h.hK]
      exact pg_tup (X := X) (n := is.length) h.hc h3 h4 h5
    · cases e
theorem bty_ok (h : CCx X G T k EX c sc fb) {t : Ty} {x : Expr} (e : tyB c sc t x = true) : ∃ n p, t = .b n ∧ x = .Name (Str.ofString n) p ∧ BTy X n := by
  unfold tyB at e
  split at e
  · rename_i n
    split at e
    · simp only [Bool.and_eq_true, decide_eq_true_eq] at e
      obtain ⟨e1, e2⟩ := e
      obtain ⟨rfl, h1, h2, h3⟩ := h.blt e1
      refine ⟨n, _, rfl, rfl, e2, h1, h2, ?_, ?_, h3⟩
      · have : ∀ n ∈ tyNames, bootBuiltins (Str.ofString n) = some (.type n) := by decide +kernel
        exact this n e2
      · have : ∀ n ∈ tyNames, Str.ofString n ≠ "__name__" := by decide +kernel
        exact this n e2
    · cases e
  · cases e
theorem btys_ok (h : CCx X G T k EX c sc fb) : ∀ {ts : List Ty} {xs : List Expr}, tysB c sc ts xs = true → ∃ ns, ts = ns.map Ty.b ∧ PAty X ns xs ∧ ∀ n ∈ ns, n ∈ tyNames
  | [], [], _ => ⟨[], rfl, paty_nil, fun _ h => nomatch h⟩
  | [], _ :: _, e => by cases e
  | _ :: _, [], e => by cases e
  | t :: ts, x :: xs, e => by
    unfold tysB at e
    simp only [Bool.and_eq_true] at e
    obtain ⟨n, p, rfl, rfl, h1⟩ := bty_ok h e.1
    obtain ⟨ns, rfl, h2, h3⟩ := btys_ok h e.2
    exact ⟨n :: ns, rfl, paty_cons h1 h2, fun m hm => by
      cases hm with
      | head => exact h1.ok
      | tail _ hm => exact h3 m hm⟩
theorem base_ok {o : Expr} {name : Str} {env : Env} (h : baseOk o = true) : attributeBase o name env (eval o env) = eval o env := by
  cases o <;> try rfl
  rename_i f args kw pos
  cases args with
  | nil => cases kw with
    | nil => cases h
    | cons a b => cases f <;> rfl
  | cons a as => cases f <;> rfl
theorem folded_ok {e : Expr} {env : Env} (h : isSet e = false) (x : Value) : foldedSetIterable e env x = pure x := by
  cases e <;> first
    | rfl
    | (cases h; done)
end
/-- a comprehension's parts -/
structure CompOk (X : Cx) (G : Gh) (T : Tab) (k : Nat) (EX : QX) (elt : E) (tg : Tg) (src : Src) (ifs : Eo) (own : List Nat) (e : Expr) (t iter : Expr) (fs : List Expr) (scope : Scope) : Prop where
  ow : ∃ ow : List (Str × Nat), ow.map (·.2) = own ∧ BlkOk X.N X.env.scope scope ow
  hi : L2.PI X t iter (tS G (wpSrc T (wpC T k) EX src))
  hg : ∀ (s : Shared) (H : Hp) (C : Addr) (cl : List (Str × Addr)) (fp : List Addr), PG (X.blk s H scope (compEnvC scope cl C X.env) fp) t (gT G.K tg)
  ht : ∀ (s : Shared) (H : Hp) (C : Addr) (cl : List (Str × Addr)) (fp : List Addr), PTs (X.blk s H scope (compEnvC scope cl C X.env) fp) fs (tT G (wpT T (wpC T k) (fun _ _ _ => False) ifs))
  he : ∀ (s : Shared) (H : Hp) (C : Addr) (cl : List (Str × Addr)) (fp : List Addr), PE (X.blk s H scope (compEnvC scope cl C X.env) fp) e (tE G (wpE T (wpC T k) (fun _ _ _ => False) elt))
  hs : ∀ x, foldedSetIterable iter X.env x = pure x
  htg : ∀ i, tgIn tg i → i ∈ own
theorem CompOk.se {X : Cx} {G : Gh} {T : Tab} {k : Nat} {EX : QX} {elt : E} {m : Bool} {tg : Tg} {src : Src} {ifs : Eo} {own : List Nat} {e t iter : Expr} {fs : List Expr} {scope : Scope} {pos : Pos} (o : CompOk X G T k EX elt tg src ifs own e t iter fs scope) (hK : X.K = G.K) (hc : X.calm = true) (hN : X.N.Nodup) :
    SE X G (wpE T (wpC T k) EX (.comp elt m tg src ifs own)) (.ListComp e [⟨t, iter, fs, 0⟩] scope pos) := by
  obtain ⟨ow, rfl, hb⟩ := o.ow
  exact se_comp hK hc hN o.hi hb o.hg o.ht o.he o.hs o.htg
section
variable {G : Gh} {T : Tab} {k : Nat} {c : CC}
theorem plainBi {b : Bi} (hp : biPlain b = true) : bootBuiltins (Str.ofString (biNm b)) = some (biF b) ∧ Str.ofString (biNm b) ≠ "__name__" := by
  have h1 : ∀ b ∈ [Bi.len, .abs, .max2, .min2, .max1, .min1, .sum, .any, .all, .int1, .list1, .tuple1], bootBuiltins (Str.ofString (biNm b)) = some (biF b) ∧ Str.ofString (biNm b) ≠ "__name__" := by decide +kernel
  cases b <;> first | (cases hp; done) | exact h1 _ (by simp)
set_option maxHeartbeats 8000000 in
mutual
theorem okE : ∀ (p : E) {X : Cx} {EX : QX} {sc : Scope} {fb : Option Scope} (h : CCx X G T k EX c sc fb) (x : Expr), chkE c sc fb p x = true → SE X G (wpE T (wpC T k) EX p) x ∧ ∀ op vs pos, x = .BoolOp op vs pos → SW X G (wpE T (wpC T k) EX p) x
  | .slot i, X, EX, sc, fb, h, x, e => by
    unfold chkE at e
    refine ⟨slot_ok h e, fun op vs pos z => ?_⟩
    subst z; cases e
  | .const d, X, EX, sc, fb, h, x, e => by
    unfold chkE at e
    refine ⟨const_ok h e, fun op vs pos z => ?_⟩
    subst z; cases e
  | .bin o p q, X, EX, sc, fb, h, x, e => by
    unfold chkE at e
    split at e
    · simp only [Bool.and_eq_true, decide_eq_true_eq] at e
      obtain ⟨⟨rfl, e1⟩, e2⟩ := e
      exact ⟨se_bin h.hK (okE p h _ e1).1 (okE q h _ e2).1, fun _ _ _ z => nomatch z⟩
    · cases e
  | .neg p, X, EX, sc, fb, h, x, e => by
    unfold chkE at e
    split at e
    · exact ⟨se_neg (okE p h _ e).1, fun _ _ _ z => nomatch z⟩
    · cases e
  | .cmp o p q, X, EX, sc, fb, h, x, e => by
    unfold chkE at e
    split at e
    · simp only [Bool.and_eq_true, decide_eq_true_eq, Bool.not_eq_true'] at e
      obtain ⟨⟨⟨rfl, e0⟩, e1⟩, e2⟩ := e
      exact ⟨se_cmp h.hK h.hu (fun _ _ _ z => by subst z; cases e0) (okE p h _ e1).1 (okE q h _ e2).1, fun _ _ _ z => nomatch z⟩
    · cases e
  | .chain o o2 p q r, X, EX, sc, fb, h, x, e => by
    unfold chkE at e
    split at e
    · simp only [Bool.and_eq_true, decide_eq_true_eq, Bool.not_eq_true'] at e
      obtain ⟨⟨⟨⟨⟨rfl, rfl⟩, e0⟩, e1⟩, e2⟩, e3⟩ := e
      exact ⟨se_chain h.hK h.hu (fun _ _ _ z => by subst z; cases e0) (okE p h _ e1).1 (okE q h _ e2).1 (okE r h _ e3).1, fun _ _ _ z => nomatch z⟩
    · cases e
  | .andv p q, X, EX, sc, fb, h, x, e => by
    unfold chkE at e
    split at e
    · rename_i a b pos
      simp only [Bool.and_eq_true] at e
      have w : SW X G (wpE T (wpC T k) EX (.andv p q)) (.BoolOp .And [a, b] pos) := sw_and (okE p h _ e.1).1 (sw_and1 (pos := pos) (okE q h _ e.2).1)
      exact ⟨w.se, fun _ _ _ _ => w⟩
    · simp only [Bool.and_eq_true] at e
      have w : SW X G (wpE T (wpC T k) EX (.andv p q)) (.BoolOp .And _ _) := sw_and (okE p h _ e.1).1 ((okE q h _ e.2).2 _ _ _ rfl)
      exact ⟨w.se, fun _ _ _ _ => w⟩
    · cases e
  | .orv p q, X, EX, sc, fb, h, x, e => by
    unfold chkE at e
    split at e
    · rename_i a b pos
      simp only [Bool.and_eq_true] at e
      have w : SW X G (wpE T (wpC T k) EX (.orv p q)) (.BoolOp .Or [a, b] pos) := sw_or (okE p h _ e.1).1 (sw_or1 (pos := pos) (okE q h _ e.2).1)
      exact ⟨w.se, fun _ _ _ _ => w⟩
    · simp only [Bool.and_eq_true] at e
      have w : SW X G (wpE T (wpC T k) EX (.orv p q)) (.BoolOp .Or _ _) := sw_or (okE p h _ e.1).1 ((okE q h _ e.2).2 _ _ _ rfl)
      exact ⟨w.se, fun _ _ _ _ => w⟩
    · cases e
  | .notv p, X, EX, sc, fb, h, x, e => by
    unfold chkE at e
    split at e
    · exact ⟨se_not (okE p h _ e).1, fun _ _ _ z => nomatch z⟩
    · cases e
  | .ite p q r, X, EX, sc, fb, h, x, e => by
    unfold chkE at e
    split at e
    · simp only [Bool.and_eq_true] at e
      exact ⟨se_ite (okE p h _ e.1.1).1 (okE q h _ e.1.2).1 (okE r h _ e.2).1, fun _ _ _ z => nomatch z⟩
    · cases e
  | .tup ps, X, EX, sc, fb, h, x, e => by
    unfold chkE at e
    split at e
    · exact ⟨se_tup (okEs ps h _ e), fun _ _ _ z => nomatch z⟩
    · cases e
  | .lst ps, X, EX, sc, fb, h, x, e => by
    unfold chkE at e
    split at e
    · exact ⟨se_lst (okEs ps h _ e), fun _ _ _ z => nomatch z⟩
    · cases e
  | .idx p q, X, EX, sc, fb, h, x, e => by
    unfold chkE at e
    split at e
    · simp only [Bool.and_eq_true, Bool.not_eq_true'] at e
      exact ⟨se_idx h.hK e.1.1 (okE p h _ e.1.2).1 (okE q h _ e.2).1, fun _ _ _ z => nomatch z⟩
    · cases e
  | .slc p lo hi, X, EX, sc, fb, h, x, e => by
    unfold chkE at e
    split at e
    · simp only [Bool.and_eq_true] at e
      exact ⟨se_slc h.hK (okE p h _ e.1.1).1 (okO lo h _ e.1.2) (okO hi h _ e.2), fun _ _ _ z => nomatch z⟩
    · cases e
  | .comp elt m tg src ifs own, X, EX, sc, fb, h, x, e => by
    unfold chkE at e
    split at e
    · rename_i e0 t iter fs scope pos
      simp only [Bool.and_eq_true, Bool.not_eq_true'] at e
      obtain ⟨⟨⟨⟨⟨⟨e1, e2⟩, e3⟩, e4⟩, e5⟩, e6⟩, e7⟩ := e
      have hb := blkOk_by e3
      have hk := hb.kind
      have o : CompOk X G T k EX elt tg src ifs own e0 t iter fs scope := by
        refine ⟨⟨own.map fun i => (c.N.getD i Str.empty, i), by rw [List.map_map]; exact List.map_id _, by rw [h.hN, h.hsc]; exact hb⟩, okSrc src h _ _ e1, fun s H C cl fp => tg_ok (h.blk hk s H C cl fp) e4, fun s H C cl fp => okT ifs (h.blk hk s H C cl fp) _ e5, fun s H C cl fp => (okE elt (h.blk hk s H C cl fp) _ e6).1.ev, fun x => folded_ok e2 x, fun i hi => ?_⟩
        cases tg with
        | name j =>
          obtain rfl : j = i := hi
          simpa using e7
        | tup is =>
          have hi : i ∈ is := hi
          have := List.all_eq_true.mp e7 i hi
          simpa using this
      exact ⟨o.se h.hK h.hc h.nd, fun _ _ _ z => nomatch z⟩
    · cases e
  | .call f ps, X, EX, sc, fb, h, x, e => by
    unfold chkE at e
    split at e
    · rename_i y p args pos
      simp only [Bool.and_eq_true, decide_eq_true_eq] at e
      obtain ⟨⟨e1, e2⟩, e3⟩ := e
      obtain ⟨a, fd, qs, d, F, h1, h2, h3, h4, h5⟩ := h.fns _ _ e2
      refine ⟨?_, fun _ _ _ z => nomatch z⟩
      have st := chkEs_star e3
      have ha := okEs ps h _ e3
      cases args with
      | nil =>
        cases ps with
        | cons => unfold chkEs at e3; cases e3
        | nil =>
          by_cases hz : qs.length = 0
          · exact se_call0 h.hK h.hmg F h.room h.hg h3 h.tk (h.gl e1) h1 h2 hz (gl_of e1).2
          · refine SE.ofv (t := fun _ _ _ => False) ⟨fun _ _ _ _ _ _ z => z.elim⟩ (by intro _; rfl) fun σ H Q ⟨mu, Fz, env, st, Qp, xr, hw, kk⟩ => ?_
            unfold wpE wpEs escs at hw
            have := wpC_np hw h4
            rw [h5] at this
            exact hz this.symm
      | cons e0 es =>
        exact se_call h.hK h.hmg F h.room h.hg h3 h.tk (h.gl e1) h1 h2 h4 h5 ha (gl_of e1).2 (star1 (st _ List.mem_cons_self)) (backPlain fun e he => st e (List.mem_cons_of_mem _ he))
    · cases e
  | .bi b ps, X, EX, sc, fb, h, x, e => by
    unfold chkE at e
    split at e
    · rename_i y p a as pos
      simp only [Bool.and_eq_true] at e
      obtain ⟨e1, e2⟩ := e
      obtain ⟨rfl, g1, g2, g3⟩ := h.blt e1
      refine ⟨?_, fun _ _ _ z => nomatch z⟩
      have plain : biPlain b = true → chkEs c sc fb ps (a :: as) = true → SE X G (wpE T (wpC T k) EX (.bi b ps)) (.Call (.Name (Str.ofString (biNm b)) p) (a :: as) [] pos) := fun hp e3 => by
        have st := chkEs_star e3
        have ha := okEs ps h _ e3
        obtain ⟨b1, b2⟩ := plainBi hp
        cases hf : biF b with
        | builtin id => exact se_biB h.hK h.hc hp hf g1 g2 (by rw [b1, hf]) ha b2 g3 (star1 (st _ List.mem_cons_self)) (backPlain fun e he => st e (List.mem_cons_of_mem _ he))
        | type id => exact se_biT h.hK h.hc hp hf g1 g2 (by rw [b1, hf]) ha b2 g3 (star1 (st _ List.mem_cons_self)) (backPlain fun e he => st e (List.mem_cons_of_mem _ he))
        | _ => cases b <;> (cases hf; done)
      cases b with
      | lenset =>
        simp only at e2
        split at e2
        · split at e2
          · rename_i y2 p2 e0 es p3
            simp only [Bool.and_eq_true] at e2
            obtain ⟨e3, e4⟩ := e2
            obtain ⟨rfl, g4, g5, g6⟩ := h.blt e3
            split at e4
            · split at e4
              · rename_i mm q0
                simp only [Bool.and_eq_true, Bool.not_eq_true'] at e4
                exact se_lenset h.hK h.hc g1 g2 g4 g5 (okE q0 h _ e4.2).1.ev (star1 e4.1)
              · cases e4
            · cases e4
          · cases e2
        · cases e2
      | repr =>
        simp only at e2
        split at e2
        · split at e2
          · rename_i mm q0
            simp only [Bool.and_eq_true, Bool.not_eq_true'] at e2
            exact se_repr h.hK h.hg h.hu g1 g2 (okE q0 h _ e2.2).1.ev (star1 e2.1)
          · cases e2
        · cases e2
      | _ => exact plain (Bool.and_eq_true_iff.mp e2).1 (Bool.and_eq_true_iff.mp e2).2
    · cases e
  | .me m p ps, X, EX, sc, fb, h, x, e => by
    unfold chkE at e
    split at e
    · rename_i o name apos args cpos
      simp only [Bool.and_eq_true, decide_eq_true_eq] at e
      obtain ⟨⟨⟨⟨⟨⟨⟨rfl, hp⟩, hl⟩, hb⟩, e1⟩, e2⟩, hf⟩, h0⟩ := e
      refine ⟨?_, fun _ _ _ z => nomatch z⟩
      have ho := (okE p h _ e1).1
      have st := chkEs_star e2
      have ha := okEs ps h _ e2
      cases args with
      | nil =>
        cases ps with
        | cons => unfold chkEs at e2; cases e2
        | nil =>
          cases m <;> first
            | (cases hp; done)
            | (cases h0; done)
            | exact se_me0 hp h.hK rfl rfl F.plainAttrs_list F.slot_list_pop F.type_list_pop ho (base_ok hb) hl
            | exact se_me0 hp h.hK rfl rfl F.plainAttrs_list F.slot_list_clear F.type_list_clear ho (base_ok hb) hl
            | exact se_me0 hp h.hK rfl rfl F.plainAttrs_list F.slot_list_reverse F.type_list_reverse ho (base_ok hb) hl
      | cons e0 es =>
        have hfew : ((backTo cpos (starEach (e0 :: es) X.env)).all (fun x => !x.1) && (backToKw cpos (keywordEach [] X.env)).all (fun x => x.1.isSome)
          && decide ((e0 :: es).length + ([] : List Keyword).length + (if ([] : List Keyword).isEmpty then 0 else 1) < 30)) = true := by
          rw [backAll st]
          have : decide ((e0 :: es).length + ([] : List Keyword).length + (if ([] : List Keyword).isEmpty then 0 else 1) < 30) = true := by
            refine decide_eq_true ?_
            show (e0 :: es).length + 0 + 0 < 30
            omega
          rw [this]
          rfl
        have hs := star1 (env := X.env) (es := es) (st _ List.mem_cons_self)
        have hpl := backPlain (env := X.env) (pos := cpos) (es := es) fun e he => st e (List.mem_cons_of_mem _ he)
        cases m <;> first
          | (cases hp; done)
          | (cases h0; done)
          | exact se_me hp h.hK rfl rfl F.plainAttrs_list F.slot_list_append F.type_list_append ho ha (base_ok hb) hfew hl hs hpl
          | exact se_me hp h.hK rfl rfl F.plainAttrs_list F.slot_list_pop F.type_list_pop ho ha (base_ok hb) hfew hl hs hpl
          | exact se_me hp h.hK rfl rfl F.plainAttrs_list F.slot_list_index F.type_list_index ho ha (base_ok hb) hfew hl hs hpl
          | exact se_me hp h.hK rfl rfl F.plainAttrs_list F.slot_list_count F.type_list_count ho ha (base_ok hb) hfew hl hs hpl
          | exact se_me hp h.hK rfl rfl F.plainAttrs_list F.slot_list_insert F.type_list_insert ho ha (base_ok hb) hfew hl hs hpl
          | exact se_me hp h.hK (by decide) rfl PySem.F.plainAttrs_str PySem.F.slot_str_join PySem.F.type_str_join ho ha (base_ok hb) hfew hl hs hpl
    · cases e
  | .isi p cs, X, EX, sc, fb, h, x, e => by
    unfold chkE at e
    split at e
    · rename_i y p1 e0 t pos
      simp only [Bool.and_eq_true, Bool.not_eq_true'] at e
      obtain ⟨⟨⟨e1, e2⟩, e3⟩, e4⟩ := e
      obtain ⟨rfl, g1, g2, g3⟩ := h.blt e1
      have he := (okE p h _ e3).1.ev
      refine ⟨?_, fun _ _ _ z => nomatch z⟩
      split at e4
      · rename_i ts kk p2
        simp only [Bool.and_eq_true, decide_eq_true_eq] at e4
        obtain ⟨⟨e5, e6⟩, e7⟩ := e4
        obtain ⟨ns, rfl, h1, h2⟩ := btys_ok h e5
        refine se_isiT h.hK g1 g2 he h2 (fun z => by subst z; cases e6) (by simpa using e7) h1 (star1 e2) rfl
      · split at e4
        · obtain ⟨n, p3, rfl, rfl, h1⟩ := bty_ok h e4
          exact se_isi h.hK g1 g2 he h1 (star1 e2)
        · cases e4
    · cases e
theorem okEs : ∀ (ps : Es) {X : Cx} {EX : QX} {sc : Scope} {fb : Option Scope} (h : CCx X G T k EX c sc fb) (xs : List Expr), chkEs c sc fb ps xs = true → PA X xs (tA G (wpEs T (wpC T k) EX ps))
  | .nil, X, EX, sc, fb, h, xs, e => by
    unfold chkEs at e
    cases xs with
    | nil => exact sa_nil
    | cons => cases e
  | .cons m p ps, X, EX, sc, fb, h, xs, e => by
    unfold chkEs at e
    cases xs with
    | nil => cases e
    | cons x xs =>
      simp only [Bool.and_eq_true, Bool.not_eq_true'] at e
      exact sa_cons (okE p h _ e.1.2).1.ev (okEs ps h _ e.2) (star1 e.1.1)
theorem okO : ∀ (p : Eo) {X : Cx} {EX : QX} {sc : Scope} {fb : Option Scope} (h : CCx X G T k EX c sc fb) (x : Option Expr), chkO c sc fb p x = true → PO X x (tO G (wpO T (wpC T k) EX p))
  | .none, X, EX, sc, fb, h, x, e => by
    unfold chkO at e
    cases x with
    | none => exact so_none
    | some => cases e
  | .some p, X, EX, sc, fb, h, x, e => by
    unfold chkO at e
    cases x with
    | none => cases e
    | some x => exact so_some (okE p h _ e).1.ev
theorem okT : ∀ (p : Eo) {X : Cx} {EX : QX} {sc : Scope} {fb : Option Scope} (h : CCx X G T k EX c sc fb) (x : List Expr), chkT c sc fb p x = true → PTs X x (tT G (wpT T (wpC T k) EX p))
  | .none, X, EX, sc, fb, h, x, e => by
    unfold chkT at e
    cases x with
    | nil => exact st_none
    | cons => cases e
  | .some p, X, EX, sc, fb, h, x, e => by
    unfold chkT at e
    split at e
    · exact st_some (okE p h _ e).1.tv
    · cases e
theorem okSrc : ∀ (p : Src) {X : Cx} {EX : QX} {sc : Scope} {fb : Option Scope} (h : CCx X G T k EX c sc fb) (t x : Expr), chkSrc c sc fb p t x = true → L2.PI X t x (tS G (wpSrc T (wpC T k) EX p))
  | .val p, X, EX, sc, fb, h, t, x, e => by
    unfold chkSrc at e
    exact si_val h.hK (okE p h _ e).1.ev
  | .rng1 p, X, EX, sc, fb, h, t, x, e => by
    unfold chkSrc at e
    split at e
    · simp only [Bool.and_eq_true, Bool.not_eq_true'] at e
      obtain ⟨⟨e1, e2⟩, e3⟩ := e
      obtain ⟨rfl, g1, g2, g3⟩ := h.blt e1
      exact si_rng1 g1 g2 (okE p h _ e3).1.ev (star1 e2)
    · cases e
  | .rng2 p q, X, EX, sc, fb, h, t, x, e => by
    unfold chkSrc at e
    split at e
    · simp only [Bool.and_eq_true, Bool.not_eq_true'] at e
      obtain ⟨⟨⟨⟨e1, e2⟩, e3⟩, e4⟩, e5⟩ := e
      obtain ⟨rfl, g1, g2, g3⟩ := h.blt e1
      exact si_rng2 g1 g2 (okE p h _ e4).1.ev (okE q h _ e5).1.ev (by rw [star1 e2, star1 e3, star0]) (star1 e3)
    · cases e
  | .rng3 p q r, X, EX, sc, fb, h, t, x, e => by
    unfold chkSrc at e
    split at e
    · simp only [Bool.and_eq_true, Bool.not_eq_true'] at e
      obtain ⟨⟨⟨⟨⟨⟨e1, e2⟩, e3⟩, e3'⟩, e4⟩, e5⟩, e6⟩ := e
      obtain ⟨rfl, g1, g2, g3⟩ := h.blt e1
      exact si_rng3 g1 g2 (okE p h _ e4).1.ev (okE q h _ e5).1.ev (okE r h _ e6).1.ev (by rw [star1 e2, star1 e3, star1 e3', star0]) (by rw [star1 e3, star1 e3', star0]) (star1 e3')
    · cases e
  | .enum p, X, EX, sc, fb, h, t, x, e => by
    unfold chkSrc at e
    split at e
    · simp only [Bool.and_eq_true, Bool.not_eq_true'] at e
      obtain ⟨⟨⟨e1, e2⟩, e3⟩, e4⟩ := e
      obtain ⟨rfl, g1, g2, g3⟩ := h.blt e1
      cases t <;> first
        | (cases e2; done)
        | exact si_enum (m := true) h.hK g1 g2 (okE p h _ e4).1.ev (star1 e3)
    · cases e
  | .zip p q, X, EX, sc, fb, h, t, x, e => by
    unfold chkSrc at e
    split at e
    · simp only [Bool.and_eq_true, Bool.not_eq_true'] at e
      obtain ⟨⟨⟨⟨⟨e1, e2⟩, e3⟩, e3'⟩, e4⟩, e5⟩ := e
      obtain ⟨rfl, g1, g2, g3⟩ := h.blt e1
      cases t <;> first
        | (cases e2; done)
        | exact si_zip h.hK g1 g2 (okE p h _ e4).1.ev (okE q h _ e5).1.ev (by rw [star1 e3, star1 e3', star0]) (star1 e3')
    · cases e
end
end
end PI
set_option maxHeartbeats 4000000
namespace PI
open PySem PySem.Spec PyProof.Rows L2

section
variable {G : Gh} {T : Tab} {k : Nat} {c : CC}
theorem comp_ok {X : Cx} {EX : QX} {sc : Scope} {fb : Option Scope} (h : CCx X G T k EX c sc fb) {elt : E} {m : Bool} {tg : Tg} {src : Src} {ifs : Eo} {own : List Nat} {e0 t iter : Expr} {fs : List Expr} {scope : Scope} {pos : Pos}
    (e : chkE c sc fb (.comp elt m tg src ifs own) (.ListComp e0 [⟨t, iter, fs, 0⟩] scope pos) = true) : CompOk X G T k EX elt tg src ifs own e0 t iter fs scope := by
  unfold chkE at e
  simp only [Bool.and_eq_true, Bool.not_eq_true'] at e
  obtain ⟨⟨⟨⟨⟨⟨e1, e2⟩, e3⟩, e4⟩, e5⟩, e6⟩, e7⟩ := e
  have hb := blkOk_by e3
  have hk := hb.kind
  refine ⟨⟨own.map fun i => (c.N.getD i Str.empty, i), by rw [List.map_map]; exact List.map_id _, by rw [h.hN, h.hsc]; exact hb⟩, okSrc src h _ _ e1, fun s H C cl fp => tg_ok (h.blk hk s H C cl fp) e4, fun s H C cl fp => okT ifs (h.blk hk s H C cl fp) _ e5, fun s H C cl fp => (okE elt (h.blk hk s H C cl fp) _ e6).1.ev, fun x => folded_ok e2 x, fun i hi => ?_⟩
  cases tg with
  | name j =>
    obtain rfl : j = i := hi
    simpa using e7
  | tup is =>
    have hi : i ∈ is := hi
    have := List.all_eq_true.mp e7 i hi
    simpa using this
theorem swaps_no {e : Expr} {t : Option Expr} {l : Nat} {env : Env} (h : isComp e = false) : swapsWith e t l env = pure false := by
  cases e <;> first
    | rfl
    | (cases h; done)
theorem swapped_no {t : Expr} {e : Expr} {env : Env} (h : isTupE e = false) : swappedStores [t] e env = pure none := by
  cases e <;> first
    | (cases t <;> rfl; done)
    | (cases h; done)
set_option maxHeartbeats 8000000 in
mutual
theorem okS : ∀ (p : S) {X : Cx} {EX : QX} {sc : Scope} (h : CCx X G T k EX c sc none) (hp : PassesOwn (model X.prog X.w) X.A X.env X.xe) (x : Stmt), chkS c sc p x = true → PS X x (tS2 G (wpS T (wpC T k) p EX))
  | .asg tg p, X, EX, sc, h, hp, x, e => by
    unfold chkS at e
    cases tg with
    | name i =>
      simp only at e
      split at e
      · rename_i y py ev pos
        simp only [Bool.and_eq_true] at e
        obtain ⟨⟨e1, e2⟩, e3⟩ := e
        obtain ⟨y', p', he, h1, h2, h3, _⟩ := tgN_ok h e1
        cases he
        split at e3
        · rename_i e0 gens scope cpos
          split at e3
          · rename_i elt m tg src ifs own
            have hsw : swapsWith (.ListComp e0 gens scope cpos) (some (.Name y py)) pos.line X.env = pure (X.env.blockKind == .function && X.env.kindOf y == some .local && py.line == cpos.line && !(scope.names.any fun (n, k) => n == y && (k == .local || k == .cell))) := rfl
            have hbk : ∃ t iter fs, gens = [⟨t, iter, fs, 0⟩] := by
              have e2' := e2
              unfold chkE at e2'
              split at e2'
              · rename_i q; cases q; exact ⟨_, _, _, rfl⟩
              · cases e2'
            obtain ⟨t, iter, fs, rfl⟩ := hbk
            have o := comp_ok h e2
            obtain ⟨ow, how, hb⟩ := o.ow
            by_cases hq : (X.env.blockKind == .function && X.env.kindOf y == some .local && py.line == cpos.line && !(scope.names.any fun (n, k) => n == y && (k == .local || k == .cell))) = true
            · have hloc : X.env.scope.names.lookup y = some .local := by
                simp only [Bool.and_eq_true] at hq
                have := hq.1.1.2
                exact beq_iff_eq.mp this
              rw [hq] at hsw
              subst how
              exact s_asgLc h.hc h.nd h1 hloc hsw o.hi hb o.hg o.ht o.he o.hs o.htg
            · rw [Bool.not_eq_true] at hq
              rw [hq] at hsw
              exact s_asg h.nd h1 h2 (okE _ h _ e2).1.ev hsw h3
          · cases e3
        · exact s_asg h.nd h1 h2 (okE p h _ e2).1.ev (swaps_no (by simpa using e3)) h3
      · cases e
    | tup is =>
      simp only at e
      split at e
      · simp only [Bool.and_eq_true, Bool.not_eq_true'] at e
        obtain ⟨⟨⟨e1, e2⟩, e3⟩, e4⟩ := e
        exact s_asgT h.hK (okE p h _ e2).1.ev (tg_ok h e1) (by unfold swapsWithSole; exact swaps_no e3) (swapped_no e4) rfl
      · cases e
  | .aug i o p, X, EX, sc, h, hp, x, e => by
    unfold chkS at e
    split at e
    · simp only [Bool.and_eq_true, decide_eq_true_eq] at e
      obtain ⟨⟨⟨e1, rfl⟩, e3⟩, e4⟩ := e
      obtain ⟨y', p', he, h1, h2, h3, _⟩ := tgN_ok h e1
      cases he
      exact s_aug e3 h.nd h1 h2 (okE p h _ e4).1.ev h3
    · cases e
  | .sub po pi pe m, X, EX, sc, h, hp, x, e => by
    unfold chkS at e
    split at e
    · simp only [Bool.and_eq_true, Bool.not_eq_true'] at e
      obtain ⟨⟨⟨⟨e1, e2⟩, e3⟩, e4⟩, e5⟩ := e
      refine s_sub (okE po h _ e1).1.ev (okE pi h _ e2).1.ev (okE pe h _ e3).1.ev (by unfold swapsWithSole; exact swaps_no e4) ?_ (fun v => ?_) rfl
      · rename_i o i tp ev pos
        cases ev <;> rfl
      · rename_i o i tp ev pos
        cases i <;> first
          | rfl
          | (cases e5; done)
    · cases e
  | .expr p, X, EX, sc, h, hp, x, e => by
    unfold chkS at e
    split at e
    · simp only [Bool.and_eq_true, Bool.not_eq_true'] at e
      exact s_expr (okE p h _ e.2).1.ev (swaps_no e.1)
    · cases e
  | .ret p, X, EX, sc, h, hp, x, e => by
    unfold chkS at e
    split at e
    · exact s_ret (okE p h _ e).1.ev
    · cases e
  | .retn, X, EX, sc, h, hp, x, e => by
    unfold chkS at e
    split at e
    · exact s_retn
    · cases e
  | .iff p a b, X, EX, sc, h, hp, x, e => by
    unfold chkS at e
    split at e
    · simp only [Bool.and_eq_true] at e
      exact s_iff (okE p h _ e.1.1).1.tv (okSs a h hp _ e.1.2) (okSs b h hp _ e.2)
    · cases e
  | .whl p b, X, EX, sc, h, hp, x, e => by
    unfold chkS at e
    split at e
    · simp only [Bool.and_eq_true] at e
      exact s_whl hp (okE p h _ e.1).1.tv (okSs b h hp _ e.2)
    · cases e
  | .forr tg src b, X, EX, sc, h, hp, x, e => by
    unfold chkS at e
    split at e
    · simp only [Bool.and_eq_true, Bool.not_eq_true'] at e
      exact s_for hp h.hc (okSrc src h _ _ e.1.1.2) (tg_ok h e.1.1.1) (okSs b h hp _ e.2) (folded_ok e.1.2)
    · cases e
  | .raise n, X, EX, sc, h, hp, x, e => by
    unfold chkS at e
    split at e
    · simp only [Bool.and_eq_true, decide_eq_true_eq] at e
      obtain ⟨⟨rfl, e1⟩, e2⟩ := e
      exact s_raise h.hK h.hmg h.hc h.tk (h.excs _ e2) (h.gl e1) (gl_of e1).2
    · cases e
  | .pass, X, EX, sc, h, hp, x, e => by
    unfold chkS at e
    split at e
    · exact s_pass
    · cases e
  | .brk, X, EX, sc, h, hp, x, e => by
    unfold chkS at e
    split at e
    · exact s_brk
    · cases e
  | .cnt, X, EX, sc, h, hp, x, e => by
    unfold chkS at e
    split at e
    · exact s_cnt
    · cases e
  | .cell i, X, EX, sc, h, hp, x, e => by
    unfold chkS at e
    cases e
theorem okSs : ∀ (p : Ss) {X : Cx} {EX : QX} {sc : Scope} (h : CCx X G T k EX c sc none) (hp : PassesOwn (model X.prog X.w) X.A X.env X.xe) (x : List Stmt), chkSs c sc p x = true → PSs X x (tS2 G (wpSs T (wpC T k) p EX))
  | .nil, X, EX, sc, h, hp, x, e => by
    unfold chkSs at e
    cases x with
    | nil => exact ss_nil
    | cons => cases e
  | .cons s ss, X, EX, sc, h, hp, x, e => by
    unfold chkSs at e
    split at e
    · exact ss_cell (okSs ss h hp _ e)
    · cases x with
      | nil => cases e
      | cons x xs =>
        simp only [Bool.and_eq_true] at e
        exact ss_cons (okS s h hp _ e.1) (okSs ss h hp _ e.2)
end
end
end PI
set_option maxHeartbeats 4000000
namespace PI
open PySem PySem.Spec PyProof.Rows L2

/-! ### the table of a module's defs -/
def AllD {α : Type} (P : α → Prop) : List α → Prop
  | [] => True
  | x :: xs => P x ∧ AllD P xs
theorem AllD.mem {α : Type} {P : α → Prop} : ∀ {l : List α}, AllD P l → ∀ x ∈ l, P x
  | _ :: _, h, _, .head _ => h.1
  | _ :: _, h, x, .tail _ hx => AllD.mem h.2 x hx
theorem lookup_mem {α β : Type} [BEq α] [LawfulBEq α] {y : α} {f : β} : ∀ {l : List (α × β)}, l.lookup y = some f → (y, f) ∈ l
  | [], h => by cases h
  | (a, b) :: l, h => by
    unfold List.lookup at h
    split at h
    · rename_i e
      have e := beq_iff_eq.mp e
      subst e
      cases h
      exact List.mem_cons_self
    · exact List.mem_cons_of_mem _ (lookup_mem h)
/-- a def, by its text alone -/
structure DefS (c : CC) (sm : Stmt) (N ps : List Str) (d : FDef) : Prop where
  sc : FnScope N ps (defScope sm)
  np : d.np = ps.length
  ns : d.ns = N.length
  bind : ∀ (x qual : Str) (kV doc pm : Value) (an : Option Addr) (cdv ct : Value) (us : List Value), us.length = ps.length → bindArgs (PySem.W.fnOf x qual (defArgs sm) (defBody sm) (defScope sm) .none kV doc pm an cdv ct) ⟨us, []⟩ = pure (ps.zip us)
  chk : chkSs { c with N := N } (defScope sm) d.body (defBody sm) = true
/-- .. as it stands behind the top -/
structure DefK (K : PySem.W.Frag) (y : Str) (sm : Stmt) : Prop where
  ex : ∃ (f : Addr) (fd : FuncData), PySem.W.nsIn K mainGlobals y = some (some (.ref f)) ∧ Fun K y y sm f fd
theorem DefK.mk' {K : PySem.W.Frag} {y : Str} {sm : Stmt} {f : Addr} {oc : Value} {od an : Option Addr} {osl : Array (Option Value)} {kV doc pm cdv ct : Value} (n : PySem.W.nsIn K mainGlobals y = some (some (.ref f)))
    (l : K.lookup f = some ⟨oc, od, .func (PySem.W.fnOf y y (defArgs sm) (defBody sm) (defScope sm) .none kV doc pm an cdv ct), osl⟩) (c : PySem.W.codeIn K cdv y = true) (k : PySem.W.keepIn K (.ref f) = true) : DefK K y sm := ⟨f, _, n, fun_mk l c k⟩
structure ConK (K : PySem.W.Frag) (y : Str) (d : D) : Prop where
  ex : ∃ v u, PySem.W.nsIn K mainGlobals y = some (some u) ∧ RelV v u ∧ ∀ mg mu Fz H, RV K mg mu Fz H d v
theorem ConK.int {K : PySem.W.Frag} {y : Str} {i : Int} {t : Nat} (h : PySem.W.nsIn K mainGlobals y = some (some (.int i t))) : ConK K y (.int i) := ⟨.int i, _, h, ⟨_, rfl⟩, fun _ _ _ _ => rfl⟩
theorem ConK.str {K : PySem.W.Frag} {y : Str} {x : Str} {t : Nat} (h : PySem.W.nsIn K mainGlobals y = some (some (.str x t))) : ConK K y (.str x) := ⟨.str x, _, h, ⟨_, rfl⟩, fun _ _ _ _ => rfl⟩
structure ExcF (K : PySem.W.Frag) (c : String) : Prop where
  ex : ∃ C, PySem.W.nsIn K mainGlobals (Str.ofString c) = some (some (.ref C)) ∧ PySem.W.excIn K C [.type "ValueError", .type "Exception", .type "BaseException", .type "object"] "ValueError.__new__" = true ∧ PySem.W.keepIn K (.ref C) = true ∧
    PySem.W.subIn K (.ref C) (.type "BaseException") = some true ∧ PySem.W.typeIn K (.ref C) = some (.type "type")
theorem ExcF.mk' {K : PySem.W.Frag} {c : String} {C : Addr} (h1 : PySem.W.nsIn K mainGlobals (Str.ofString c) = some (some (.ref C))) (h2 : PySem.W.excIn K C [.type "ValueError", .type "Exception", .type "BaseException", .type "object"] "ValueError.__new__" = true) (h3 : PySem.W.keepIn K (.ref C) = true)
    (h4 : PySem.W.subIn K (.ref C) (.type "BaseException") = some true) (h5 : PySem.W.typeIn K (.ref C) = some (.type "type")) : ExcF K c := ⟨C, h1, h2, h3, h4, h5⟩
/-- a module: its defs by name, function of the table, text, slots, parameters -/
structure DefR where
  y : Str
  fn : String
  sm : Stmt
  N : List Str
  ps : List Str
  d : FDef
structure ModK (K : PySem.W.Frag) (T : Tab) (c : CC) (defs : List DefR) : Prop where
  fns : c.fns = defs.map fun r => (r.y, r.fn)
  st : AllD (fun r => T.fn r.fn = some r.d ∧ DefS c r.sm r.N r.ps r.d) defs
  dy : AllD (fun r => DefK K r.y r.sm) defs
  bi : AllD (fun y => PySem.W.nsIn K mainGlobals y = some none) c.bis
  co : AllD (fun p => ConK K p.1 p.2) c.cons
  ex : AllD (fun e => ExcF K e) c.excs
section
variable {P : Program} {w : World} {K : PySem.W.Frag} {mg : Str → Option Value} {base h : Heap} {T : Tab} {c : CC} {defs : List DefR}
theorem FnG.zero {f : Addr} {fd : FuncData} {ps : List Str} {fn : String} : FnG P w K mg base 0 f fd ps (spF K mg T 0 fn ps.length) :=
  ⟨fun vs H Q E ⟨_, _, _, _, _, _, _, _, hl, _⟩ => hl, fun A outer s H args us vs Q E hr hg e0 hb r ⟨_, _, _, _, _, _, _, _, _, hw, _⟩ => hw.elim⟩
/-- every def of the table keeps its promise, at every depth of calls -/
theorem tab_ok (M : ModK K T c defs) (KX : K.In h) (Gn : h.Ns mainGlobals mg) : ∀ (k : Nat) (r : DefR), r ∈ defs → ∀ (f : Addr) (fd : FuncData), Fun K r.y r.y r.sm f fd → FnG P w K mg base k f fd r.ps (spF K mg T k r.fn r.ps.length) := by
  intro k
  induction k with
  | zero => exact fun r hr f fd F => FnG.zero
  | succ k ih =>
    intro r hr f fd F
    obtain ⟨ht, S⟩ := M.st.mem r hr
    refine fn_ok F S.sc ht S.np S.ns fun X G EX e1 e2 e3 e4 e5 e6 e7 e8 e9 hr hg g1 g2 tk hp _ _ _ => ?_
    have cx : CCx X G T k EX { c with N := r.N } (defScope r.sm) none := by
      refine ⟨e3.trans g1.symm, e4.trans g2.symm, e8, by rw [e6]; exact S.sc.nd, e6, e7, S.sc.kind, hg, hr, tk, e9, fun y f hy => ?_, fun y hy => ?_, fun y d hy => ?_, fun e he => ?_⟩
      · have hy : (c.fns).lookup y = some f := hy
        rw [M.fns] at hy
        obtain ⟨r', hr', e⟩ := List.mem_map.mp (lookup_mem hy)
        cases e
        obtain ⟨ht', S'⟩ := M.st.mem r' hr'
        obtain ⟨a, fd, n, F'⟩ := (M.dy.mem r' hr').ex
        rw [e1, e2, e3, e4, e5, g1, g2]
        exact ⟨a, fd, r'.ps, r'.d, ih r' hr' a fd F', PySem.W.mg_of KX Gn n, F'.kp, F'.binds (S'.bind r'.y r'.y), ht', S'.np⟩
      · rw [e4]
        exact PySem.W.mg_none_of KX Gn (M.bi.mem y hy)
      · obtain ⟨v, u, h1, h2, h3⟩ := (M.co.mem (y, d) (lookup_mem hy)).ex
        rw [e4, g1, g2]
        exact ⟨v, u, PySem.W.mg_of KX Gn h1, h2, fun mu Fz H => h3 _ mu Fz H⟩
      · obtain ⟨C, h1, h2, h3, h4, h5⟩ := (M.ex.mem e he).ex
        rw [e3, e4]
        exact ⟨C, PySem.W.mg_of KX Gn h1, h2, h3, h4, h5⟩
    exact okSs r.d.body cx hp _ S.chk
end

/-! ### the end of a law -/
theorem law_callG {P : Program} {w : World} {K : PySem.W.Frag} {mg mb : Str → Option Value} {k : Nat} {fa a : Addr} {fd : FuncData} {x : Str} {sp : Sp} {s₁ : Shared} {vs : List Value} {ns : List Int}
    (KX : K.In s₁.heap) (hns : s₁.heap.Ns mainGlobals mg) (hb : s₁.heap.Ns builtinsNs mb) (hbb : ∀ x : Str, x ≠ "__name__" → mb x = bootBuiltins x) (hlim : s₁.heap.NoLimit) (hg : s₁.gens = #[])
    (ha : s₁.heap.get? a = some { cls := .type "list", data := .seq vs.toArray }) (hi : IntsAre vs ns) (hl : ns.length ≤ sizeLine) (hr : Room k callerA)
    (F : ∀ base : Heap, FnG P w K mg base k fa fd [x] sp) (hbind : ∀ (s : Shared) (u : Value), BindsTo s fd ⟨[u], []⟩ [(x, u)])
    (hsp : ∀ H : Hp, Only H → SqL K H a (ns.map V.int) → sp [.ref a] H (fun v _ => v = .bl true) fun _ _ _ => False) :
    codeAny (model P w) callerA (.call (.ref fa) ⟨[.ref a], []⟩) (fun r s' => r = .ok (.ret (.bool true)) ∧ OldK s₁.heap s'.heap ∧ s'.os = s₁.os ∧ AllBare s'.gens) s₁ := by
  have rv := vals_ints hi
  have lenV := hi.length
  have main : ∀ H : Hp, Only H → SqL K H a (ns.map V.int) → HOk P w H s₁.heap → (∀ b u, H b = some u → b = a ∧ K.lookup b = none) →
      codeAny (model P w) callerA (.call (.ref fa) ⟨[.ref a], []⟩) (fun r s' => r = .ok (.ret (.bool true)) ∧ OldK s₁.heap s'.heap ∧ s'.os = s₁.os ∧ AllBare s'.gens) s₁ := by
    intro H hO hS hok hA
    have free : ∀ {b : Addr} {o : Obj}, s₁.heap.get? b = some o → (∀ n, o.data ≠ .seq vs.toArray n) → H b = none := fun {b o} e d => by
      cases q : H b with
      | none => rfl
      | some u =>
        obtain ⟨rfl, _⟩ := hA b u q
        rw [ha] at e
        cases e
        exact absurd rfl (d _)
    have nsK : ∀ {b : Addr} {m : Str → Option Value}, s₁.heap.Ns b m → (hidT s₁.heap H).Ns b m := fun {b m} ⟨o, es, ep, e, d, r⟩ => ⟨o, es, ep, hidT_get e (free e fun n z => by rw [d] at z; cases z), d, r⟩
    have hKb : K.In (hidT s₁.heap H) := fun b o e => hidT_get (KX b o e) (by
      cases q : H b with
      | none => rfl
      | some u =>
        rw [(hA b u q).2] at e
        cases e)
    obtain ⟨mc, l1, l2⟩ := hlim
    have hM : Mod K mg (hidT s₁.heap H) := ⟨hKb, nsK hns, ⟨mb, nsK hb, hbb⟩, mc, nsK l1, l2⟩
    have e0 : Env0 P w K mg (hidT s₁.heap H) callerA [] s₁ H := ⟨rfl, hM, fun b o e => of_hidT e, Nat.le_of_eq (hidT_size _ _), trivial, fun b hb => absurd (show b ∈ ([] : List Addr) from hb) (by simp), hok, .of_eq hg⟩
    refine codeAny_mono ((F _).run callerA [] s₁ H ⟨[.ref a], []⟩ [.ref a] [.ref a] _ _ hr rfl e0 (hbind s₁ (.ref a)) (.cons rfl .nil) (hsp H hO hS)) fun r s' y => ?_
    cases r with
    | error e =>
      obtain ⟨_, _, _, _, _, _, _, _, _, _, _, _, z⟩ := (show CX P w [] H s₁ (fun _ _ _ => False) e s' from y)
      exact z.elim
    | ok fl =>
      cases fl with
      | ret u =>
        obtain ⟨v, H', os, bare, un, hok', r', q⟩ := y
        obtain rfl : v = .bl true := q
        obtain rfl : u = Value.bool true := r'
        refine ⟨rfl, OldK.of_keep fun b o e => ?_, os, bare⟩
        rcases hO b with z | ⟨ob, xs, z⟩
        · exact un.keep b o e z (by intro z; cases z) (by simp)
        · obtain ⟨e1, _⟩ := hok b _ z
          obtain ⟨e2, _⟩ := hok' b _ (un.frzs b ob _ z)
          rw [e] at e1
          cases e1
          exact e2
      | _ => exact False.elim y
  cases hk : K.lookup a with
  | some o =>
    have e := KX a o hk
    rw [ha] at e
    cases e
    exact main (fun _ => none) (fun _ => .inl rfl) (.inr ⟨_, vs.toArray, _, hk, rfl, rfl, rfl, by rw [List.size_toArray, lenV]; exact hl, by simpa using rv⟩) (fun b u z => nomatch z) fun b u z => nomatch z
  | none =>
    have split : ∀ {b : Addr} {u : HO}, upd (fun _ => none) a (.frz { cls := .type "list", data := .seq vs.toArray } (.lst (ns.map V.int))) b = some u → b = a := fun {b u} z => by
      by_cases hb : b = a
      · exact hb
      · rw [upd_ne hb] at z
        cases z
    refine main (upd (fun _ => none) a (.frz { cls := .type "list", data := .seq vs.toArray } (.lst (ns.map V.int)))) (fun b => ?_) (.inl (.inr ⟨_, upd_same⟩)) (fun b u z => ?_) fun b u z => ⟨split z, by rw [split z]; exact hk⟩
    · by_cases hb : b = a
      · subst hb
        exact .inr ⟨_, _, upd_same⟩
      · exact .inl (upd_ne hb)
    · obtain rfl := split z
      rw [upd_same] at z
      cases z
      exact ⟨ha, by rw [List.length_map]; exact hl, vs, _, rv, ha⟩
theorem pi_walk {l : PySem.W.OpenLaw} {n k : Nat} {q : Program} {loose : List Str} {XP : (Str → Option Value) → Heap → Prop} {YP : World → Heap → Prop} {d : DefRec} {K : Params → PySem.W.Frag} {T : Tab} {c : CC} {defs : List DefR} {r : DefR} {x : Str}
    (hn : l.most = some n) (hn2 : n ≤ sizeLine) (hdf : d.params.defaults = []) (hr : Room k callerA) (hY : ∀ (w : World) (h : Heap), YP w h → (K w.params).In h)
    (hm : r ∈ defs) (hy : r.y = d.name) (hps : r.ps = [x])
    (M : ∀ w : World, ModK (K w.params) T c defs)
    (hwp : ∀ ns : List Int, ns.length ≤ n → wpC T k r.fn [.scr (ns.map D.int)] [] (fun v _ => v = .d (.bl true)) fun _ _ => False) :
    PySem.W.WalkO q loose XP YP l.row.toRowW d [] (fun f vs => PySem.call f vs) := by
  refine Att.attach_call hn hdf fun w s₀ s₁ mg mb fa o pm cd doc a vs ns G Y ho hd hcd hmg hobj hints hlen hg => ?_
  have KX := hY w _ Y
  obtain ⟨f, fd, nn, F⟩ := ((M w).dy.mem r hm).ex
  have hf := PySem.W.mg_of KX G.T.g nn
  rw [hy, hmg] at hf
  cases hf
  obtain ⟨_, S⟩ := (M w).st.mem r hm
  have hb := F.binds (S.bind r.y r.y)
  rw [hps] at hb
  refine law_callG (x := x) (fd := fd) (sp := spF (K w.params) mg T k r.fn 1) KX G.T.g G.T.b G.T.builtins G.T.nolimit hg hobj hints (Nat.le_trans hlen hn2) hr (fun base => ?_) (fun s u => ?_) (fun H hO hS => ?_)
  · have := tab_ok (P := l.prog) (w := w) (base := base) (M w) KX G.T.g k r hm fa fd F
    rw [hps] at this
    exact this
  · obtain ⟨oc, od, kV, doc, pm, an, cdv, ct, osl, rfl, _, _⟩ := F.ex
    refine .of_eq ?_
    have := S.bind r.y r.y kV doc pm an cdv ct [u] (by rw [hps]; rfl)
    rw [hps] at this
    exact this
  · refine ⟨[], fun _ => False, [], [.scr (ns.map D.int)], _, _, ⟨rfl, fun r c z => (by cases z), List.nodup_nil, fun _ z => (by cases z), fun _ z => z.elim⟩, ?_, rfl, hwp ns hlen, fun mu' Fz' st' H' rr v _ _ ra q => ?_, fun mu' Fz' st' H' ex cls od _ _ _ q => q⟩
    · refine ⟨_, [], rfl, ⟨a, ns.map V.int, rfl, ?_, ?_⟩, rfl⟩
      · rcases hS with (z | z) | z
        · rcases hO a with y | ⟨o, xs, y⟩
          · rw [z] at y; cases y
          · rw [z] at y; cases y
        · exact .inl z
        · exact .inr z
      · refine RVs.iff.mpr ?_
        clear hwp hS hlen hints
        induction ns with
        | nil => exact .nil
        | cons n ns ih => exact .cons rfl ih
    · subst q
      exact ra
end PI
namespace LW
open PySem PySem.Spec PyProof.Rows L2 PI
def d_is_whole : FDef := ⟨1, 1, (.cons (.ret (.andv (.isi (.slot 0) [.b "int"]) (.andv (.notv (.isi (.slot 0) [.b "bool"])) (.cmp .ge (.slot 0) (.const (.int 0)))))) .nil)⟩
def d_is_row : FDef := ⟨2, 2, (.cons (.ret (.andv (.isi (.slot 0) [.b "list", .b "tuple"]) (.cmp .eq (.bi .len (.cons false (.slot 0) .nil)) (.slot 1)))) .nil)⟩
def d_is_name : FDef := ⟨1, 2, (.cons (.ret (.andv (.isi (.slot 0) [.b "str"]) (.andv (.chain .le .le (.const (.int 1)) (.bi .len (.cons false (.slot 0) .nil)) (.const (.int 8))) (.bi .all (.cons false (.comp (.cmp .isin (.slot 1) (.const (.str (Str.ofString "abcdefghijklmnopqrstuvwxyz")))) false (.name 1) (.val (.slot 0)) .none [1]) .nil))))) .nil)⟩
def d_is_card : FDef := ⟨1, 1, (.cons (.ret (.andv (.call "is_row" (.cons false (.slot 0) (.cons false (.const (.int 2)) .nil))) (.andv (.call "is_name" (.cons false (.idx (.slot 0) (.const (.int 0))) .nil)) (.call "is_whole" (.cons false (.idx (.slot 0) (.const (.int 1))) .nil))))) .nil)⟩
def d_deck_of : FDef := ⟨1, 2, (.cons (.iff (.orv (.notv (.isi (.slot 0) [.b "list", .b "tuple"])) (.notv (.chain .le .le (.const (.int 1)) (.bi .len (.cons false (.slot 0) .nil)) (.const (.int 40))))) (.cons (.raise "NoDeck") .nil) .nil) (.cons (.iff (.orv (.notv (.bi .all (.cons false (.comp (.call "is_card" (.cons false (.slot 1) .nil)) false (.name 1) (.val (.slot 0)) .none [1]) .nil))) (.cmp .ne (.bi .lenset (.cons false (.comp (.idx (.slot 1) (.const (.int 0))) false (.name 1) (.val (.slot 0)) .none [1]) .nil)) (.bi .len (.cons false (.slot 0) .nil)))) (.cons (.raise "NoDeck") .nil) .nil) (.cons (.ret (.bi .tuple1 (.cons false (.comp (.tup (.cons false (.idx (.slot 1) (.const (.int 0))) (.cons false (.idx (.slot 1) (.const (.int 1))) .nil))) false (.name 1) (.val (.slot 0)) .none [1]) .nil))) .nil)))⟩
def d_reach_of : FDef := ⟨2, 2, (.cons (.ret (.bi .min2 (.cons false (.idx (.slot 1) (.const (.int 1))) (.cons false (.bin .sub (.bi .len (.cons false (.slot 0) .nil)) (.const (.int 1))) .nil)))) .nil)⟩
def d_slid_back : FDef := ⟨1, 2, (.cons (.asg (.name 1) (.call "reach_of" (.cons false (.slot 0) (.cons false (.idx (.slot 0) (.const (.int 0))) .nil)))) (.cons (.ret (.bin .add (.bin .add (.slc (.slot 0) (.some (.const (.int 1))) (.some (.bin .add (.slot 1) (.const (.int 1))))) (.slc (.slot 0) .none (.some (.const (.int 1))))) (.slc (.slot 0) (.some (.bin .add (.slot 1) (.const (.int 1)))) .none))) .nil))⟩
def d_slid : FDef := ⟨1, 1, (.cons (.ret (.call "slid_back" (.cons false (.call "deck_of" (.cons false (.slot 0) .nil)) .nil))) .nil)⟩
def d__law_spring : FDef := ⟨1, 4, (.cons (.asg (.name 1) (.const (.int 0))) (.cons (.asg (.name 2) (.const (.int 88651))) (.cons (.forr (.name 3) (.val (.slc (.slot 0) .none (.some (.const (.int 63))))) (.cons (.iff (.cmp .ge (.bi .abs (.cons false (.slot 3) .nil)) (.bin .pow (.const (.int 10)) (.const (.int 18)))) (.cons (.asg (.name 1) (.bin .add (.bin .mul (.slot 1) (.bin .pow (.const (.int 10)) (.const (.int 60)))) (.bin .mod (.bi .abs (.cons false (.slot 3) .nil)) (.bin .pow (.const (.int 10)) (.const (.int 60)))))) .nil) .nil) (.cons (.asg (.name 2) (.bin .mod (.bin .add (.bin .add (.bin .mul (.slot 2) (.const (.int 69069))) (.bin .mod (.slot 3) (.const (.int 2305843009213693921)))) (.const (.int 7))) (.const (.int 2305843009213693951)))) .nil))) (.cons (.ret (.lst (.cons false (.slot 1) (.cons false (.slot 2) (.cons false (.const (.int 0)) .nil))))) .nil))))⟩
def d__law_draw : FDef := ⟨2, 4, (.cons (.iff (.cmp .gt (.idx (.slot 0) (.const (.int 0))) (.const (.int 0))) (.cons (.asg (.name 3) (.bin .mod (.idx (.slot 0) (.const (.int 0))) (.slot 1))) (.cons (.sub (.slot 0) (.const (.int 0)) (.bin .fdiv (.idx (.slot 0) (.const (.int 0))) (.slot 1)) false) (.cons (.ret (.slot 3)) .nil))) .nil) (.cons (.sub (.slot 0) (.const (.int 2)) (.bin .add (.idx (.slot 0) (.const (.int 2))) (.const (.int 1))) false) (.cons (.asg (.name 2) (.bin .mod (.bin .mul (.idx (.slot 0) (.const (.int 1))) (.idx (.slot 0) (.const (.int 1)))) (.const (.int 2305843009213693951)))) (.cons (.sub (.slot 0) (.const (.int 1)) (.bin .mod (.bin .add (.bin .add (.slot 2) (.bin .mul (.bin .mul (.const (.int 7919)) (.idx (.slot 0) (.const (.int 2)))) (.idx (.slot 0) (.const (.int 1))))) (.const (.int 104729))) (.const (.int 2305843009213693951))) false) (.cons (.ret (.bin .mod (.bin .fdiv (.idx (.slot 0) (.const (.int 1))) (.const (.int 65537))) (.slot 1))) .nil)))))⟩
def d__law_names : FDef := ⟨2, 9, (.cons (.asg (.name 2) (.comp (.bin .add (.bin .add (.const (.str (Str.ofString "q"))) (.idx (.const (.str (Str.ofString "abcdefghij"))) (.bin .fdiv (.slot 4) (.const (.int 5))))) (.idx (.const (.str (Str.ofString "vwxyz"))) (.bin .mod (.slot 4) (.const (.int 5))))) false (.name 4) (.rng1 (.const (.int 50))) .none [4])) (.cons (.asg (.name 3) (.lst .nil)) (.cons (.forr (.name 4) (.rng1 (.slot 1)) (.cons (.asg (.name 5) (.idx (.lst (.cons false (.const (.str (Str.ofString "ab"))) (.cons false (.const (.str (Str.ofString "abcdefghijklmnopqrstuvwxyz"))) .nil))) (.call "_law_draw" (.cons true (.slot 0) (.cons false (.const (.int 2)) .nil))))) (.cons (.asg (.name 6) (.me .join (.const (.str (Str.ofString ""))) (.cons false (.comp (.idx (.slot 5) (.call "_law_draw" (.cons true (.slot 0) (.cons false (.bi .len (.cons false (.slot 5) .nil)) .nil)))) false (.name 7) (.rng1 (.bin .add (.const (.int 1)) (.call "_law_draw" (.cons true (.slot 0) (.cons false (.const (.int 8)) .nil))))) .none [7]) .nil))) (.cons (.expr (.me .append (.slot 3) (.cons false (.idx (.comp (.slot 8) false (.name 8) (.val (.bin .add (.lst (.cons false (.slot 6) .nil)) (.slot 2))) (.some (.cmp .notin (.slot 8) (.slot 3))) [8]) (.const (.int 0))) .nil))) .nil)))) (.cons (.ret (.slot 3)) .nil))))⟩
def d__law_deck : FDef := ⟨2, 9, (.cons (.asg (.name 2) (.bin .add (.const (.int 1)) (.call "_law_draw" (.cons true (.slot 0) (.cons false (.idx (.lst (.cons false (.const (.int 3)) (.cons false (.const (.int 7)) (.cons false (.slot 1) .nil)))) (.call "_law_draw" (.cons true (.slot 0) (.cons false (.const (.int 3)) .nil)))) .nil))))) (.cons (.asg (.name 3) (.call "_law_draw" (.cons true (.slot 0) (.cons false (.const (.int 7)) .nil)))) (.cons (.asg (.name 4) (.call "_law_draw" (.cons true (.slot 0) (.cons false (.slot 2) .nil)))) (.cons (.asg (.name 5) (.lst .nil)) (.cons (.forr (.name 6) (.val (.call "_law_names" (.cons true (.slot 0) (.cons false (.slot 2) .nil)))) (.cons (.asg (.name 7) (.bi .len (.cons false (.slot 5) .nil))) (.cons (.asg (.name 8) (.lst (.cons false (.call "_law_draw" (.cons true (.slot 0) (.cons false (.const (.int 3)) .nil))) (.cons false (.call "_law_draw" (.cons true (.slot 0) (.cons false (.slot 2) .nil))) (.cons false (.bi .max2 (.cons false (.const (.int 0)) (.cons false (.bin .sub (.bin .add (.slot 7) (.call "_law_draw" (.cons true (.slot 0) (.cons false (.const (.int 5)) .nil)))) (.const (.int 3))) .nil))) (.cons false (.slot 4) .nil)))))) (.cons (.asg (.name 8) (.bin .add (.slot 8) (.lst (.cons false (.bin .add (.slot 2) (.call "_law_draw" (.cons true (.slot 0) (.cons false (.const (.int 3)) .nil)))) (.cons false (.bin .sub (.bin .sub (.bin .pow (.const (.int 10)) (.const (.int 30))) (.const (.int 1))) (.call "_law_draw" (.cons true (.slot 0) (.cons false (.const (.int 9)) .nil)))) (.cons false (.bin .sub (.bin .sub (.slot 2) (.const (.int 1))) (.slot 7)) .nil)))))) (.cons (.expr (.me .append (.slot 5) (.cons false (.tup (.cons false (.slot 6) (.cons false (.idx (.slot 8) (.idx (.lst (.cons false (.slot 3) (.cons false (.call "_law_draw" (.cons true (.slot 0) (.cons false (.const (.int 7)) .nil))) .nil))) (.bi .int1 (.cons false (.cmp .eq (.call "_law_draw" (.cons true (.slot 0) (.cons false (.const (.int 4)) .nil))) (.const (.int 0))) .nil)))) .nil))) .nil))) .nil))))) (.cons (.ret (.bi .tuple1 (.cons false (.slot 5) .nil))) .nil))))))⟩
def d__law_reach : FDef := ⟨2, 2, (.cons (.ret (.bi .min2 (.cons false (.idx (.slot 1) (.const (.int 1))) (.cons false (.bin .sub (.bi .len (.cons false (.slot 0) .nil)) (.const (.int 1))) .nil)))) .nil)⟩
def d__law_step : FDef := ⟨1, 3, (.cons (.asg (.name 1) (.bi .list1 (.cons false (.slot 0) .nil))) (.cons (.asg (.name 2) (.me .pop1 (.slot 1) (.cons false (.const (.int 0)) .nil))) (.cons (.expr (.me .insert (.slot 1) (.cons false (.call "_law_reach" (.cons false (.slot 0) (.cons false (.slot 2) .nil))) (.cons false (.slot 2) .nil)))) (.cons (.ret (.bi .tuple1 (.cons false (.slot 1) .nil))) .nil))))⟩
def d__law_lists : FDef := ⟨1, 2, (.cons (.ret (.ite (.isi (.slot 0) [.b "list", .b "tuple"]) (.comp (.call "_law_lists" (.cons false (.slot 1) .nil)) true (.name 1) (.val (.slot 0)) .none [1]) (.slot 0))) .nil)⟩
def d__law_handed : FDef := ⟨2, 4, (.cons (.asg (.name 2) (.call "_law_draw" (.cons true (.slot 0) (.cons false (.const (.int 6)) .nil)))) (.cons (.iff (.cmp .eq (.slot 2) (.const (.int 0))) (.cons (.ret (.call "_law_lists" (.cons false (.slot 1) .nil))) .nil) .nil) (.cons (.iff (.cmp .eq (.slot 2) (.const (.int 1))) (.cons (.ret (.bi .tuple1 (.cons false (.comp (.call "_law_lists" (.cons false (.slot 3) .nil)) true (.name 3) (.val (.slot 1)) .none [3]) .nil))) .nil) .nil) (.cons (.iff (.cmp .eq (.slot 2) (.const (.int 2))) (.cons (.ret (.comp (.ite (.cmp .eq (.call "_law_draw" (.cons true (.slot 0) (.cons false (.const (.int 2)) .nil))) (.const (.int 0))) (.call "_law_lists" (.cons false (.slot 3) .nil)) (.slot 3)) true (.name 3) (.val (.slot 1)) .none [3])) .nil) .nil) (.cons (.ret (.ite (.cmp .eq (.slot 2) (.const (.int 3))) (.bi .list1 (.cons false (.slot 1) .nil)) (.slot 1))) .nil)))))⟩
def d__law_same : FDef := ⟨2, 3, (.cons (.iff (.isi (.slot 1) [.b "list", .b "tuple"]) (.cons (.iff (.orv (.cmp .ne (.isi (.slot 0) [.b "list"]) (.isi (.slot 1) [.b "list"])) (.cmp .ne (.isi (.slot 0) [.b "tuple"]) (.isi (.slot 1) [.b "tuple"]))) (.cons (.ret (.const (.bl false))) .nil) .nil) (.cons (.ret (.andv (.cmp .eq (.bi .len (.cons false (.slot 0) .nil)) (.bi .len (.cons false (.slot 1) .nil))) (.bi .all (.cons false (.comp (.call "_law_same" (.cons false (.idx (.slot 0) (.slot 2)) (.cons false (.idx (.slot 1) (.slot 2)) .nil))) false (.name 2) (.rng1 (.bi .len (.cons false (.slot 1) .nil))) .none [2]) .nil)))) .nil)) .nil) (.cons (.iff (.orv (.cmp .isn (.slot 1) (.const .non)) (.cmp .isn (.slot 0) (.const .non))) (.cons (.ret (.andv (.cmp .isn (.slot 1) (.const .non)) (.cmp .isn (.slot 0) (.const .non)))) .nil) .nil) (.cons (.iff (.orv (.cmp .ne (.isi (.slot 1) [.b "bool"]) (.isi (.slot 0) [.b "bool"])) (.cmp .ne (.isi (.slot 1) [.b "str"]) (.isi (.slot 0) [.b "str"]))) (.cons (.ret (.const (.bl false))) .nil) .nil) (.cons (.ret (.cmp .eq (.slot 0) (.slot 1))) .nil))))⟩
end LW
set_option maxHeartbeats 1000000
namespace PI
open PySem

/-! ### the meaning, step by step -/
/-- two ways on -/
def bc (x : R) (P Q : Prop) : Prop := match x with
  | .d (.bl b) => (b = true → P) ∧ (b = false → Q)
  | _ => False
theorem bc_bl {b : Bool} {P Q : Prop} : bc (.d (.bl b)) P Q ↔ (b = true → P) ∧ (b = false → Q) := Iff.rfl
theorem bc_t {P Q : Prop} : bc (.d (.bl true)) P Q ↔ P := ⟨fun h => h.1 rfl, fun h => ⟨fun _ => h, fun z => nomatch z⟩⟩
theorem bc_f {P Q : Prop} : bc (.d (.bl false)) P Q ↔ Q := ⟨fun h => h.2 rfl, fun h => ⟨fun z => (nomatch z), fun _ => h⟩⟩
theorem bc_eq (x : R) (P Q : Prop) : (match x with
    | .d (.bl true) => P
    | .d (.bl false) => Q
    | _ => False) = bc x P Q := by
  cases x with
  | d y =>
    cases y with
    | bl b => cases b <;> simp [bc]
    | _ => rfl
  | _ => rfl
def slotQ (o : Option Sl) (i : Nat) (env : PEnv) (st : PSto) (Q : QE) : Prop := match o with
  | some (.val d) => Q (.d d) env st
  | some (.own _) => Q (.brw i) env st
  | _ => False
theorem slotQ_val {d : D} {i : Nat} {env : PEnv} {st : PSto} {Q : QE} : slotQ (some (.val d)) i env st Q = Q (.d d) env st := rfl
theorem slotQ_own {ds : List D} {i : Nat} {env : PEnv} {st : PSto} {Q : QE} : slotQ (some (.own ds)) i env st Q = Q (.brw i) env st := rfl
section
variable {T : Tab} {C : CallT} {X : QX} {env : PEnv} {st : PSto} {Q : QE}
theorem we_slot {i : Nat} : wpE T C X (.slot i) env st Q = slotQ env[i]? i env st Q := by
  unfold wpE slotQ; rfl
theorem we_const {d : D} : wpE T C X (.const d) env st Q = Q (.d d) env st := by rw [wpE]
theorem we_bin {o : BOp} {a b : E} : wpE T C X (.bin o a b) env st Q = wpE T C X a env st fun x env st => wpE T C X b env st fun y env st => dr env st x fun x => dr env st y fun y => opB o x y fun r => Q r env st := by rw [wpE]
def negQ (x : D) (Q : Int → Prop) : Prop := match x with
  | .int i => Q i
  | _ => False
theorem we_neg {a : E} : wpE T C X (.neg a) env st Q = wpE T C X a env st fun x env st => dr env st x fun x => negQ x fun i => Q (.d (.int (-i))) env st := by
  rw [wpE]
  rfl
theorem negQ_int {i : Int} {Q : Int → Prop} : negQ (.int i) Q = Q i := rfl
theorem we_cmp {o : COp} {a b : E} : wpE T C X (.cmp o a b) env st Q = wpE T C X a env st fun x env st => wpE T C X b env st fun y env st => dr env st x fun x => dr env st y fun y => cmpV o st x y fun b => Q (.d (.bl b)) env st := by rw [wpE]
theorem we_chain {o o2 : COp} {a b c : E} : wpE T C X (.chain o o2 a b c) env st Q = wpE T C X a env st fun x env st => wpE T C X b env st fun y env st => dr env st x fun x' => dr env st y fun y' => cmpV o st x' y' fun k => bc (.d (.bl k))
    (wpE T C X c env st fun z env st => dr env st y fun y => dr env st z fun z => cmpV o2 st y z fun b => Q (.d (.bl b)) env st) (Q (.d (.bl false)) env st) := by
  rw [wpE]
  congr 1; funext x env st; congr 1; funext y env st; congr 1; funext x'; congr 1; funext y'; congr 1; funext k
  cases k <;> simp [bc]
theorem we_and {a b : E} : wpE T C X (.andv a b) env st Q = wpE T C X a env st fun x env st => bc x (wpE T C X b env st Q) (Q (.d (.bl false)) env st) := by
  rw [wpE]
  congr 1; funext x env st; exact bc_eq _ _ _
theorem we_or {a b : E} : wpE T C X (.orv a b) env st Q = wpE T C X a env st fun x env st => bc x (Q (.d (.bl true)) env st) (wpE T C X b env st Q) := by
  rw [wpE]
  congr 1; funext x env st; exact bc_eq _ _ _
def notQ (x : R) (Q : Bool → Prop) : Prop := match x with
  | .d (.bl b) => Q (!b)
  | _ => False
theorem notQ_bl {b : Bool} {Q : Bool → Prop} : notQ (.d (.bl b)) Q = Q (!b) := rfl
theorem we_not {a : E} : wpE T C X (.notv a) env st Q = wpE T C X a env st fun x env st => notQ x fun b => Q (.d (.bl b)) env st := by
  rw [wpE]
  rfl
theorem we_ite {c a b : E} : wpE T C X (.ite c a b) env st Q = wpE T C X c env st fun x env st => bc x (wpE T C X a env st Q) (wpE T C X b env st Q) := by
  rw [wpE]
  congr 1; funext x env st; exact bc_eq _ _ _
theorem we_tup {es : Es} : wpE T C X (.tup es) env st Q = wpEs T C X es env st fun rs env st => escs rs env st fun ds env st => ds.length ≤ sizeLine ∧ Q (.d (.tup ds)) env st := by rw [wpE]
theorem we_lst {es : Es} : wpE T C X (.lst es) env st Q = wpEs T C X es env st fun rs env st => escs rs env st fun ds env st => ds.length ≤ sizeLine ∧ Q (.tmp ds) env st := by rw [wpE]
theorem we_idx {a b : E} : wpE T C X (.idx a b) env st Q = wpE T C X a env st fun x env st => wpE T C X b env st fun y env st => dr env st x fun x => dr env st y fun y => idxV x y fun r => Q r env st := by rw [wpE]
theorem we_slc {a : E} {lo hi : Eo} : wpE T C X (.slc a lo hi) env st Q = wpE T C X a env st fun x env st => wpO T C X lo env st fun lo env st => wpO T C X hi env st fun hi env st => dr env st x fun x => slcV x lo hi fun r => Q r env st := by rw [wpE]
theorem we_comp {elt : E} {m : Bool} {tg : Tg} {src : Src} {ifs : Eo} {own : List Nat} : wpE T C X (.comp elt m tg src ifs own) env st Q = wpSrc T C X src env st fun ds chk env st => compLoop tg own m (wpE T C (fun _ _ _ => False) elt) (wpT T C (fun _ _ _ => False) ifs) chk Q ds [] env st := by rw [wpE]
theorem we_call {f : String} {es : Es} : wpE T C X (.call f es) env st Q = wpEs T C X es env st fun rs env st => escs rs env st fun ds env st => C f ds st (fun r st => Q r env st) (fun e st => X e env st) := by rw [wpE]
theorem we_bi {b : Bi} {es : Es} : wpE T C X (.bi b es) env st Q = wpEs T C X es env st fun rs env st => drs env st rs fun xs => biV b st xs fun r => Q r env st := by rw [wpE]
theorem we_me {m : Me} {o : E} {es : Es} : wpE T C X (.me m o es) env st Q = wpE T C X o env st fun o env st => dr env st o fun x => meT m x ∧ wpEs T C X es env st fun rs env st => meV m o rs env st Q := by rw [wpE]
theorem we_isi {a : E} {cs : List Ty} : wpE T C X (.isi a cs) env st Q = wpE T C X a env st fun x env st => dr env st x fun x => oq (isTys T.sub st x cs) fun b => Q (.d (.bl b)) env st := by rw [wpE]
theorem we_nil {Q : List (Bool × R) → PEnv → PSto → Prop} : wpEs T C X .nil env st Q = Q [] env st := by rw [wpEs]
theorem we_cons {m : Bool} {e : E} {es : Es} {Q : List (Bool × R) → PEnv → PSto → Prop} : wpEs T C X (.cons m e es) env st Q = wpE T C X e env st fun r env st => wpEs T C X es env st fun rs env st => Q ((m, r) :: rs) env st := by rw [wpEs]
theorem wo_none {Q : Option Int → PEnv → PSto → Prop} : wpO T C X .none env st Q = Q none env st := by rw [wpO]
theorem wo_some {e : E} {Q : Option Int → PEnv → PSto → Prop} : wpO T C X (.some e) env st Q = wpE T C X e env st fun r env st => dr env st r fun x => negQ x fun i => Q (some i) env st := by
  unfold wpO
  rfl
theorem wt_none {Q : Bool → PEnv → PSto → Prop} : wpT T C X .none env st Q = Q true env st := by rw [wpT]
def blQ (x : R) (Q : Bool → Prop) : Prop := match x with
  | .d (.bl b) => Q b
  | _ => False
theorem blQ_bl {b : Bool} {Q : Bool → Prop} : blQ (.d (.bl b)) Q = Q b := rfl
theorem wt_some {e : E} {Q : Bool → PEnv → PSto → Prop} : wpT T C X (.some e) env st Q = wpE T C X e env st fun r env st => blQ r fun b => Q b env st := by
  unfold wpT
  rfl
variable {QS' : QS}
def valQ (r : R) (env : PEnv) (st : PSto) (Q : QS) : Prop := match isStr r env st with
  | some s => Q (strSigns s) (fun _ => True) env st
  | none => srcL r env st Q
theorem wr_val {e : E} : wpSrc T C X (.val e) env st QS' = wpE T C X e env st fun r env st => valQ r env st QS' := by
  unfold wpSrc
  rfl
theorem wr_rng1 {a : E} : wpSrc T C X (.rng1 a) env st QS' = wpE T C X a env st fun r env st => dr env st r fun x => negQ x fun j => small62 j ∧ QS' (rngL 0 j.toNat) (fun _ => True) env st := by
  unfold wpSrc
  rfl
theorem wr_rng2 {a b : E} : wpSrc T C X (.rng2 a b) env st QS' = wpE T C X a env st fun r env st => wpE T C X b env st fun r2 env st => dr env st r fun x => dr env st r2 fun y => negQ x fun i => negQ y fun j => small62 i ∧ small62 j ∧ QS' (rngL i (j - i).toNat) (fun _ => True) env st := by
  rw [wpSrc]
  congr 1; funext x env st; congr 1; funext y env st; congr 1; funext x; congr 1; funext y
  cases x <;> cases y <;> rfl
variable {Dn : Ends}
theorem ws_nil : wpSs T C .nil X Dn env st = Dn.nx env st := by rw [wpSs]
theorem ws_cons {s : S} {ss : Ss} : wpSs T C (.cons s ss) X Dn env st = wpS T C s X { Dn with nx := wpSs T C ss X Dn } env st := by rw [wpSs]
theorem ws_asg {tg : Tg} {e : E} : wpS T C (.asg tg e) X Dn env st = wpE T C X e env st fun r env st => asgR tg r env st Dn.nx := by rw [wpS]
theorem ws_sub {o i e : E} {m : Bool} : wpS T C (.sub o i e m) X Dn env st = wpE T C X e env st fun r env st => wpE T C X o env st fun ro env st => wpE T C X i env st fun ri env st =>
      dr env st ri fun i => esc m r env st fun d env st => setV .non i d ro env st Dn.nx := by rw [wpS]
theorem ws_expr {e : E} : wpS T C (.expr e) X Dn env st = wpE T C X e env st fun _ env st => Dn.nx env st := by rw [wpS]
theorem ws_ret {e : E} : wpS T C (.ret e) X Dn env st = wpE T C X e env st Dn.rt := by rw [wpS]
theorem ws_retn : wpS T C .retn X Dn env st = Dn.rt (.d .non) env st := by rw [wpS]
theorem ws_iff {c : E} {a b : Ss} : wpS T C (.iff c a b) X Dn env st = wpE T C X c env st fun x env st => bc x (wpSs T C a X Dn env st) (wpSs T C b X Dn env st) := by
  rw [wpS]
  congr 1; funext x env st; exact bc_eq _ _ _
theorem ws_for {tg : Tg} {src : Src} {b : Ss} : wpS T C (.forr tg src b) X Dn env st = wpSrc T C X src env st fun ds chk env st => forLoop tg (wpSs T C b X) chk Dn ds env st := by rw [wpS]
theorem ws_raise {c : String} : wpS T C (.raise c) X Dn env st = X ⟨c, []⟩ env st := by rw [wpS]
theorem ws_pass : wpS T C .pass X Dn env st = Dn.nx env st := by rw [wpS]
theorem ws_brk : wpS T C .brk X Dn env st = Dn.bk env st := by rw [wpS]
theorem ws_cnt : wpS T C .cnt X Dn env st = Dn.ct env st := by rw [wpS]
def augQ (o : Option Sl) (Q : Int → Prop) : Prop := match o with
  | some (.val (.int x)) => Q x
  | _ => False
theorem augQ_int {i : Int} {Q : Int → Prop} : augQ (some (.val (.int i))) Q = Q i := rfl
theorem ws_aug {i : Nat} {o : BOp} {e : E} : wpS T C (.aug i o e) X Dn env st = augQ env[i]? fun x => wpE T C X e env st fun r env st => dr env st r fun y => negQ y fun y => augI o x y fun z => Dn.nx (env.set i (.val (.int z))) st := by
  rw [wpS]
  unfold augQ
  cases env[i]? with
  | none => rfl
  | some s =>
    cases s with
    | val d =>
      cases d <;> first
        | rfl
        | (simp only; congr 1; funext x env st; congr 1; funext y; cases y <;> rfl)
    | _ => rfl
end
/-! ### values -/
section
variable {env : PEnv} {st : PSto} {Q : D → Prop}
theorem dr_d {x : D} : dr env st (.d x) Q = oq (derefD st x) Q := rfl
theorem dr_tmp {ds : List D} : dr env st (.tmp ds) Q = Q (.lst ds) := rfl
def brwQ (o : Option Sl) (st : PSto) (Q : D → Prop) : Prop := match o with
  | some (.own ds) => Q (.lst ds)
  | some (.val d) => oq (derefD st d) Q
  | _ => False
theorem dr_brw {i : Nat} : dr env st (.brw i) Q = brwQ env[i]? st Q := by
  unfold dr deref brwQ
  simp only
  cases e : env[i]? with
  | none => rfl
  | some s => cases s <;> rfl
theorem brwQ_own {ds : List D} : brwQ (some (.own ds)) st Q = Q (.lst ds) := rfl
theorem brwQ_val {d : D} : brwQ (some (.val d)) st Q = oq (derefD st d) Q := rfl
theorem oq_some {α : Type} {x : α} {Q : α → Prop} : oq (some x) Q = Q x := rfl
theorem dd_int {i : Int} : derefD st (.int i) = some (.int i) := rfl
theorem dd_str {i : Str} : derefD st (.str i) = some (.str i) := rfl
theorem dd_bl {i : Bool} : derefD st (.bl i) = some (.bl i) := rfl
theorem dd_non : derefD st .non = some .non := rfl
theorem dd_tup {i : List D} : derefD st (.tup i) = some (.tup i) := rfl
theorem dd_lst {i : List D} : derefD st (.lst i) = some (.lst i) := rfl
theorem dd_scr {i : List D} : derefD st (.scr i) = some (.scr i) := rfl
theorem dd_ref {r : Nat} {ds : List D} (h : st[r]? = some (.lst ds)) : derefD st (.ref r) = some (.lst ds) := by
  unfold derefD refD; simp only [h]
variable {K : D → PEnv → PSto → Prop}
theorem esc_d {m : Bool} {x : D} : esc m (.d x) env st K = K x env st := rfl
theorem esc_tf {ds : List D} : esc false (.tmp ds) env st K = K (.lst ds) env st := rfl
theorem esc_tt {ds : List D} : esc true (.tmp ds) env st K = K (.ref st.length) env (st ++ [.lst ds]) := rfl
theorem esc_bv {m : Bool} {i : Nat} {d : D} (h : env[i]? = some (.val d)) : esc m (.brw i) env st K = K d env st := by unfold esc; simp only [h]
theorem esc_bf {i : Nat} {ds : List D} (h : env[i]? = some (.own ds)) : esc false (.brw i) env st K = K (.lst ds) (env.set i (.val (.lst ds))) st := by unfold esc; simp only [h]
theorem esc_bt {i : Nat} {ds : List D} (h : env[i]? = some (.own ds)) : esc true (.brw i) env st K = K (.ref st.length) (env.set i (.val (.ref st.length))) (st ++ [.lst ds]) := by unfold esc; simp only [h]
variable {KK : List D → PEnv → PSto → Prop}
theorem escs_nil : escs [] env st KK = KK [] env st := rfl
theorem escs_cons {m : Bool} {r : R} {rs : List (Bool × R)} : escs ((m, r) :: rs) env st KK = esc m r env st fun d env1 st1 => escs rs env1 st1 fun ds env2 st2 => KK (d :: ds) env2 st2 := rfl
theorem drs_nil {Q : List D → Prop} : drs env st [] Q = Q [] := rfl
theorem drs_cons {m : Bool} {r : R} {rs : List (Bool × R)} {Q : List D → Prop} : drs env st ((m, r) :: rs) Q = dr env st r fun d => drs env st rs fun ds => Q (d :: ds) := rfl
theorem asgR_d {i : Nat} {x : D} {Q : PEnv → PSto → Prop} : asgR (.name i) (.d x) env st Q = Q (env.set i (.val x)) st := rfl
theorem asgR_t {i : Nat} {ds : List D} {Q : PEnv → PSto → Prop} : asgR (.name i) (.tmp ds) env st Q = Q (env.set i (.own ds)) st := rfl
theorem asgR_b {i j : Nat} {Q : PEnv → PSto → Prop} : asgR (.name i) (.brw j) env st Q = esc false (.brw j) env st fun d env st => Q (env.set i (.val d)) st := rfl
theorem asgT_n {i : Nat} {x : D} {Q : PEnv → Prop} : asgT (.name i) x env Q = Q (env.set i (.val x)) := rfl
theorem outR_d {x : D} {Q : R → Prop} : outR (.d x) env Q = Q (.d x) := rfl
theorem outR_t {ds : List D} {Q : R → Prop} : outR (.tmp ds) env Q = Q (.tmp ds) := rfl
theorem outR_bo {i : Nat} {ds : List D} {Q : R → Prop} (h : env[i]? = some (.own ds)) : outR (.brw i) env Q = Q (.tmp ds) := by unfold outR; simp only [h]
theorem wpC_of {T : Tab} {k : Nat} {f : String} {ds : List D} {Q : R → PSto → Prop} {E : Exn → PSto → Prop} {d : FDef} (h : T.fn f = some d) (hl : ds.length = d.np)
    (hb : wpSs T (wpC T k) d.body (fun e _ st => E e st) { nx := fun _ st => Q (.d .non) st, rt := fun r env st => outR r env fun r => Q r st, bk := fun _ _ => False, ct := fun _ _ => False } (ds.map .val ++ List.replicate (d.ns - d.np) .no) st) : wpC T (k + 1) f ds st Q E := by
  unfold wpC
  rw [h]
  exact ⟨hl, hb⟩
end
end PI
set_option maxHeartbeats 1000000
namespace PI
open PySem

/-! ### operators of known values -/
section
variable {i j : Int} {a b : Str} {ds es : List D} {Q : KR} {st : PSto} {env : PEnv}
theorem op_add : opB .add (.int i) (.int j) Q = Q (.d (.int (i + j))) := rfl
theorem op_addS : opB .add (.str a) (.str b) Q = (a.length + b.length ≤ sizeLine ∧ Q (.d (.str (a ++ b)))) := rfl
theorem op_addT : opB .add (.tup ds) (.tup es) Q = (ds.length + es.length ≤ sizeLine ∧ Q (.d (.tup (ds ++ es)))) := rfl
theorem op_addL : opB .add (.lst ds) (.lst es) Q = (ds.length + es.length ≤ sizeLine ∧ Q (.tmp (ds ++ es))) := rfl
theorem op_sub : opB .sub (.int i) (.int j) Q = Q (.d (.int (i - j))) := rfl
theorem op_mul : opB .mul (.int i) (.int j) Q = (CMulW i j ∧ Q (.d (.int (i * j)))) := rfl
theorem op_mulL : opB .mul (.lst ds) (.int j) Q = (-(2 ^ 63) ≤ j ∧ j < 2 ^ 63 ∧ ds.length * j.toNat ≤ sizeLine ∧ Q (.tmp (List.replicate j.toNat ds).flatten)) := rfl
theorem op_fdiv : opB .fdiv (.int i) (.int j) Q = (CDivW j ∧ Q (.d (.int (i / j)))) := rfl
theorem op_mod : opB .mod (.int i) (.int j) Q = (0 < j ∧ Q (.d (.int (i % j)))) := rfl
theorem op_pow : opB .pow (.int i) (.int j) Q = (CPow i j ∧ Q (.d (.int (i ^ j.toNat)))) := rfl
variable {B : Bool → Prop}
theorem cm_eq {x y : D} : cmpV .eq st x y B = eqV st x y B := rfl
theorem cm_ne {x y : D} : cmpV .ne st x y B = eqV st x y fun b => B (!b) := rfl
theorem eq_int : eqV st (.int i) (.int j) B = B (decide (i = j)) := rfl
theorem eq_str : eqV st (.str a) (.str b) B = B (decide (a = b)) := rfl
theorem eq_bl {p q : Bool} : eqV st (.bl p) (.bl q) B = B (decide (p = q)) := rfl
theorem eq_non : eqV st .non .non B = B true := rfl
theorem cm_lt : cmpV .lt st (.int i) (.int j) B = B (decide (i < j)) := rfl
theorem cm_le : cmpV .le st (.int i) (.int j) B = B (decide (i ≤ j)) := rfl
theorem cm_gt : cmpV .gt st (.int i) (.int j) B = B (decide (j < i)) := rfl
theorem cm_ge : cmpV .ge st (.int i) (.int j) B = B (decide (j ≤ i)) := rfl
theorem cm_in {x y : D} : cmpV .isin st x y B = inV st x y B := rfl
theorem cm_notin {x y : D} : cmpV .notin st x y B = inV st x y fun b => B (!b) := rfl
theorem in_sign {c : Nat} : inV st (.str ⟨#[c]⟩) (.str b) B = (∃ d, (⟨#[c]⟩ : Str) = ⟨#[d]⟩ ∧ B (decide (d ∈ b.cps.toList))) := rfl
def isNon : D → Bool
  | .non => true
  | _ => false
theorem cm_is {x : D} : cmpV .isn st x .non B = B (isNon x) := by cases x <;> rfl
theorem cm_isnot {x : D} : cmpV .notn st x .non B = B (!isNon x) := by cases x <;> rfl
theorem ix_lst {x : D} : idxV (.lst ds) (.int i) Q = oq (L2.atI ds i) fun d => Q (.d d) := rfl
theorem ix_scr : idxV (.scr ds) (.int i) Q = oq (L2.atI ds i) fun d => Q (.d d) := rfl
theorem ix_tup : idxV (.tup ds) (.int i) Q = oq (L2.atI ds i) fun d => Q (.d d) := rfl
theorem ix_str : idxV (.str a) (.int i) Q = (a.length ≤ sizeLine ∧ oq (L2.atI a.cps.toList i) fun c => Q (.d (.str ⟨#[c]⟩))) := rfl
theorem at_0 {α : Type} {x : α} {l : List α} : L2.atI (x :: l) 0 = some x := L2.atI_nat (j := 0) rfl
theorem at_1 {α : Type} {x y : α} {l : List α} : L2.atI (x :: y :: l) 1 = some y := L2.atI_nat (j := 1) rfl
theorem at_2 {α : Type} {x y z : α} {l : List α} : L2.atI (x :: y :: z :: l) 2 = some z := L2.atI_nat (j := 2) rfl
theorem at_3 {α : Type} {x y z u : α} {l : List α} : L2.atI (x :: y :: z :: u :: l) 3 = some u := L2.atI_nat (j := 3) rfl
theorem sl_tup {lo hi : Option Int} : slcV (.tup ds) lo hi Q = Q (.d (.tup (cutD ds lo hi))) := rfl
theorem sl_lst {lo hi : Option Int} : slcV (.lst ds) lo hi Q = Q (.tmp (cutD ds lo hi)) := rfl
theorem sl_scr {lo hi : Option Int} : slcV (.scr ds) lo hi Q = Q (.tmp (cutD ds lo hi)) := rfl
theorem cut_to {n : Nat} : cutD ds none (some (n : Int)) = ds.take n := by
  unfold cutD
  rw [HT.sIx_nat, HT.sIx_none]
  simp [List.take_eq_take_min]
theorem cut_from {n : Nat} : cutD ds (some (n : Int)) none = ds.drop n := by
  unfold cutD
  rw [HT.sIx_nat, HT.sIx_none]
  rcases Nat.le_total n ds.length with h | h
  · rw [Nat.min_eq_left h]
    exact List.take_of_length_le (by simp)
  · rw [Nat.min_eq_right h, List.drop_of_length_le h, List.drop_of_length_le (Nat.le_refl _)]
    simp
theorem cut_mid {n m : Nat} (h : n ≤ m) : cutD ds (some (n : Int)) (some (m : Int)) = (ds.take m).drop n := by
  unfold cutD
  rw [HT.sIx_nat, HT.sIx_nat, List.drop_take]
  rcases Nat.le_total n ds.length with h1 | h1
  · rw [Nat.min_eq_left h1]
    rcases Nat.le_total m ds.length with h2 | h2
    · rw [Nat.min_eq_left h2]
    · rw [Nat.min_eq_right h2, List.take_of_length_le (by simp), List.take_of_length_le (by simp; omega)]
  · rw [Nat.min_eq_right h1, List.drop_of_length_le (Nat.le_refl _), List.drop_of_length_le h1]
    simp
theorem bi_lenL : biV .len st [.lst ds] Q = Q (.d (.int ds.length)) := rfl
theorem bi_lenR : biV .len st [.scr ds] Q = Q (.d (.int ds.length)) := rfl
theorem bi_lenT : biV .len st [.tup ds] Q = Q (.d (.int ds.length)) := rfl
theorem bi_lenS : biV .len st [.str a] Q = (a.length ≤ sizeLine ∧ Q (.d (.int a.length))) := rfl
theorem bi_abs : biV .abs st [.int i] Q = Q (.d (.int (if i < 0 then -i else i))) := rfl
theorem bi_max : biV .max2 st [.int i, .int j] Q = Q (.d (.int (max i j))) := rfl
theorem bi_min : biV .min2 st [.int i, .int j] Q = Q (.d (.int (min i j))) := rfl
theorem bi_intI : biV .int1 st [.int i] Q = Q (.d (.int i)) := rfl
theorem bi_intB {p : Bool} : biV .int1 st [.bl p] Q = Q (.d (.int (if p then 1 else 0))) := rfl
theorem bi_listL : biV .list1 st [.lst ds] Q = Q (.tmp ds) := rfl
theorem bi_listT : biV .list1 st [.tup ds] Q = Q (.tmp ds) := rfl
theorem bi_listR : biV .list1 st [.scr ds] Q = Q (.tmp ds) := rfl
theorem bi_tupL : biV .tuple1 st [.lst ds] Q = Q (.d (.tup ds)) := rfl
theorem bi_tupT : biV .tuple1 st [.tup ds] Q = Q (.d (.tup ds)) := rfl
theorem bi_all : biV .all st [.lst ds] Q = oq (asBls ds) fun ns => Q (.d (.bl (ns.all id))) := rfl
theorem bi_any : biV .any st [.lst ds] Q = oq (asBls ds) fun ns => Q (.d (.bl (ns.any id))) := rfl
theorem bi_sum : biV .sum st [.lst ds] Q = oq (asInts ds) fun ns => Q (.d (.int ns.sum)) := rfl
theorem bi_lenset : biV .lenset st [.lst ds] Q = oq (asStrs ds) fun ns => ns.length ≤ 4000 ∧ Q (.d (.int ((dedS ns).length : Nat))) := rfl
theorem bi_repr {x : D} : biV .repr st [x] Q = vw st x fun p => seqD p ∧ p.showable = true ∧ p.depth ≤ 12 ∧ p.shown.length ≤ sizeLine ∧ Q (.d (.str p.shown)) := by cases x <;> rfl
variable {K : PEnv → PSto → Prop}
theorem ixN_of {n j : Nat} (hj : j < n) : L2.ixN n (j : Int) = some j := by
  unfold L2.ixN
  rw [if_pos (by omega), if_pos (by omega)]
  simp
theorem ixL0 {α : Type} {x : α} {l : List α} : L2.ixN (x :: l).length 0 = some 0 := ixN_of (j := 0) (by simp)
theorem ixL1 {α : Type} {x y : α} {l : List α} : L2.ixN (x :: y :: l).length 1 = some 1 := ixN_of (j := 1) (by simp)
theorem ixL2 {α : Type} {x y z : α} {l : List α} : L2.ixN (x :: y :: z :: l).length 2 = some 2 := ixN_of (j := 2) (by simp)
theorem setV_ref {k : Nat} {d : D} (h : st[k]? = some (.lst ds)) : setV .non (.int i) d (.d (.ref k)) env st K = oq (L2.ixN ds.length i) fun j => K env (st.set k (.lst (ds.set j d))) := by
  unfold setV modL; simp only [h]
theorem setV_own {k : Nat} {d : D} (h : env[k]? = some (.own ds)) : setV .non (.int i) d (.brw k) env st K = oq (L2.ixN ds.length i) fun j => K (env.set k (.own (ds.set j d))) st := by
  unfold setV modL; simp only [h]
theorem au_add {B : Int → Prop} : augI .add i j B = B (i + j) := rfl
theorem au_sub {B : Int → Prop} : augI .sub i j B = B (i - j) := rfl
theorem st_set {r : Nat} {c x : Cell} (h : st[r]? = some c) : (st.set r x)[r]? = some x := by
  rw [List.getElem?_set_self]
  exact (List.getElem?_eq_some_iff.mp h).1
/-! methods -/
variable {QQ : R → PEnv → PSto → Prop} {m : Bool} {r : R} {d : D}
theorem me_app : meV .append (.d d) [(m, r)] env st QQ = esc m r env st fun x env st => modL (.d d) env st (fun ds K => ds.length < sizeLine ∧ K (ds ++ [x]) (.d .non)) QQ := rfl
theorem me_appB {k : Nat} : meV .append (.brw k) [(m, r)] env st QQ = esc m r env st fun x env st => modL (.brw k) env st (fun ds K => ds.length < sizeLine ∧ K (ds ++ [x]) (.d .non)) QQ := rfl
theorem modL_ref {F : List D → (List D → R → Prop) → Prop} {k : Nat} (h : st[k]? = some (.lst ds)) : modL (.d (.ref k)) env st F QQ = F ds fun ds' r => QQ r env (st.set k (.lst ds')) := by unfold modL; simp only [h]
theorem modL_own {F : List D → (List D → R → Prop) → Prop} {k : Nat} (h : env[k]? = some (.own ds)) : modL (.brw k) env st F QQ = F ds fun ds' r => QQ r (env.set k (.own ds')) st := by unfold modL; simp only [h]
end
end PI
set_option maxHeartbeats 1000000
namespace PI
open PySem

section
variable {env : PEnv} {st : PSto} {ds : List D}
/-! own lists of the frame -/
def escQ (m : Bool) (o : Option Sl) (i : Nat) (env : PEnv) (st : PSto) (K : D → PEnv → PSto → Prop) : Prop := match o with
  | some (.own ds) => match m with
    | false => K (.lst ds) (env.set i (.val (.lst ds))) st
    | true => K (.ref st.length) (env.set i (.val (.ref st.length))) (st ++ [.lst ds])
  | some (.val d) => K d env st
  | _ => False
variable {K : D → PEnv → PSto → Prop}
theorem esc_b {m : Bool} {i : Nat} : esc m (.brw i) env st K = escQ m env[i]? i env st K := by
  unfold esc escQ
  rfl
theorem escQ_f {i : Nat} : escQ false (some (.own ds)) i env st K = K (.lst ds) (env.set i (.val (.lst ds))) st := rfl
theorem escQ_t {i : Nat} : escQ true (some (.own ds)) i env st K = K (.ref st.length) (env.set i (.val (.ref st.length))) (st ++ [.lst ds]) := rfl
theorem escQ_v {m : Bool} {i : Nat} {d : D} : escQ m (some (.val d)) i env st K = K d env st := by cases m <;> rfl
def outQ (o : Option Sl) (Q : R → Prop) : Prop := match o with
  | some (.own ds) => Q (.tmp ds)
  | some (.val d) => Q (.d d)
  | _ => False
theorem outR_b {i : Nat} {Q : R → Prop} : outR (.brw i) env Q = outQ env[i]? Q := by unfold outR outQ; rfl
theorem outQ_o {Q : R → Prop} : outQ (some (.own ds)) Q = Q (.tmp ds) := rfl
theorem outQ_v {d : D} {Q : R → Prop} : outQ (some (.val d)) Q = Q (.d d) := rfl
def modQ (o : Option Sl) (i : Nat) (env : PEnv) (st : PSto) (F : List D → (List D → R → Prop) → Prop) (Q : R → PEnv → PSto → Prop) : Prop := match o with
  | some (.own ds) => F ds fun ds' r => Q r (env.set i (.own ds')) st
  | _ => False
variable {F : List D → (List D → R → Prop) → Prop} {QQ : R → PEnv → PSto → Prop}
theorem modL_b {i : Nat} : modL (.brw i) env st F QQ = modQ env[i]? i env st F QQ := by unfold modL modQ; rfl
theorem modQ_o {i : Nat} : modQ (some (.own ds)) i env st F QQ = F ds fun ds' r => QQ r (env.set i (.own ds')) st := rfl
/-! sources -/
theorem is_tmp : isStr (.tmp ds) env st = none := rfl
theorem is_tup : isStr (.d (.tup ds)) env st = none := rfl
theorem is_lst : isStr (.d (.lst ds)) env st = none := rfl
theorem is_scr : isStr (.d (.scr ds)) env st = none := rfl
theorem is_str {s : Str} : isStr (.d (.str s)) env st = some s := rfl
theorem is_ref {r : Nat} (h : st[r]? = some (.lst ds)) : isStr (.d (.ref r)) env st = none := by
  unfold isStr deref derefD refD; simp only [h]
def isQ (o : Option Sl) (st : PSto) : Option Str := match o with
  | some (.own _) => none
  | some (.val d) => (match derefD st d with
    | some (.str s) => some s
    | _ => none)
  | _ => none
theorem is_b {i : Nat} : isStr (.brw i) env st = isQ env[i]? st := by
  unfold isStr deref isQ
  simp only
  cases env[i]? with
  | none => rfl
  | some s => cases s <;> rfl
theorem isQ_o : isQ (some (.own ds)) st = none := rfl
variable {Q : QS}
theorem sr_tmp : srcL (.tmp ds) env st Q = Q ds (fun _ => True) env st := rfl
theorem sr_tup : srcL (.d (.tup ds)) env st Q = Q ds (fun _ => True) env st := rfl
theorem sr_lst : srcL (.d (.lst ds)) env st Q = Q ds (fun _ => True) env st := rfl
theorem sr_scr : srcL (.d (.scr ds)) env st Q = Q ds (fun _ => True) env st := rfl
theorem sr_ref {r : Nat} (h : st[r]? = some (.lst ds)) : srcL (.d (.ref r)) env st Q = Q ds (fun st' => ∃ c, st'[r]? = some (.lst c) ∧ c = ds) env st := by
  unfold srcL; simp only [h]
def srQ (o : Option Sl) (i : Nat) (env : PEnv) (st : PSto) (Q : QS) : Prop := match o with
  | some (.own ds) => Q ds (fun _ => True) (env.set i (.val (.lst ds))) st
  | some (.val (.lst ds)) => Q ds (fun _ => True) env st
  | some (.val (.tup ds)) => Q ds (fun _ => True) env st
  | _ => False
theorem sr_b {i : Nat} : srcL (.brw i) env st Q = srQ env[i]? i env st Q := by
  unfold srcL esc srQ
  cases h : env[i]? with
  | none => simp only [h]
  | some s =>
    cases s with
    | val d => cases d <;> simp only [h]
    | _ => simp only [h]
theorem srQ_o {i : Nat} : srQ (some (.own ds)) i env st Q = Q ds (fun _ => True) (env.set i (.val (.lst ds))) st := rfl
end
section
variable {env : PEnv} {st : PSto} {ds : List D} {Q : QS}
theorem vq_tmp : valQ (.tmp ds) env st Q = Q ds (fun _ => True) env st := rfl
theorem vq_tup : valQ (.d (.tup ds)) env st Q = Q ds (fun _ => True) env st := rfl
theorem vq_lst : valQ (.d (.lst ds)) env st Q = Q ds (fun _ => True) env st := rfl
theorem vq_scr : valQ (.d (.scr ds)) env st Q = Q ds (fun _ => True) env st := rfl
theorem vq_str {s : Str} : valQ (.d (.str s)) env st Q = Q (strSigns s) (fun _ => True) env st := rfl
theorem vq_ref {r : Nat} (h : st[r]? = some (.lst ds)) : valQ (.d (.ref r)) env st Q = Q ds (fun st' => ∃ c, st'[r]? = some (.lst c) ∧ c = ds) env st := by
  unfold valQ
  rw [is_ref h, sr_ref h]
def vQ (o : Option Sl) (i : Nat) (env : PEnv) (st : PSto) (Q : QS) : Prop := match o with
  | some (.own ds) => Q ds (fun _ => True) (env.set i (.val (.lst ds))) st
  | _ => valQ (.brw i) env st Q
theorem vq_b {i : Nat} : valQ (.brw i) env st Q = vQ env[i]? i env st Q := by
  unfold vQ
  cases h : env[i]? with
  | none => rfl
  | some s =>
    cases s with
    | own ds =>
      unfold valQ
      rw [is_b, h, isQ_o, sr_b, h, srQ_o]
    | _ => rfl
theorem vQ_o {i : Nat} : vQ (some (.own ds)) i env st Q = Q ds (fun _ => True) (env.set i (.val (.lst ds))) st := rfl
end
/-! loops -/
theorem for_ind {tg : Tg} {body : Ends → PEnv → PSto → Prop} {chk : PSto → Prop} {Dn : Ends} (I : List D → PEnv → PSto → Prop) (nil : ∀ env st, I [] env st → chk st ∧ Dn.nx env st)
    (step : ∀ x xs, (∀ env st, I xs env st → forLoop tg body chk Dn xs env st) → ∀ env st, I (x :: xs) env st → chk st ∧ asgT tg x env fun env => body { nx := forLoop tg body chk Dn xs, rt := Dn.rt, bk := Dn.nx, ct := forLoop tg body chk Dn xs } env st) :
    ∀ ds env st, I ds env st → forLoop tg body chk Dn ds env st := by
  intro ds
  induction ds with
  | nil => exact fun env st h => nil env st h
  | cons x xs ih => exact fun env st h => step x xs ih env st h
theorem comp_ind {tg : Tg} {own : List Nat} {m : Bool} {elt : PEnv → PSto → QE → Prop} {tst : PEnv → PSto → (Bool → PEnv → PSto → Prop) → Prop} {chk : PSto → Prop} {Q : QE} {env : PEnv} (I : List D → List D → PSto → Prop)
    (nil : ∀ acc st, I [] acc st → chk st ∧ Q (.tmp acc) env st)
    (step : ∀ x xs, (∀ acc st, I xs acc st → compLoop tg own m elt tst chk Q xs acc env st) → ∀ acc st, I (x :: xs) acc st → chk st ∧ asgT tg x (wipeE env own) fun env1 => tst env1 st fun b env2 st2 => match b with
      | true => elt env2 st2 fun r env3 st3 => esc m r env3 st3 fun d env4 st4 => acc.length < sizeLine ∧ compLoop tg own m elt tst chk Q xs (acc ++ [d]) (backE env env4 own) st4
      | false => compLoop tg own m elt tst chk Q xs acc (backE env env2 own) st2) :
    ∀ ds acc st, I ds acc st → compLoop tg own m elt tst chk Q ds acc env st := by
  intro ds
  induction ds with
  | nil => exact fun acc st h => nil acc st h
  | cons x xs ih => exact fun acc st h => step x xs ih acc st h
theorem wipe1 {env : PEnv} {i : Nat} : wipeE env [i] = env.set i .no := rfl
theorem back1 {env : PEnv} {i : Nat} {x : D} : backE env (env.set i (.val x)) [i] = env := by
  show (env.set i (.val x)).set i (env.getD i .no) = env
  rw [List.set_set]
  apply List.ext_getElem?
  intro j
  by_cases h : i = j
  · subst h
    by_cases hi : i < env.length
    · rw [List.getElem?_set_self hi]
      simp [List.getD, hi]
    · rw [List.getElem?_eq_none (by simpa using hi), List.getElem?_eq_none (by simpa using hi)]
  · rw [List.getElem?_set_ne h]
/-- a comprehension whose items tell a value each and change nothing -/
theorem comp_map {i : Nat} {m : Bool} {elt : PEnv → PSto → QE → Prop} {chk : PSto → Prop} {Q : QE} {env : PEnv} {st : PSto} {g : D → D} {T : Tab} {C : CallT} {X : QX} {ds : List D} (hc : chk st) (hl : ds.length ≤ sizeLine)
    (he : ∀ x ∈ ds, ∀ Q : QE, Q (.d (g x)) (env.set i (.val x)) st → elt (env.set i (.val x)) st Q) (q : Q (.tmp (ds.map g)) env st) : compLoop (.name i) [i] m elt (wpT T C X .none) chk Q ds [] env st := by
  have main : ∀ (xs acc : List D), acc.length + xs.length ≤ sizeLine → (∀ x ∈ xs, x ∈ ds) → acc ++ xs.map g = ds.map g → compLoop (.name i) [i] m elt (wpT T C X .none) chk Q xs acc env st := by
    intro xs
    induction xs with
    | nil =>
      intro acc _ _ e
      rw [List.map_nil, List.append_nil] at e
      rw [e]
      exact ⟨hc, q⟩
    | cons x xs ih =>
      intro acc hl hx e
      rw [List.length_cons] at hl
      unfold compLoop
      refine ⟨hc, ?_⟩
      rw [asgT_n, wipe1, List.set_set, wt_none]
      simp only
      refine he x (hx x List.mem_cons_self) _ ?_
      rw [esc_d, back1]
      refine ⟨by omega, ih _ (by simp; omega) (fun y hy => hx y (List.mem_cons_of_mem _ hy)) ?_⟩
      rw [List.append_assoc]
      exact e
  exact main ds [] (by simpa using hl) (fun _ h => h) (by simp)
end PI
set_option maxHeartbeats 1000000
namespace PI
open PySem

section
variable {env : PEnv} {st : PSto} {ds : List D}
/-- a comprehension with a test, where nothing changes -/
theorem comp_filt {i : Nat} {m : Bool} {elt : PEnv → PSto → QE → Prop} {tst : PEnv → PSto → (Bool → PEnv → PSto → Prop) → Prop} {chk : PSto → Prop} {Q : QE} {g : D → D} {p : D → Bool} (hc : chk st) (hl : ds.length ≤ sizeLine)
    (ht : ∀ x ∈ ds, ∀ Q : Bool → PEnv → PSto → Prop, Q (p x) (env.set i (.val x)) st → tst (env.set i (.val x)) st Q)
    (he : ∀ x ∈ ds, p x = true → ∀ Q : QE, Q (.d (g x)) (env.set i (.val x)) st → elt (env.set i (.val x)) st Q) (q : Q (.tmp ((ds.filter p).map g)) env st) : compLoop (.name i) [i] m elt tst chk Q ds [] env st := by
  have main : ∀ (xs acc : List D), acc.length + xs.length ≤ sizeLine → (∀ x ∈ xs, x ∈ ds) → acc ++ (xs.filter p).map g = (ds.filter p).map g → compLoop (.name i) [i] m elt tst chk Q xs acc env st := by
    intro xs
    induction xs with
    | nil =>
      intro acc _ _ e
      rw [List.filter_nil, List.map_nil, List.append_nil] at e
      rw [e]
      exact ⟨hc, q⟩
    | cons x xs ih =>
      intro acc hl hx e
      rw [List.length_cons] at hl
      unfold compLoop
      refine ⟨hc, ?_⟩
      rw [asgT_n, wipe1, List.set_set]
      refine ht x (hx x List.mem_cons_self) _ ?_
      cases hp : p x with
      | true =>
        simp only
        refine he x (hx x List.mem_cons_self) hp _ ?_
        rw [esc_d, back1]
        refine ⟨by omega, ih _ (by simp; omega) (fun y hy => hx y (List.mem_cons_of_mem _ hy)) ?_⟩
        rw [List.append_assoc]
        rw [List.filter_cons_of_pos hp] at e
        exact e
      | false =>
        simp only
        rw [back1]
        refine ih _ (by omega) (fun y hy => hx y (List.mem_cons_of_mem _ hy)) ?_
        rw [List.filter_cons_of_neg (by rw [hp]; decide)] at e
        exact e
  exact main ds [] (by simpa using hl) (fun _ h => h) (by simp)
theorem mt_app : meT .append (.lst ds) = True := by simp [meT]
theorem mt_pop0 : meT .pop0 (.lst ds) = True := by simp [meT]
theorem mt_pop1 : meT .pop1 (.lst ds) = True := by simp [meT]
theorem mt_ins : meT .insert (.lst ds) = True := by simp [meT]
theorem mt_clear : meT .clear (.lst ds) = True := by simp [meT]
theorem mt_rev : meT .reverse (.lst ds) = True := by simp [meT]
theorem mt_join {s : Str} : meT .join (.str s) = True := by simp [meT]
variable {Q : R → PEnv → PSto → Prop} {m : Bool} {r o : R}
def strLst (s x : D) (K : Str → List D → Prop) : Prop := match s, x with
  | .str s, .lst ds => K s ds
  | _, _ => False
theorem strLst_i {s : Str} {K : Str → List D → Prop} : strLst (.str s) (.lst ds) K = K s ds := rfl
theorem me_join : meV .join o [(m, r)] env st Q = dr env st o fun s => dr env st r fun x => strLst s x fun s ds => oq (asStrs ds) fun ys => (ys.map (·.length)).sum + ys.length * s.length ≤ 16777216 ∧ Q (.d (.str (Txt.join s ys))) env st := by
  unfold meV
  rfl
theorem me_clear : meV .clear o [] env st Q = modL o env st (fun _ K => K [] (.d .non)) Q := by
  unfold meV
  rfl
theorem me_rev : meV .reverse o [] env st Q = modL o env st (fun ds K => K ds.reverse (.d .non)) Q := by
  unfold meV
  rfl
theorem me_pop1 : meV .pop1 o [(m, r)] env st Q = dr env st r fun x => negQ x fun i => (-(2 ^ 63) ≤ i ∧ i < 2 ^ 63) ∧ modL o env st (fun ds K => oq (L2.ixN ds.length i) fun k => oq ds[k]? fun d => K (ds.eraseIdx k) (.d d)) Q := by
  unfold meV
  rfl
theorem me_ins {b : Bool} {i : R} : meV .insert o [(b, i), (m, r)] env st Q = dr env st i fun x => negQ x fun i => esc m r env st fun d env st => modL o env st (fun ds K => ds.length < sizeLine ∧ 0 ≤ i ∧ i < 2 ^ 63 ∧ K (ds.take i.toNat ++ d :: ds.drop i.toNat) (.d .non)) Q := by
  unfold meV
  rfl
theorem asStrs_map : ∀ ns : List Str, asStrs (ns.map D.str) = some ns
  | [] => rfl
  | n :: ns => by
    show (asStrs (ns.map D.str)).map (n :: ·) = _
    rw [asStrs_map ns]
    rfl
theorem asBls_map : ∀ ns : List Bool, asBls (ns.map D.bl) = some ns
  | [] => rfl
  | n :: ns => by
    show (asBls (ns.map D.bl)).map (n :: ·) = _
    rw [asBls_map ns]
    rfl
theorem asInts_map : ∀ ns : List Int, asInts (ns.map D.int) = some ns
  | [] => rfl
  | n :: ns => by
    show (asInts (ns.map D.int)).map (n :: ·) = _
    rw [asInts_map ns]
    rfl
theorem mapO_map {α β γ : Type} {f : β → Option γ} {g : α → β} {h : α → γ} : ∀ {xs : List α}, (∀ x ∈ xs, f (g x) = some (h x)) → mapO f (xs.map g) = some (xs.map h)
  | [], _ => rfl
  | x :: xs, e => by
    show (match f (g x) with
      | some y => match mapO f (xs.map g) with
        | some ys => some (y :: ys)
        | none => none
      | none => none) = _
    rw [e x List.mem_cons_self, mapO_map fun y hy => e y (List.mem_cons_of_mem _ hy)]
    rfl
theorem view_strs {n : Nat} (ns : List Str) : D.view st (n + 2) (.lst (ns.map D.str)) = some (.list (ns.map PyData.str)) := by
  unfold D.view
  rw [mapO_map (h := PyData.str) fun x _ => by unfold D.view; rfl]
  rfl
theorem strs_shaped {ns : List Str} (h : ∀ n ∈ ns, PyData.strOk n = true) : SeqAt.shaped (.list (ns.map PyData.str)) = true := by
  have h1 : PyData.canLayAll0 (ns.map PyData.str) = true := by
    induction ns with
    | nil => rfl
    | cons n ns ih =>
      show (PyData.canLay0 (.str n) && PyData.canLayAll0 (ns.map PyData.str)) = true
      rw [ih fun m hm => h m (List.mem_cons_of_mem _ hm)]
      have := h n List.mem_cons_self
      show (PyData.strOk n && true) = true
      rw [this]
      rfl
  have h2 : PyData.depthAll (ns.map PyData.str) = 0 := by
    clear h h1
    induction ns with
    | nil => rfl
    | cons n ns ih =>
      show max 0 (PyData.depthAll (ns.map PyData.str)) = 0
      rw [ih]
      rfl
  unfold SeqAt.shaped PyData.canLay0 PyData.depth
  rw [h1, h2]
  rfl
/-- a text in a list of texts -/
theorem in_strs {a : Str} {ns : List Str} {B : Bool → Prop} (ha : PyData.strOk a = true) (hn : ∀ n ∈ ns, PyData.strOk n = true) (h : B (decide (a ∈ ns))) : inV st (.str a) (.lst (ns.map D.str)) B := by
  show vw st (.str a) fun p => vw st (.lst (ns.map D.str)) fun q => SeqAt.shaped p = true ∧ SeqAt.shaped q = true ∧ match q with
      | .list ds => B (ds.any fun z => PyData.eqv z p)
      | _ => False
  unfold vw
  rw [view_strs]
  refine ⟨?_, strs_shaped hn, ?_⟩
  · show (PyData.strOk a && true) = true
    rw [ha]
    rfl
  · have e : ((ns.map PyData.str).any fun z => PyData.eqv z (.str a)) = decide (a ∈ ns) := by
      clear h hn
      induction ns with
      | nil => rfl
      | cons n ns ih =>
        show (PyData.eqv (.str n) (.str a) || (ns.map PyData.str).any fun z => PyData.eqv z (.str a)) = _
        rw [ih]
        show ((n == a) || decide (a ∈ ns)) = decide (a ∈ n :: ns)
        by_cases e : n = a
        · subst e; simp
        · have e2 : a ≠ n := fun z => e z.symm
          simp [e, e2]
    show B _
    rw [e]
    exact h
end
/-! texts as lists of signs -/
abbrev sg (s : Str) : List Nat := s.cps.toList
theorem sg_app (a b : Str) : sg (a ++ b) = sg a ++ sg b := by
  show (a.cps ++ b.cps).toList = _
  rw [Array.toList_append]
theorem sg_len (s : Str) : s.length = (sg s).length := by
  show s.cps.size = s.cps.toList.length
  rw [Array.length_toList]
theorem sg_inj {a b : Str} (h : sg a = sg b) : a = b := by
  cases a; cases b
  congr 1
  exact Array.toList_inj.mp h
theorem sg_join (ys : List Str) : sg (Txt.join (Str.ofString "") ys) = (ys.map sg).flatten := by
  have e0 : (Str.ofString "").cps = #[] := by decide +kernel
  have main : ∀ (l : List Str) (a : Array Nat), (l.foldl (fun acc p => acc ++ (Str.ofString "").cps ++ p.cps) a).toList = a.toList ++ (l.map sg).flatten := by
    intro l
    induction l with
    | nil => intro a; simp
    | cons x l ih =>
      intro a
      rw [List.foldl_cons, ih, e0]
      simp [sg]
  cases ys with
  | nil => decide +kernel
  | cons y ys =>
    show (List.foldl _ y.cps ys).toList = _
    rw [main]
    rfl
def strOk_of {s : Str} (h : ∀ c ∈ sg s, c < 1114112) : PyData.strOk s = true := by
  unfold PyData.strOk
  rw [Array.all_eq_true]
  intro i hi
  have : s.cps[i] ∈ sg s := by simp [sg]
  have := h _ this
  exact decide_eq_true this
end PI
set_option maxHeartbeats 1000000
namespace PI
open PySem

def cellQ (o : Option Sl) (i : Nat) (env : PEnv) (st : PSto) (Dn : Ends) : Prop := match o with
  | some (.own ds) => Dn.nx (env.set i (.val (.ref st.length))) (st ++ [.lst ds])
  | some (.val _) => Dn.nx env st
  | _ => False
section
variable {env : PEnv} {st : PSto} {ds : List D}
theorem ws_cell {T : Tab} {C : CallT} {i : Nat} {X : QX} {Dn : Ends} : wpS T C (.cell i) X Dn env st = cellQ env[i]? i env st Dn := by
  rw [wpS]
  rfl
theorem cellQ_o {i : Nat} {Dn : Ends} : cellQ (some (.own ds)) i env st Dn = Dn.nx (env.set i (.val (.ref st.length))) (st ++ [.lst ds]) := rfl
theorem cellQ_v {d : D} {i : Nat} {Dn : Ends} : cellQ (some (.val d)) i env st Dn = Dn.nx env st := rfl
theorem mt_index : meT .index (.lst ds) = True := by simp [meT]
theorem mt_count : meT .count (.lst ds) = True := by simp [meT]
variable {Q : R → PEnv → PSto → Prop} {m : Bool} {r o : R}
theorem me_index : meV .index o [(m, r)] env st Q = dr env st o fun x => dr env st r fun y => ixOf x y fun j => Q (.d (.int (j : Nat))) env st := by
  unfold meV
  rfl
theorem me_count : meV .count o [(m, r)] env st Q = dr env st o fun x => dr env st r fun y => cntOf x y fun j => Q (.d (.int (j : Nat))) env st := by
  unfold meV
  rfl
theorem ixOf_strs {ns : List Str} {s : Str} {j : Nat} {K : Nat → Prop} (h : ns[j]? = some s) (hn : ns.Nodup) (k : K j) : ixOf (.lst (ns.map D.str)) (.str s) K := by
  show oq (asStrs (ns.map D.str)) _
  rw [asStrs_map]
  refine ⟨j, h, fun i hi e => ?_, k⟩
  obtain ⟨h1, e1⟩ := List.getElem?_eq_some_iff.mp h
  obtain ⟨h2, e2⟩ := List.getElem?_eq_some_iff.mp e
  have := (List.getElem_inj hn (h₀ := h2) (h₁ := h1)).mp (e2.trans e1.symm)
  omega
theorem back_eq {env env' : PEnv} {own : List Nat} (hl : env'.length = env.length) (h : ∀ i, i ∉ own → env'[i]? = env[i]?) : backE env env' own = env := by
  apply List.ext_getElem?
  intro i
  rw [backE_get env env' hl]
  split
  · rfl
  · rename_i e; exact h i e
theorem asgT_2 {i j : Nat} {a b : D} {Q : PEnv → Prop} : asgT (.tup [i, j]) (.tup [a, b]) env Q = Q ((env.set i (.val a)).set j (.val b)) := by
  unfold asgT
  simp only [asgN]
/-- the frame of a comprehension over pairs -/
def env2 (env : PEnv) (i j : Nat) (a b : D) : PEnv := ((wipeE env [i, j]).set i (.val a)).set j (.val b)
theorem back2 {i j : Nat} {a b : D} : backE env (env2 env i j a b) [i, j] = env := by
  refine back_eq (by unfold env2 wipeE wipeE wipeE; simp) fun n hn => ?_
  simp only [List.mem_cons, List.not_mem_nil, or_false, not_or] at hn
  unfold env2 wipeE wipeE wipeE
  rw [List.getElem?_set_ne (Ne.symm hn.2), List.getElem?_set_ne (Ne.symm hn.1), List.getElem?_set_ne (Ne.symm hn.1), List.getElem?_set_ne (Ne.symm hn.2)]
/-- a comprehension over pairs whose items tell a value each and change nothing -/
theorem comp_map2 {i j : Nat} {m : Bool} {elt : PEnv → PSto → QE → Prop} {chk : PSto → Prop} {Q : QE} {g : D → D} {T : Tab} {C : CallT} {X : QX} (hc : chk st) (hl : ds.length ≤ sizeLine) (hp : ∀ x ∈ ds, ∃ a b, x = .tup [a, b])
    (he : ∀ a b, D.tup [a, b] ∈ ds → ∀ Q : QE, Q (.d (g (.tup [a, b]))) (env2 env i j a b) st → elt (env2 env i j a b) st Q) (q : Q (.tmp (ds.map g)) env st) : compLoop (.tup [i, j]) [i, j] m elt (wpT T C X .none) chk Q ds [] env st := by
  have main : ∀ (xs acc : List D), acc.length + xs.length ≤ sizeLine → (∀ x ∈ xs, x ∈ ds) → acc ++ xs.map g = ds.map g → compLoop (.tup [i, j]) [i, j] m elt (wpT T C X .none) chk Q xs acc env st := by
    intro xs
    induction xs with
    | nil =>
      intro acc _ _ e
      rw [List.map_nil, List.append_nil] at e
      rw [e]
      exact ⟨hc, q⟩
    | cons x xs ih =>
      intro acc hl hx e
      rw [List.length_cons] at hl
      obtain ⟨a, b, rfl⟩ := hp x (hx x List.mem_cons_self)
      unfold compLoop
      refine ⟨hc, ?_⟩
      rw [asgT_2, wt_none]
      show elt (env2 env i j a b) st _
      refine he a b (hx _ List.mem_cons_self) _ ?_
      rw [esc_d, back2]
      refine ⟨by omega, ih _ (by simp; omega) (fun y hy => hx y (List.mem_cons_of_mem _ hy)) ?_⟩
      rw [List.append_assoc]
      exact e
  exact main ds [] (by simpa using hl) (fun _ h => h) (by simp)
end
end PI
set_option maxHeartbeats 1000000
namespace LW
open PySem PI

def M61 : Int := 2305843009213693951
/-- the spring in the cell r: its three numbers, so many draws at most -/
structure Spr (c : Nat) (r : Nat) (st : PSto) : Prop where
  ex : ∃ F S N : Int, st[r]? = some (.lst [.int F, .int S, .int N]) ∧ 0 ≤ F ∧ 0 ≤ S ∧ S < M61 ∧ 0 ≤ N ∧ N ≤ c
theorem Spr.mono {c d r : Nat} {st : PSto} (h : Spr c r st) (hd : c ≤ d) : Spr d r st := by
  obtain ⟨F, S, N, h1, h2, h3, h4, h5, h6⟩ := h.ex
  exact ⟨F, S, N, h1, h2, h3, h4, h5, by omega⟩
theorem log2_le {i : Int} {n : Nat} (h0 : 0 ≤ i) (h : i < 2 ^ n) (hn : 0 < n) : i.natAbs.log2 < n := by
  by_cases hz : i.natAbs = 0
  · rw [hz]; simpa using hn
  · rw [Nat.log2_lt hz]
    have e : ((i.natAbs : Nat) : Int) = i := Int.natAbs_of_nonneg h0
    have h2 : ((i.natAbs : Nat) : Int) < ((2 ^ n : Nat) : Int) := by rw [e]; push_cast; exact h
    exact Int.ofNat_lt.mp h2
theorem draw_ok {T : Tab} {k : Nat} (hT : T.fn "_law_draw" = some d__law_draw) (hk : 1 ≤ k) {c r : Nat} {st : PSto} {m : Int} {Q : R → PSto → Prop} {E : Exn → PSto → Prop} (h : Spr c r st) (hc : c < 2 ^ 64) (h1 : 0 < m) (h2 : m < 2 ^ 64)
    (kk : ∀ (v : Int) (cell : Cell), 0 ≤ v → v < m → Spr (c + 1) r (st.set r cell) → Q (.d (.int v)) (st.set r cell)) : wpC T k "_law_draw" [.ref r, .int m] st Q E := by
  obtain ⟨k, rfl⟩ : ∃ j, k = j + 1 := ⟨k - 1, by omega⟩
  obtain ⟨F, S, N, hr, hF, hS, hS2, hN, hN2⟩ := h.ex
  refine wpC_of hT rfl ?_
  simp only [d__law_draw, ws_cons, ws_nil, ws_asg, ws_sub, ws_expr, ws_ret, ws_retn, ws_iff, ws_for, ws_raise, ws_pass, ws_brk, ws_cnt, ws_aug, we_slot, we_const, we_bin, we_neg, we_cmp, we_chain, we_and, we_or, we_not, we_ite, we_tup, we_lst, we_idx, we_slc, we_comp, we_call, we_bi, we_me, we_isi, we_nil, we_cons, wo_none, wo_some, wt_none, wt_some, wr_val, wr_rng1, wr_rng2, slotQ_val, slotQ_own, negQ_int, notQ_bl, blQ_bl, augQ_int, bc_t, bc_f, dr_d, dr_tmp, dr_brw, brwQ_own, brwQ_val, oq_some, dd_int, dd_str, dd_bl, dd_non, dd_tup, dd_lst, dd_scr, esc_d, esc_tf, esc_tt, escs_nil, escs_cons, drs_nil, drs_cons, asgR_d, asgR_t, asgT_n, outR_d, outR_t, op_add, op_addS, op_addT, op_addL, op_sub, op_mul, op_mulL, op_fdiv, op_mod, op_pow, cm_eq, cm_ne, eq_int, eq_str, eq_bl, eq_non, cm_lt, cm_le, cm_gt, cm_ge, cm_in, cm_notin, cm_is, cm_isnot, ix_lst, ix_scr, ix_tup, ix_str, at_0, at_1, at_2, at_3, sl_tup, sl_lst, sl_scr, bi_lenL, bi_lenR, bi_lenT, bi_lenS, bi_abs, bi_max, bi_min, bi_intI, bi_intB, bi_listL, bi_listT, bi_listR, bi_tupL, bi_tupT, bi_all, bi_any, bi_sum, bi_lenset, bi_repr, au_add, au_sub, ixL0, ixL1, ixL2, esc_b, escQ_f, escQ_t, escQ_v, outR_b, outQ_o, outQ_v, modL_b, modQ_o, vq_tmp, vq_tup, vq_lst, vq_scr, vq_str, vq_b, vQ_o, asgR_b, List.length_map, me_app, me_appB, mt_app, mt_pop0, mt_pop1, mt_ins, mt_clear, mt_rev, mt_join, ws_cell, cellQ_o, cellQ_v, mt_index, mt_count, me_index, me_count, me_join, strLst_i, me_clear, me_rev, me_pop1, me_ins, true_and, isTys, isTy, tyN, Option.map_some, String.reduceBEq, Bool.or_false, Bool.false_or, Bool.or_true, Bool.true_or, Bool.and_false, Bool.and_true, Bool.false_and, Bool.true_and, Bool.not_true, Bool.not_false, List.getElem?_cons_zero, List.getElem?_cons_succ, List.set_cons_zero, List.set_cons_succ, List.map_cons, List.map_nil, List.replicate_succ, List.replicate_zero, List.cons_append, List.nil_append, Nat.sub_self, dd_ref hr, bc_bl, setV_ref hr]
  refine ⟨fun e => ⟨h1, ⟨h1, Nat.lt_of_lt_of_le (log2_le (n := 64) (by omega) h2 (by decide)) (by decide)⟩, ?_⟩, fun e => ?_⟩
  · have e : 0 < F := of_decide_eq_true e
    refine kk _ _ (Int.emod_nonneg _ (by omega)) (Int.emod_lt_of_pos _ h1) ⟨F / m, S, N, st_set hr, Int.ediv_nonneg hF (by omega), hS, hS2, hN, by omega⟩
  · have hr1 := st_set hr (x := .lst [.int F, .int S, .int (N + 1)])
    simp only [ws_cons, ws_nil, ws_asg, ws_sub, ws_expr, ws_ret, ws_retn, ws_iff, ws_for, ws_raise, ws_pass, ws_brk, ws_cnt, ws_aug, we_slot, we_const, we_bin, we_neg, we_cmp, we_chain, we_and, we_or, we_not, we_ite, we_tup, we_lst, we_idx, we_slc, we_comp, we_call, we_bi, we_me, we_isi, we_nil, we_cons, wo_none, wo_some, wt_none, wt_some, wr_val, wr_rng1, wr_rng2, slotQ_val, slotQ_own, negQ_int, notQ_bl, blQ_bl, augQ_int, bc_t, bc_f, dr_d, dr_tmp, dr_brw, brwQ_own, brwQ_val, oq_some, dd_int, dd_str, dd_bl, dd_non, dd_tup, dd_lst, dd_scr, esc_d, esc_tf, esc_tt, escs_nil, escs_cons, drs_nil, drs_cons, asgR_d, asgR_t, asgT_n, outR_d, outR_t, op_add, op_addS, op_addT, op_addL, op_sub, op_mul, op_mulL, op_fdiv, op_mod, op_pow, cm_eq, cm_ne, eq_int, eq_str, eq_bl, eq_non, cm_lt, cm_le, cm_gt, cm_ge, cm_in, cm_notin, cm_is, cm_isnot, ix_lst, ix_scr, ix_tup, ix_str, at_0, at_1, at_2, at_3, sl_tup, sl_lst, sl_scr, bi_lenL, bi_lenR, bi_lenT, bi_lenS, bi_abs, bi_max, bi_min, bi_intI, bi_intB, bi_listL, bi_listT, bi_listR, bi_tupL, bi_tupT, bi_all, bi_any, bi_sum, bi_lenset, bi_repr, au_add, au_sub, ixL0, ixL1, ixL2, esc_b, escQ_f, escQ_t, escQ_v, outR_b, outQ_o, outQ_v, modL_b, modQ_o, vq_tmp, vq_tup, vq_lst, vq_scr, vq_str, vq_b, vQ_o, asgR_b, List.length_map, me_app, me_appB, mt_app, mt_pop0, mt_pop1, mt_ins, mt_clear, mt_rev, mt_join, ws_cell, cellQ_o, cellQ_v, mt_index, mt_count, me_index, me_count, me_join, strLst_i, me_clear, me_rev, me_pop1, me_ins, true_and, isTys, isTy, tyN, Option.map_some, String.reduceBEq, Bool.or_false, Bool.false_or, Bool.or_true, Bool.true_or, Bool.and_false, Bool.and_true, Bool.false_and, Bool.true_and, Bool.not_true, Bool.not_false, List.getElem?_cons_zero, List.getElem?_cons_succ, List.set_cons_zero, List.set_cons_succ, List.map_cons, List.map_nil, List.replicate_succ, List.replicate_zero, List.cons_append, List.nil_append, Nat.sub_self, dd_ref hr1, setV_ref hr1]
    have l61 : ∀ {i : Int}, 0 ≤ i → i < M61 → i.natAbs.log2 < 61 := fun h0 h => log2_le h0 (Int.lt_trans h (by decide)) (by decide)
    have lN : (N + 1).natAbs.log2 < 65 := log2_le (by omega) (by omega) (by decide)
    have h7 : (7919 * (N + 1)).natAbs.log2 < 80 := log2_le (by omega) (by omega) (by decide)
    have s1 := l61 hS hS2
    have l7 : (7919 : Int).natAbs.log2 < 80 := by decide
    refine ⟨by unfold CMulW; omega, by decide, by unfold CMulW; omega, by unfold CMulW; omega, by decide, ?_⟩
    have hr2 := st_set hr1 (x := .lst [.int F, .int ((S * S % 2305843009213693951 + 7919 * (N + 1) * S + 104729) % 2305843009213693951), .int (N + 1)])
    simp only [ws_cons, ws_nil, ws_asg, ws_sub, ws_expr, ws_ret, ws_retn, ws_iff, ws_for, ws_raise, ws_pass, ws_brk, ws_cnt, ws_aug, we_slot, we_const, we_bin, we_neg, we_cmp, we_chain, we_and, we_or, we_not, we_ite, we_tup, we_lst, we_idx, we_slc, we_comp, we_call, we_bi, we_me, we_isi, we_nil, we_cons, wo_none, wo_some, wt_none, wt_some, wr_val, wr_rng1, wr_rng2, slotQ_val, slotQ_own, negQ_int, notQ_bl, blQ_bl, augQ_int, bc_t, bc_f, dr_d, dr_tmp, dr_brw, brwQ_own, brwQ_val, oq_some, dd_int, dd_str, dd_bl, dd_non, dd_tup, dd_lst, dd_scr, esc_d, esc_tf, esc_tt, escs_nil, escs_cons, drs_nil, drs_cons, asgR_d, asgR_t, asgT_n, outR_d, outR_t, op_add, op_addS, op_addT, op_addL, op_sub, op_mul, op_mulL, op_fdiv, op_mod, op_pow, cm_eq, cm_ne, eq_int, eq_str, eq_bl, eq_non, cm_lt, cm_le, cm_gt, cm_ge, cm_in, cm_notin, cm_is, cm_isnot, ix_lst, ix_scr, ix_tup, ix_str, at_0, at_1, at_2, at_3, sl_tup, sl_lst, sl_scr, bi_lenL, bi_lenR, bi_lenT, bi_lenS, bi_abs, bi_max, bi_min, bi_intI, bi_intB, bi_listL, bi_listT, bi_listR, bi_tupL, bi_tupT, bi_all, bi_any, bi_sum, bi_lenset, bi_repr, au_add, au_sub, ixL0, ixL1, ixL2, esc_b, escQ_f, escQ_t, escQ_v, outR_b, outQ_o, outQ_v, modL_b, modQ_o, vq_tmp, vq_tup, vq_lst, vq_scr, vq_str, vq_b, vQ_o, asgR_b, List.length_map, me_app, me_appB, mt_app, mt_pop0, mt_pop1, mt_ins, mt_clear, mt_rev, mt_join, ws_cell, cellQ_o, cellQ_v, mt_index, mt_count, me_index, me_count, me_join, strLst_i, me_clear, me_rev, me_pop1, me_ins, true_and, isTys, isTy, tyN, Option.map_some, String.reduceBEq, Bool.or_false, Bool.false_or, Bool.or_true, Bool.true_or, Bool.and_false, Bool.and_true, Bool.false_and, Bool.true_and, Bool.not_true, Bool.not_false, List.getElem?_cons_zero, List.getElem?_cons_succ, List.set_cons_zero, List.set_cons_succ, List.map_cons, List.map_nil, List.replicate_succ, List.replicate_zero, List.cons_append, List.nil_append, Nat.sub_self, dd_ref hr2]
    refine ⟨⟨by decide, by decide⟩, h1, ?_⟩
    rw [List.set_set]
    refine kk _ _ (Int.emod_nonneg _ (by omega)) (Int.emod_lt_of_pos _ h1) ⟨F, _, N + 1, st_set hr, hF, Int.emod_nonneg _ (by decide), Int.emod_lt_of_pos _ (by decide), by omega, by omega⟩
/-! ### the spring of a script -/
theorem spring_ok {T : Tab} {k : Nat} (hT : T.fn "_law_spring" = some d__law_spring) (hk : 1 ≤ k) {ns : List Int} {st : PSto} {Q : R → PSto → Prop} {E : Exn → PSto → Prop}
    (kk : ∀ F S : Int, 0 ≤ F → 0 ≤ S → S < M61 → Q (.tmp [.int F, .int S, .int 0]) st) : wpC T k "_law_spring" [.scr (ns.map D.int)] st Q E := by
  obtain ⟨k, rfl⟩ : ∃ j, k = j + 1 := ⟨k - 1, by omega⟩
  refine wpC_of hT rfl ?_
  have c63 : cutD (ns.map D.int) none (some 63) = (ns.take 63).map D.int := by rw [show (63 : Int) = ((63 : Nat) : Int) from rfl, cut_to, List.map_take]
  simp only [d__law_spring, ws_cons, ws_nil, ws_asg, ws_sub, ws_expr, ws_ret, ws_retn, ws_iff, ws_for, ws_raise, ws_pass, ws_brk, ws_cnt, ws_aug, we_slot, we_const, we_bin, we_neg, we_cmp, we_chain, we_and, we_or, we_not, we_ite, we_tup, we_lst, we_idx, we_slc, we_comp, we_call, we_bi, we_me, we_isi, we_nil, we_cons, wo_none, wo_some, wt_none, wt_some, wr_val, wr_rng1, wr_rng2, slotQ_val, slotQ_own, negQ_int, notQ_bl, blQ_bl, augQ_int, bc_t, bc_f, dr_d, dr_tmp, dr_brw, brwQ_own, brwQ_val, oq_some, dd_int, dd_str, dd_bl, dd_non, dd_tup, dd_lst, dd_scr, esc_d, esc_tf, esc_tt, escs_nil, escs_cons, drs_nil, drs_cons, asgR_d, asgR_t, asgT_n, outR_d, outR_t, op_add, op_addS, op_addT, op_addL, op_sub, op_mul, op_mulL, op_fdiv, op_mod, op_pow, cm_eq, cm_ne, eq_int, eq_str, eq_bl, eq_non, cm_lt, cm_le, cm_gt, cm_ge, cm_in, cm_notin, cm_is, cm_isnot, ix_lst, ix_scr, ix_tup, ix_str, at_0, at_1, at_2, at_3, sl_tup, sl_lst, sl_scr, bi_lenL, bi_lenR, bi_lenT, bi_lenS, bi_abs, bi_max, bi_min, bi_intI, bi_intB, bi_listL, bi_listT, bi_listR, bi_tupL, bi_tupT, bi_all, bi_any, bi_sum, bi_lenset, bi_repr, au_add, au_sub, ixL0, ixL1, ixL2, esc_b, escQ_f, escQ_t, escQ_v, outR_b, outQ_o, outQ_v, modL_b, modQ_o, vq_tmp, vq_tup, vq_lst, vq_scr, vq_str, vq_b, vQ_o, asgR_b, List.length_map, me_app, me_appB, mt_app, mt_pop0, mt_pop1, mt_ins, mt_clear, mt_rev, mt_join, ws_cell, cellQ_o, cellQ_v, mt_index, mt_count, me_index, me_count, me_join, strLst_i, me_clear, me_rev, me_pop1, me_ins, true_and, isTys, isTy, tyN, Option.map_some, String.reduceBEq, Bool.or_false, Bool.false_or, Bool.or_true, Bool.true_or, Bool.and_false, Bool.and_true, Bool.false_and, Bool.true_and, Bool.not_true, Bool.not_false, List.getElem?_cons_zero, List.getElem?_cons_succ, List.set_cons_zero, List.set_cons_succ, List.map_cons, List.map_nil, List.replicate_succ, List.replicate_zero, List.cons_append, List.nil_append, Nat.sub_self, c63]
  refine for_ind (fun xs env st' => ∃ (n : Nat) (F S : Int) (ms : List Int) (z : Sl), xs = ms.map D.int ∧ n + ms.length ≤ 63 ∧ 0 ≤ F ∧ F < 2 ^ (200 * n) ∧ 0 ≤ S ∧ S < M61 ∧ st' = st ∧ env = [.val (.scr (ns.map D.int)), .val (.int F), .val (.int S), z]) ?_ ?_ _ _ _ ?_
  · rintro env st' ⟨n, F, S, ms, z, h1, h2, h3, h4, h5, h6, rfl, rfl⟩
    refine ⟨trivial, ?_⟩
    simp only [ws_cons, ws_nil, ws_asg, ws_sub, ws_expr, ws_ret, ws_retn, ws_iff, ws_for, ws_raise, ws_pass, ws_brk, ws_cnt, ws_aug, we_slot, we_const, we_bin, we_neg, we_cmp, we_chain, we_and, we_or, we_not, we_ite, we_tup, we_lst, we_idx, we_slc, we_comp, we_call, we_bi, we_me, we_isi, we_nil, we_cons, wo_none, wo_some, wt_none, wt_some, wr_val, wr_rng1, wr_rng2, slotQ_val, slotQ_own, negQ_int, notQ_bl, blQ_bl, augQ_int, bc_t, bc_f, dr_d, dr_tmp, dr_brw, brwQ_own, brwQ_val, oq_some, dd_int, dd_str, dd_bl, dd_non, dd_tup, dd_lst, dd_scr, esc_d, esc_tf, esc_tt, escs_nil, escs_cons, drs_nil, drs_cons, asgR_d, asgR_t, asgT_n, outR_d, outR_t, op_add, op_addS, op_addT, op_addL, op_sub, op_mul, op_mulL, op_fdiv, op_mod, op_pow, cm_eq, cm_ne, eq_int, eq_str, eq_bl, eq_non, cm_lt, cm_le, cm_gt, cm_ge, cm_in, cm_notin, cm_is, cm_isnot, ix_lst, ix_scr, ix_tup, ix_str, at_0, at_1, at_2, at_3, sl_tup, sl_lst, sl_scr, bi_lenL, bi_lenR, bi_lenT, bi_lenS, bi_abs, bi_max, bi_min, bi_intI, bi_intB, bi_listL, bi_listT, bi_listR, bi_tupL, bi_tupT, bi_all, bi_any, bi_sum, bi_lenset, bi_repr, au_add, au_sub, ixL0, ixL1, ixL2, esc_b, escQ_f, escQ_t, escQ_v, outR_b, outQ_o, outQ_v, modL_b, modQ_o, vq_tmp, vq_tup, vq_lst, vq_scr, vq_str, vq_b, vQ_o, asgR_b, List.length_map, me_app, me_appB, mt_app, mt_pop0, mt_pop1, mt_ins, mt_clear, mt_rev, mt_join, ws_cell, cellQ_o, cellQ_v, mt_index, mt_count, me_index, me_count, me_join, strLst_i, me_clear, me_rev, me_pop1, me_ins, true_and, isTys, isTy, tyN, Option.map_some, String.reduceBEq, Bool.or_false, Bool.false_or, Bool.or_true, Bool.true_or, Bool.and_false, Bool.and_true, Bool.false_and, Bool.true_and, Bool.not_true, Bool.not_false, List.getElem?_cons_zero, List.getElem?_cons_succ, List.set_cons_zero, List.set_cons_succ, List.map_cons, List.map_nil, List.replicate_succ, List.replicate_zero, List.cons_append, List.nil_append, Nat.sub_self]
    exact ⟨by show 3 ≤ sizeLine; decide, kk F S h3 h5 h6⟩
  · rintro x xs ih env st' ⟨n, F, S, ms, z, h1, h2, h3, h4, h5, h6, rfl, rfl⟩
    cases ms with
    | nil => cases h1
    | cons c ms =>
      rw [List.map_cons] at h1
      obtain ⟨rfl, rfl⟩ := List.cons.inj h1
      rw [List.length_cons] at h2
      refine ⟨trivial, ?_⟩
      have hc : (0 : Int) ≤ (if c < 0 then -c else c) := by split <;> omega
      generalize hca : (if c < 0 then -c else c) = ca at hc
      simp only [ws_cons, ws_nil, ws_asg, ws_sub, ws_expr, ws_ret, ws_retn, ws_iff, ws_for, ws_raise, ws_pass, ws_brk, ws_cnt, ws_aug, we_slot, we_const, we_bin, we_neg, we_cmp, we_chain, we_and, we_or, we_not, we_ite, we_tup, we_lst, we_idx, we_slc, we_comp, we_call, we_bi, we_me, we_isi, we_nil, we_cons, wo_none, wo_some, wt_none, wt_some, wr_val, wr_rng1, wr_rng2, slotQ_val, slotQ_own, negQ_int, notQ_bl, blQ_bl, augQ_int, bc_t, bc_f, dr_d, dr_tmp, dr_brw, brwQ_own, brwQ_val, oq_some, dd_int, dd_str, dd_bl, dd_non, dd_tup, dd_lst, dd_scr, esc_d, esc_tf, esc_tt, escs_nil, escs_cons, drs_nil, drs_cons, asgR_d, asgR_t, asgT_n, outR_d, outR_t, op_add, op_addS, op_addT, op_addL, op_sub, op_mul, op_mulL, op_fdiv, op_mod, op_pow, cm_eq, cm_ne, eq_int, eq_str, eq_bl, eq_non, cm_lt, cm_le, cm_gt, cm_ge, cm_in, cm_notin, cm_is, cm_isnot, ix_lst, ix_scr, ix_tup, ix_str, at_0, at_1, at_2, at_3, sl_tup, sl_lst, sl_scr, bi_lenL, bi_lenR, bi_lenT, bi_lenS, bi_abs, bi_max, bi_min, bi_intI, bi_intB, bi_listL, bi_listT, bi_listR, bi_tupL, bi_tupT, bi_all, bi_any, bi_sum, bi_lenset, bi_repr, au_add, au_sub, ixL0, ixL1, ixL2, esc_b, escQ_f, escQ_t, escQ_v, outR_b, outQ_o, outQ_v, modL_b, modQ_o, vq_tmp, vq_tup, vq_lst, vq_scr, vq_str, vq_b, vQ_o, asgR_b, List.length_map, me_app, me_appB, mt_app, mt_pop0, mt_pop1, mt_ins, mt_clear, mt_rev, mt_join, ws_cell, cellQ_o, cellQ_v, mt_index, mt_count, me_index, me_count, me_join, strLst_i, me_clear, me_rev, me_pop1, me_ins, true_and, isTys, isTy, tyN, Option.map_some, String.reduceBEq, Bool.or_false, Bool.false_or, Bool.or_true, Bool.true_or, Bool.and_false, Bool.and_true, Bool.false_and, Bool.true_and, Bool.not_true, Bool.not_false, List.getElem?_cons_zero, List.getElem?_cons_succ, List.set_cons_zero, List.set_cons_succ, List.map_cons, List.map_nil, List.replicate_succ, List.replicate_zero, List.cons_append, List.nil_append, Nat.sub_self, hca, bc_bl]
      have p18 : CPow 10 18 := ⟨by decide, by decide, by decide⟩
      have p60 : CPow 10 60 := ⟨by decide, by decide, by decide⟩
      have e60 : (10 : Int) ^ (60 : Int).toNat = 1000000000000000000000000000000000000000000000000000000000000 := by decide
      have s61 : S.natAbs.log2 < 61 := log2_le h5 (Int.lt_trans h6 (by decide)) (by decide)
      have s69 : CMulW S 69069 := by
        have : (69069 : Int).natAbs.log2 < 20 := by decide
        unfold CMulW; omega
      refine ⟨p18, fun _ => ?_, fun _ => ?_⟩
      · have b1 : F < 2 ^ (200 * n + 1) := by
          rw [Int.pow_succ]
          have : (0 : Int) < 2 ^ (200 * n) := Int.pow_pos (by decide)
          omega
        have l1 : F.natAbs.log2 < 200 * n + 1 := log2_le h3 b1 (by omega)
        have l2 : ((10 : Int) ^ (60 : Int).toNat).natAbs.log2 < 200 := by decide +kernel
        refine ⟨p60, ⟨by unfold CMulW; omega, p60, by rw [e60]; decide, s69, by decide, by decide, ?_⟩⟩
        refine ih _ _ ⟨n + 1, _, _, ms, _, rfl, by omega, ?_, ?_, Int.emod_nonneg _ (by decide), Int.emod_lt_of_pos _ (by decide), rfl, rfl⟩
        · have := Int.mul_nonneg h3 (show (0 : Int) ≤ 10 ^ (60 : Int).toNat by rw [e60]; decide)
          have := Int.emod_nonneg ca (show (10 : Int) ^ (60 : Int).toNat ≠ 0 by rw [e60]; decide)
          omega
        · have q1 := Int.emod_lt_of_pos ca (show 0 < (10 : Int) ^ (60 : Int).toNat by rw [e60]; decide)
          have q2 : (10 : Int) ^ (60 : Int).toNat < 2 ^ 200 := by decide +kernel
          have q3 : (2 : Int) ^ (200 * (n + 1)) = 2 ^ (200 * n) * 2 ^ 200 := by rw [Nat.mul_add, Int.pow_add]
          rw [q3]
          have q4 : F + 1 ≤ 2 ^ (200 * n) := h4
          have q5 : (F + 1) * 2 ^ 200 ≤ 2 ^ (200 * n) * 2 ^ 200 := Int.mul_le_mul_of_nonneg_right q4 (by decide)
          have q6 : F * 10 ^ (60 : Int).toNat ≤ F * 2 ^ 200 := Int.mul_le_mul_of_nonneg_left (Int.le_of_lt q2) h3
          rw [Int.add_mul] at q5
          omega
      · refine ⟨s69, by decide, by decide, ?_⟩
        exact ih _ _ ⟨n + 1, _, _, ms, _, rfl, by omega, h3, Int.lt_of_lt_of_le h4 (by
          rw [Nat.mul_add, Int.pow_add]
          have : (0 : Int) < 2 ^ (200 * n) := Int.pow_pos (by decide)
          have h1 : (1 : Int) ≤ 2 ^ (200 * 1) := by decide
          have := Int.mul_le_mul_of_nonneg_left h1 (Int.le_of_lt this)
          omega), Int.emod_nonneg _ (by decide), Int.emod_lt_of_pos _ (by decide), rfl, rfl⟩
  · exact ⟨0, 0, 88651, ns.take 63, .no, rfl, by simp; omega, by decide, by decide, by decide, by decide, rfl, rfl⟩
end LW
set_option maxHeartbeats 2000000
namespace LW
open PySem PI

/-! ### names -/
def letters : List Nat := [97, 98, 99, 100, 101, 102, 103, 104, 105, 106, 107, 108, 109, 110, 111, 112, 113, 114, 115, 116, 117, 118, 119, 120, 121, 122]
theorem sg_letters : sg (Str.ofString "abcdefghijklmnopqrstuvwxyz") = letters := by decide +kernel
theorem sg_ab : sg (Str.ofString "ab") = [97, 98] := by decide +kernel
theorem mem_letters {c : Nat} : c ∈ letters ↔ 97 ≤ c ∧ c ≤ 122 := by
  unfold letters
  simp only [List.mem_cons, List.not_mem_nil, or_false]
  omega
structure NameOk (s : Str) : Prop where
  l1 : 1 ≤ (sg s).length
  l8 : (sg s).length ≤ 8
  al : ∀ c ∈ sg s, 97 ≤ c ∧ c ≤ 122
theorem NameOk.ok {s : Str} (h : NameOk s) : PyData.strOk s = true := strOk_of fun c hc => by have := h.al c hc; omega
def spareW (k : Nat) : Str := Str.ofString "q" ++ ⟨#[97 + k / 5]⟩ ++ ⟨#[118 + k % 5]⟩
def spare : List Str := (List.range 50).map spareW
theorem spare_sg (k : Nat) : sg (spareW k) = [113, 97 + k / 5, 118 + k % 5] := by
  unfold spareW
  rw [sg_app, sg_app, show sg (Str.ofString "q") = [113] by decide +kernel]
  rfl
theorem spare_ok : ∀ s ∈ spare, NameOk s := by
  intro s hs
  obtain ⟨k, hk, rfl⟩ := List.mem_map.mp hs
  have hk := List.mem_range.mp hk
  refine ⟨by rw [spare_sg]; show 1 ≤ 3; decide, by rw [spare_sg]; show 3 ≤ 8; decide, fun c hc => ?_⟩
  rw [spare_sg] at hc
  simp only [List.mem_cons, List.not_mem_nil, or_false] at hc
  omega
theorem spare_nd : spare.Nodup := by
  unfold spare
  rw [List.nodup_iff_pairwise_ne, List.pairwise_map]
  refine List.Pairwise.imp (fun {a b} hab e => hab ?_) (List.nodup_iff_pairwise_ne.mp (List.nodup_range (n := 50)))
  have h := congrArg sg e
  rw [spare_sg, spare_sg] at h
  simp only [List.cons.injEq, and_true, true_and] at h
  omega
theorem spare_len : spare.length = 50 := by unfold spare; simp
theorem idx_j (k : Nat) (h : k < 50) : L2.atI (sg (Str.ofString "abcdefghij")) ((k : Int) / 5) = some (97 + k / 5) ∧ L2.atI (sg (Str.ofString "vwxyz")) ((k : Int) % 5) = some (118 + k % 5) := by
  have : ∀ k : Fin 50, L2.atI (sg (Str.ofString "abcdefghij")) ((k.val : Int) / 5) = some (97 + k.val / 5) ∧ L2.atI (sg (Str.ofString "vwxyz")) ((k.val : Int) % 5) = some (118 + k.val % 5) := by decide +kernel
  exact this ⟨k, h⟩
theorem len_small : (Str.ofString "abcdefghij").length ≤ sizeLine ∧ (Str.ofString "vwxyz").length ≤ sizeLine ∧ (Str.ofString "q").length = 1 ∧ (Str.ofString "ab").length = 2 ∧ (Str.ofString "abcdefghijklmnopqrstuvwxyz").length = 26 := by decide +kernel
/-- the first of some that is not there -/
theorem first_new {w : Str} {found : List Str} (hl : found.length < 50) : ∃ x l, (w :: spare).filter (fun s => !decide (s ∈ found)) = x :: l ∧ x ∉ found ∧ (x = w ∨ x ∈ spare) := by
  have : ∃ x ∈ spare, x ∉ found := by
    refine Classical.byContradiction fun h => ?_
    have hs : spare ⊆ found := fun x hx => Classical.byContradiction fun hn => h ⟨x, hx, hn⟩
    have := spare_nd.length_le_of_subset hs
    rw [spare_len] at this
    omega
  obtain ⟨y, hy, hn⟩ := this
  have hm : y ∈ (w :: spare).filter (fun s => !decide (s ∈ found)) := List.mem_filter.mpr ⟨List.mem_cons_of_mem _ hy, by simp [hn]⟩
  cases e : (w :: spare).filter (fun s => !decide (s ∈ found)) with
  | nil => rw [e] at hm; cases hm
  | cons x l =>
    have hx : x ∈ (w :: spare).filter (fun s => !decide (s ∈ found)) := by rw [e]; exact List.mem_cons_self
    obtain ⟨h1, h2⟩ := List.mem_filter.mp hx
    refine ⟨x, l, rfl, by simpa using h2, ?_⟩
    cases h1 with
    | head => exact .inl rfl
    | tail _ h => exact .inr h
theorem at_in {α : Type} {l : List α} {u : Int} (h0 : 0 ≤ u) (h1 : u < l.length) : ∃ c ∈ l, L2.atI l u = some c := by
  obtain ⟨n, rfl⟩ := Int.eq_ofNat_of_zero_le h0
  have hn : n < l.length := by omega
  exact ⟨l[n], List.getElem_mem hn, L2.atI_nat (List.getElem?_eq_getElem hn)⟩
theorem set_self {st : PSto} {r : Nat} {c : Cell} (h : st[r]? = some c) : st.set r c = st := by
  apply List.ext_getElem?
  intro j
  by_cases e : r = j
  · subst e
    rw [List.getElem?_set_self (List.getElem?_eq_some_iff.mp h).1, h]
  · rw [List.getElem?_set_ne e]
theorem names_ok {T : Tab} {k : Nat} (hD : T.fn "_law_draw" = some d__law_draw) (hT : T.fn "_law_names" = some d__law_names) (hk : 2 ≤ k) {c r : Nat} {st : PSto} {m : Nat} {Q : R → PSto → Prop} {E : Exn → PSto → Prop} (h : Spr c r st) (hc : c + 10 * m < 2 ^ 60) (h2 : m ≤ 49)
    (kk : ∀ (ns : List Str) (cell : Cell), ns.length = m → (∀ n ∈ ns, NameOk n) → ns.Nodup → Spr (c + 10 * m) r (st.set r cell) → Q (.tmp (ns.map D.str)) (st.set r cell)) : wpC T k "_law_names" [.ref r, .int (m : Int)] st Q E := by
  obtain ⟨k, rfl⟩ : ∃ j, k = j + 1 := ⟨k - 1, by omega⟩
  refine wpC_of hT rfl ?_
  simp only [d__law_names, ws_cons, ws_nil, ws_asg, ws_sub, ws_expr, ws_ret, ws_retn, ws_iff, ws_for, ws_raise, ws_pass, ws_brk, ws_cnt, ws_aug, we_slot, we_const, we_bin, we_neg, we_cmp, we_chain, we_and, we_or, we_not, we_ite, we_tup, we_lst, we_idx, we_slc, we_comp, we_call, we_bi, we_me, we_isi, we_nil, we_cons, wo_none, wo_some, wt_none, wt_some, wr_val, wr_rng1, wr_rng2, slotQ_val, slotQ_own, negQ_int, notQ_bl, blQ_bl, augQ_int, bc_t, bc_f, dr_d, dr_tmp, dr_brw, brwQ_own, brwQ_val, oq_some, dd_int, dd_str, dd_bl, dd_non, dd_tup, dd_lst, dd_scr, esc_d, esc_tf, esc_tt, escs_nil, escs_cons, drs_nil, drs_cons, asgR_d, asgR_t, asgT_n, outR_d, outR_t, op_add, op_addS, op_addT, op_addL, op_sub, op_mul, op_mulL, op_fdiv, op_mod, op_pow, cm_eq, cm_ne, eq_int, eq_str, eq_bl, eq_non, cm_lt, cm_le, cm_gt, cm_ge, cm_in, cm_notin, cm_is, cm_isnot, ix_lst, ix_scr, ix_tup, ix_str, at_0, at_1, at_2, at_3, sl_tup, sl_lst, sl_scr, bi_lenL, bi_lenR, bi_lenT, bi_lenS, bi_abs, bi_max, bi_min, bi_intI, bi_intB, bi_listL, bi_listT, bi_listR, bi_tupL, bi_tupT, bi_all, bi_any, bi_sum, bi_lenset, bi_repr, au_add, au_sub, ixL0, ixL1, ixL2, esc_b, escQ_f, escQ_t, escQ_v, outR_b, outQ_o, outQ_v, modL_b, modQ_o, vq_tmp, vq_tup, vq_lst, vq_scr, vq_str, vq_b, vQ_o, asgR_b, List.length_map, me_app, me_appB, mt_app, mt_pop0, mt_pop1, mt_ins, mt_clear, mt_rev, mt_join, ws_cell, cellQ_o, cellQ_v, mt_index, mt_count, me_index, me_count, me_join, strLst_i, me_clear, me_rev, me_pop1, me_ins, true_and, isTys, isTy, tyN, Option.map_some, String.reduceBEq, Bool.or_false, Bool.false_or, Bool.or_true, Bool.true_or, Bool.and_false, Bool.and_true, Bool.false_and, Bool.true_and, Bool.not_true, Bool.not_false, List.getElem?_cons_zero, List.getElem?_cons_succ, List.set_cons_zero, List.set_cons_succ, List.map_cons, List.map_nil, List.replicate_succ, List.replicate_zero, List.cons_append, List.nil_append, Nat.sub_self]
  refine ⟨⟨by decide, by decide⟩, ?_⟩
  refine comp_map (g := fun x => match x with
    | .int i => .str (spareW i.toNat)
    | x => x) trivial (by simp [rngL]; decide) (fun x hx Q q => ?_) ?_
  · obtain ⟨i, hi, rfl⟩ := List.mem_map.mp hx
    have hi : i < 50 := List.mem_range.mp hi
    simp only [Int.zero_add] at q ⊢
    obtain ⟨i1, i2⟩ := idx_j i hi
    obtain ⟨l1, l2, l3, _⟩ := len_small
    simp only [ws_cons, ws_nil, ws_asg, ws_sub, ws_expr, ws_ret, ws_retn, ws_iff, ws_for, ws_raise, ws_pass, ws_brk, ws_cnt, ws_aug, we_slot, we_const, we_bin, we_neg, we_cmp, we_chain, we_and, we_or, we_not, we_ite, we_tup, we_lst, we_idx, we_slc, we_comp, we_call, we_bi, we_me, we_isi, we_nil, we_cons, wo_none, wo_some, wt_none, wt_some, wr_val, wr_rng1, wr_rng2, slotQ_val, slotQ_own, negQ_int, notQ_bl, blQ_bl, augQ_int, bc_t, bc_f, dr_d, dr_tmp, dr_brw, brwQ_own, brwQ_val, oq_some, dd_int, dd_str, dd_bl, dd_non, dd_tup, dd_lst, dd_scr, esc_d, esc_tf, esc_tt, escs_nil, escs_cons, drs_nil, drs_cons, asgR_d, asgR_t, asgT_n, outR_d, outR_t, op_add, op_addS, op_addT, op_addL, op_sub, op_mul, op_mulL, op_fdiv, op_mod, op_pow, cm_eq, cm_ne, eq_int, eq_str, eq_bl, eq_non, cm_lt, cm_le, cm_gt, cm_ge, cm_in, cm_notin, cm_is, cm_isnot, ix_lst, ix_scr, ix_tup, ix_str, at_0, at_1, at_2, at_3, sl_tup, sl_lst, sl_scr, bi_lenL, bi_lenR, bi_lenT, bi_lenS, bi_abs, bi_max, bi_min, bi_intI, bi_intB, bi_listL, bi_listT, bi_listR, bi_tupL, bi_tupT, bi_all, bi_any, bi_sum, bi_lenset, bi_repr, au_add, au_sub, ixL0, ixL1, ixL2, esc_b, escQ_f, escQ_t, escQ_v, outR_b, outQ_o, outQ_v, modL_b, modQ_o, vq_tmp, vq_tup, vq_lst, vq_scr, vq_str, vq_b, vQ_o, asgR_b, List.length_map, me_app, me_appB, mt_app, mt_pop0, mt_pop1, mt_ins, mt_clear, mt_rev, mt_join, ws_cell, cellQ_o, cellQ_v, mt_index, mt_count, me_index, me_count, me_join, strLst_i, me_clear, me_rev, me_pop1, me_ins, true_and, isTys, isTy, tyN, Option.map_some, String.reduceBEq, Bool.or_false, Bool.false_or, Bool.or_true, Bool.true_or, Bool.and_false, Bool.and_true, Bool.false_and, Bool.true_and, Bool.not_true, Bool.not_false, List.getElem?_cons_zero, List.getElem?_cons_succ, List.set_cons_zero, List.set_cons_succ, List.map_cons, List.map_nil, List.replicate_succ, List.replicate_zero, List.cons_append, List.nil_append, Nat.sub_self, i1, i2]
    refine ⟨⟨by decide, by decide⟩, l1, by rw [l3]; show 1 + 1 ≤ sizeLine; decide, by decide, l2, ?_, q⟩
    rw [sg_len, sg_app, List.length_append, ← sg_len, l3]
    show 1 + 1 + 1 ≤ sizeLine
    decide
  · have es : List.map (fun x => match x with
        | D.int i => D.str (spareW i.toNat)
        | x => x) (rngL 0 (Int.toNat 50)) = spare.map D.str := by
      show List.map _ (List.map _ (List.range 50)) = List.map _ (List.map _ (List.range 50))
      rw [List.map_map, List.map_map]
      refine List.map_congr_left fun k _ => ?_
      simp
    simp only [ws_cons, ws_nil, ws_asg, ws_sub, ws_expr, ws_ret, ws_retn, ws_iff, ws_for, ws_raise, ws_pass, ws_brk, ws_cnt, ws_aug, we_slot, we_const, we_bin, we_neg, we_cmp, we_chain, we_and, we_or, we_not, we_ite, we_tup, we_lst, we_idx, we_slc, we_comp, we_call, we_bi, we_me, we_isi, we_nil, we_cons, wo_none, wo_some, wt_none, wt_some, wr_val, wr_rng1, wr_rng2, slotQ_val, slotQ_own, negQ_int, notQ_bl, blQ_bl, augQ_int, bc_t, bc_f, dr_d, dr_tmp, dr_brw, brwQ_own, brwQ_val, oq_some, dd_int, dd_str, dd_bl, dd_non, dd_tup, dd_lst, dd_scr, esc_d, esc_tf, esc_tt, escs_nil, escs_cons, drs_nil, drs_cons, asgR_d, asgR_t, asgT_n, outR_d, outR_t, op_add, op_addS, op_addT, op_addL, op_sub, op_mul, op_mulL, op_fdiv, op_mod, op_pow, cm_eq, cm_ne, eq_int, eq_str, eq_bl, eq_non, cm_lt, cm_le, cm_gt, cm_ge, cm_in, cm_notin, cm_is, cm_isnot, ix_lst, ix_scr, ix_tup, ix_str, at_0, at_1, at_2, at_3, sl_tup, sl_lst, sl_scr, bi_lenL, bi_lenR, bi_lenT, bi_lenS, bi_abs, bi_max, bi_min, bi_intI, bi_intB, bi_listL, bi_listT, bi_listR, bi_tupL, bi_tupT, bi_all, bi_any, bi_sum, bi_lenset, bi_repr, au_add, au_sub, ixL0, ixL1, ixL2, esc_b, escQ_f, escQ_t, escQ_v, outR_b, outQ_o, outQ_v, modL_b, modQ_o, vq_tmp, vq_tup, vq_lst, vq_scr, vq_str, vq_b, vQ_o, asgR_b, List.length_map, me_app, me_appB, mt_app, mt_pop0, mt_pop1, mt_ins, mt_clear, mt_rev, mt_join, ws_cell, cellQ_o, cellQ_v, mt_index, mt_count, me_index, me_count, me_join, strLst_i, me_clear, me_rev, me_pop1, me_ins, true_and, isTys, isTy, tyN, Option.map_some, String.reduceBEq, Bool.or_false, Bool.false_or, Bool.or_true, Bool.true_or, Bool.and_false, Bool.and_true, Bool.false_and, Bool.true_and, Bool.not_true, Bool.not_false, List.getElem?_cons_zero, List.getElem?_cons_succ, List.set_cons_zero, List.set_cons_succ, List.map_cons, List.map_nil, List.replicate_succ, List.replicate_zero, List.cons_append, List.nil_append, Nat.sub_self, es]
    refine ⟨by show 0 ≤ sizeLine; decide, ⟨by omega, by omega⟩, ?_⟩
    obtain ⟨F0, S0, N0, hr0, _⟩ := h.ex
    refine for_ind (fun xs env st' => ∃ (found : List Str) (cell : Cell) (z4 z5 z6 z7 z8 : Sl), xs.length + found.length = m ∧ (∀ x ∈ xs, ∃ i, x = D.int i) ∧ (∀ n ∈ found, NameOk n) ∧ found.Nodup ∧ Spr (c + 10 * found.length) r st' ∧ st' = st.set r cell ∧
      env = [.val (.ref r), .val (.int m), .own (spare.map D.str), .own (found.map D.str), z4, z5, z6, z7, z8]) ?_ ?_ _ _ _ ?_
    · rintro env st' ⟨found, cell, z4, z5, z6, z7, z8, h3, -, h4, h5, h6, rfl, rfl⟩
      refine ⟨trivial, ?_⟩
      rw [List.length_nil, Nat.zero_add] at h3
      subst h3
      simp only [ws_cons, ws_nil, ws_asg, ws_sub, ws_expr, ws_ret, ws_retn, ws_iff, ws_for, ws_raise, ws_pass, ws_brk, ws_cnt, ws_aug, we_slot, we_const, we_bin, we_neg, we_cmp, we_chain, we_and, we_or, we_not, we_ite, we_tup, we_lst, we_idx, we_slc, we_comp, we_call, we_bi, we_me, we_isi, we_nil, we_cons, wo_none, wo_some, wt_none, wt_some, wr_val, wr_rng1, wr_rng2, slotQ_val, slotQ_own, negQ_int, notQ_bl, blQ_bl, augQ_int, bc_t, bc_f, dr_d, dr_tmp, dr_brw, brwQ_own, brwQ_val, oq_some, dd_int, dd_str, dd_bl, dd_non, dd_tup, dd_lst, dd_scr, esc_d, esc_tf, esc_tt, escs_nil, escs_cons, drs_nil, drs_cons, asgR_d, asgR_t, asgT_n, outR_d, outR_t, op_add, op_addS, op_addT, op_addL, op_sub, op_mul, op_mulL, op_fdiv, op_mod, op_pow, cm_eq, cm_ne, eq_int, eq_str, eq_bl, eq_non, cm_lt, cm_le, cm_gt, cm_ge, cm_in, cm_notin, cm_is, cm_isnot, ix_lst, ix_scr, ix_tup, ix_str, at_0, at_1, at_2, at_3, sl_tup, sl_lst, sl_scr, bi_lenL, bi_lenR, bi_lenT, bi_lenS, bi_abs, bi_max, bi_min, bi_intI, bi_intB, bi_listL, bi_listT, bi_listR, bi_tupL, bi_tupT, bi_all, bi_any, bi_sum, bi_lenset, bi_repr, au_add, au_sub, ixL0, ixL1, ixL2, esc_b, escQ_f, escQ_t, escQ_v, outR_b, outQ_o, outQ_v, modL_b, modQ_o, vq_tmp, vq_tup, vq_lst, vq_scr, vq_str, vq_b, vQ_o, asgR_b, List.length_map, me_app, me_appB, mt_app, mt_pop0, mt_pop1, mt_ins, mt_clear, mt_rev, mt_join, ws_cell, cellQ_o, cellQ_v, mt_index, mt_count, me_index, me_count, me_join, strLst_i, me_clear, me_rev, me_pop1, me_ins, true_and, isTys, isTy, tyN, Option.map_some, String.reduceBEq, Bool.or_false, Bool.false_or, Bool.or_true, Bool.true_or, Bool.and_false, Bool.and_true, Bool.false_and, Bool.true_and, Bool.not_true, Bool.not_false, List.getElem?_cons_zero, List.getElem?_cons_succ, List.set_cons_zero, List.set_cons_succ, List.map_cons, List.map_nil, List.replicate_succ, List.replicate_zero, List.cons_append, List.nil_append, Nat.sub_self]
      exact kk found cell rfl h4 h5 h6
    · rintro x xs ih env st' ⟨found, cell, z4, z5, z6, z7, z8, h3, hx, h4, h5, h6, rfl, rfl⟩
      rw [List.length_cons] at h3
      refine ⟨trivial, ?_⟩
      simp only [ws_cons, ws_nil, ws_asg, ws_sub, ws_expr, ws_ret, ws_retn, ws_iff, ws_for, ws_raise, ws_pass, ws_brk, ws_cnt, ws_aug, we_slot, we_const, we_bin, we_neg, we_cmp, we_chain, we_and, we_or, we_not, we_ite, we_tup, we_lst, we_idx, we_slc, we_comp, we_call, we_bi, we_me, we_isi, we_nil, we_cons, wo_none, wo_some, wt_none, wt_some, wr_val, wr_rng1, wr_rng2, slotQ_val, slotQ_own, negQ_int, notQ_bl, blQ_bl, augQ_int, bc_t, bc_f, dr_d, dr_tmp, dr_brw, brwQ_own, brwQ_val, oq_some, dd_int, dd_str, dd_bl, dd_non, dd_tup, dd_lst, dd_scr, esc_d, esc_tf, esc_tt, escs_nil, escs_cons, drs_nil, drs_cons, asgR_d, asgR_t, asgT_n, outR_d, outR_t, op_add, op_addS, op_addT, op_addL, op_sub, op_mul, op_mulL, op_fdiv, op_mod, op_pow, cm_eq, cm_ne, eq_int, eq_str, eq_bl, eq_non, cm_lt, cm_le, cm_gt, cm_ge, cm_in, cm_notin, cm_is, cm_isnot, ix_lst, ix_scr, ix_tup, ix_str, at_0, at_1, at_2, at_3, sl_tup, sl_lst, sl_scr, bi_lenL, bi_lenR, bi_lenT, bi_lenS, bi_abs, bi_max, bi_min, bi_intI, bi_intB, bi_listL, bi_listT, bi_listR, bi_tupL, bi_tupT, bi_all, bi_any, bi_sum, bi_lenset, bi_repr, au_add, au_sub, ixL0, ixL1, ixL2, esc_b, escQ_f, escQ_t, escQ_v, outR_b, outQ_o, outQ_v, modL_b, modQ_o, vq_tmp, vq_tup, vq_lst, vq_scr, vq_str, vq_b, vQ_o, asgR_b, List.length_map, me_app, me_appB, mt_app, mt_pop0, mt_pop1, mt_ins, mt_clear, mt_rev, mt_join, ws_cell, cellQ_o, cellQ_v, mt_index, mt_count, me_index, me_count, me_join, strLst_i, me_clear, me_rev, me_pop1, me_ins, true_and, isTys, isTy, tyN, Option.map_some, String.reduceBEq, Bool.or_false, Bool.false_or, Bool.or_true, Bool.true_or, Bool.and_false, Bool.and_true, Bool.false_and, Bool.true_and, Bool.not_true, Bool.not_false, List.getElem?_cons_zero, List.getElem?_cons_succ, List.set_cons_zero, List.set_cons_succ, List.map_cons, List.map_nil, List.replicate_succ, List.replicate_zero, List.cons_append, List.nil_append, Nat.sub_self]
      refine ⟨by show 2 ≤ sizeLine; decide, draw_ok hD (by omega) h6 (by omega) (by decide) (by decide) fun v cell1 v0 v1 h7 => ?_⟩
      rw [List.set_set] at h7 ⊢
      have hL : ∃ L : Str, L2.atI [D.str (Str.ofString "ab"), D.str (Str.ofString "abcdefghijklmnopqrstuvwxyz")] v = some (.str L) ∧ 0 < L.length ∧ L.length ≤ 26 ∧ ∀ x ∈ sg L, 97 ≤ x ∧ x ≤ 122 := by
        have : v = 0 ∨ v = 1 := by omega
        obtain ⟨_, _, _, q1, q2⟩ := len_small
        rcases this with rfl | rfl
        · exact ⟨_, at_0, by rw [q1]; decide, by rw [q1]; decide, by rw [sg_ab]; decide⟩
        · exact ⟨_, at_1, by rw [q2]; decide, by rw [q2]; decide, by rw [sg_letters]; decide⟩
      obtain ⟨L, hL, hL0, hL1, hL2⟩ := hL
      simp only [ws_cons, ws_nil, ws_asg, ws_sub, ws_expr, ws_ret, ws_retn, ws_iff, ws_for, ws_raise, ws_pass, ws_brk, ws_cnt, ws_aug, we_slot, we_const, we_bin, we_neg, we_cmp, we_chain, we_and, we_or, we_not, we_ite, we_tup, we_lst, we_idx, we_slc, we_comp, we_call, we_bi, we_me, we_isi, we_nil, we_cons, wo_none, wo_some, wt_none, wt_some, wr_val, wr_rng1, wr_rng2, slotQ_val, slotQ_own, negQ_int, notQ_bl, blQ_bl, augQ_int, bc_t, bc_f, dr_d, dr_tmp, dr_brw, brwQ_own, brwQ_val, oq_some, dd_int, dd_str, dd_bl, dd_non, dd_tup, dd_lst, dd_scr, esc_d, esc_tf, esc_tt, escs_nil, escs_cons, drs_nil, drs_cons, asgR_d, asgR_t, asgT_n, outR_d, outR_t, op_add, op_addS, op_addT, op_addL, op_sub, op_mul, op_mulL, op_fdiv, op_mod, op_pow, cm_eq, cm_ne, eq_int, eq_str, eq_bl, eq_non, cm_lt, cm_le, cm_gt, cm_ge, cm_in, cm_notin, cm_is, cm_isnot, ix_lst, ix_scr, ix_tup, ix_str, at_0, at_1, at_2, at_3, sl_tup, sl_lst, sl_scr, bi_lenL, bi_lenR, bi_lenT, bi_lenS, bi_abs, bi_max, bi_min, bi_intI, bi_intB, bi_listL, bi_listT, bi_listR, bi_tupL, bi_tupT, bi_all, bi_any, bi_sum, bi_lenset, bi_repr, au_add, au_sub, ixL0, ixL1, ixL2, esc_b, escQ_f, escQ_t, escQ_v, outR_b, outQ_o, outQ_v, modL_b, modQ_o, vq_tmp, vq_tup, vq_lst, vq_scr, vq_str, vq_b, vQ_o, asgR_b, List.length_map, me_app, me_appB, mt_app, mt_pop0, mt_pop1, mt_ins, mt_clear, mt_rev, mt_join, ws_cell, cellQ_o, cellQ_v, mt_index, mt_count, me_index, me_count, me_join, strLst_i, me_clear, me_rev, me_pop1, me_ins, true_and, isTys, isTy, tyN, Option.map_some, String.reduceBEq, Bool.or_false, Bool.false_or, Bool.or_true, Bool.true_or, Bool.and_false, Bool.and_true, Bool.false_and, Bool.true_and, Bool.not_true, Bool.not_false, List.getElem?_cons_zero, List.getElem?_cons_succ, List.set_cons_zero, List.set_cons_succ, List.map_cons, List.map_nil, List.replicate_succ, List.replicate_zero, List.cons_append, List.nil_append, Nat.sub_self, hL]
      refine draw_ok hD (by omega) h7 (by omega) (by decide) (by decide) fun n cell2 n0 n1 h8 => ?_
      rw [List.set_set] at h8 ⊢
      simp only [ws_cons, ws_nil, ws_asg, ws_sub, ws_expr, ws_ret, ws_retn, ws_iff, ws_for, ws_raise, ws_pass, ws_brk, ws_cnt, ws_aug, we_slot, we_const, we_bin, we_neg, we_cmp, we_chain, we_and, we_or, we_not, we_ite, we_tup, we_lst, we_idx, we_slc, we_comp, we_call, we_bi, we_me, we_isi, we_nil, we_cons, wo_none, wo_some, wt_none, wt_some, wr_val, wr_rng1, wr_rng2, slotQ_val, slotQ_own, negQ_int, notQ_bl, blQ_bl, augQ_int, bc_t, bc_f, dr_d, dr_tmp, dr_brw, brwQ_own, brwQ_val, oq_some, dd_int, dd_str, dd_bl, dd_non, dd_tup, dd_lst, dd_scr, esc_d, esc_tf, esc_tt, escs_nil, escs_cons, drs_nil, drs_cons, asgR_d, asgR_t, asgT_n, outR_d, outR_t, op_add, op_addS, op_addT, op_addL, op_sub, op_mul, op_mulL, op_fdiv, op_mod, op_pow, cm_eq, cm_ne, eq_int, eq_str, eq_bl, eq_non, cm_lt, cm_le, cm_gt, cm_ge, cm_in, cm_notin, cm_is, cm_isnot, ix_lst, ix_scr, ix_tup, ix_str, at_0, at_1, at_2, at_3, sl_tup, sl_lst, sl_scr, bi_lenL, bi_lenR, bi_lenT, bi_lenS, bi_abs, bi_max, bi_min, bi_intI, bi_intB, bi_listL, bi_listT, bi_listR, bi_tupL, bi_tupT, bi_all, bi_any, bi_sum, bi_lenset, bi_repr, au_add, au_sub, ixL0, ixL1, ixL2, esc_b, escQ_f, escQ_t, escQ_v, outR_b, outQ_o, outQ_v, modL_b, modQ_o, vq_tmp, vq_tup, vq_lst, vq_scr, vq_str, vq_b, vQ_o, asgR_b, List.length_map, me_app, me_appB, mt_app, mt_pop0, mt_pop1, mt_ins, mt_clear, mt_rev, mt_join, ws_cell, cellQ_o, cellQ_v, mt_index, mt_count, me_index, me_count, me_join, strLst_i, me_clear, me_rev, me_pop1, me_ins, true_and, isTys, isTy, tyN, Option.map_some, String.reduceBEq, Bool.or_false, Bool.false_or, Bool.or_true, Bool.true_or, Bool.and_false, Bool.and_true, Bool.false_and, Bool.true_and, Bool.not_true, Bool.not_false, List.getElem?_cons_zero, List.getElem?_cons_succ, List.set_cons_zero, List.set_cons_succ, List.map_cons, List.map_nil, List.replicate_succ, List.replicate_zero, List.cons_append, List.nil_append, Nat.sub_self]
      refine ⟨⟨by omega, by omega⟩, ?_⟩
      refine comp_ind (fun xs acc st' => ∃ (ys : List Str) (cell : Cell), xs.length + ys.length = (1 + n).toNat ∧ acc = ys.map D.str ∧ (∀ y ∈ ys, (sg y).length = 1 ∧ ∀ x ∈ sg y, 97 ≤ x ∧ x ≤ 122) ∧ Spr (c + 10 * found.length + 2 + ys.length) r st' ∧ st' = st.set r cell) ?_ ?_ _ _ _ ?_
      · rintro acc st' ⟨ys, cell3, y1, rfl, y2, y3, rfl⟩
        refine ⟨trivial, ?_⟩
        rw [List.length_nil, Nat.zero_add] at y1
        have yl : (ys.map (·.length)).sum = ys.length := by
          clear y1 y3
          induction ys with
          | nil => rfl
          | cons y ys ih =>
            rw [List.map_cons, List.sum_cons, ih fun z hz => y2 z (List.mem_cons_of_mem _ hz), List.length_cons, sg_len, (y2 y List.mem_cons_self).1]
            omega
        have es0 : (Str.ofString "").length = 0 := by decide +kernel
        have hw : NameOk (Txt.join (Str.ofString "") ys) := by
          have hsg := sg_join ys
          have hl : (sg (Txt.join (Str.ofString "") ys)).length = ys.length := by
            rw [hsg]
            clear hsg yl y1 y3
            induction ys with
            | nil => rfl
            | cons y ys ih =>
              rw [List.map_cons, List.flatten_cons, List.length_append, ih fun z hz => y2 z (List.mem_cons_of_mem _ hz), (y2 y List.mem_cons_self).1, List.length_cons]
              omega
          refine ⟨by omega, by omega, fun c hc => ?_⟩
          rw [hsg] at hc
          obtain ⟨l, hl, hc⟩ := List.mem_flatten.mp hc
          obtain ⟨y, hy, rfl⟩ := List.mem_map.mp hl
          exact (y2 y hy).2 c hc
        simp only [ws_cons, ws_nil, ws_asg, ws_sub, ws_expr, ws_ret, ws_retn, ws_iff, ws_for, ws_raise, ws_pass, ws_brk, ws_cnt, ws_aug, we_slot, we_const, we_bin, we_neg, we_cmp, we_chain, we_and, we_or, we_not, we_ite, we_tup, we_lst, we_idx, we_slc, we_comp, we_call, we_bi, we_me, we_isi, we_nil, we_cons, wo_none, wo_some, wt_none, wt_some, wr_val, wr_rng1, wr_rng2, slotQ_val, slotQ_own, negQ_int, notQ_bl, blQ_bl, augQ_int, bc_t, bc_f, dr_d, dr_tmp, dr_brw, brwQ_own, brwQ_val, oq_some, dd_int, dd_str, dd_bl, dd_non, dd_tup, dd_lst, dd_scr, esc_d, esc_tf, esc_tt, escs_nil, escs_cons, drs_nil, drs_cons, asgR_d, asgR_t, asgT_n, outR_d, outR_t, op_add, op_addS, op_addT, op_addL, op_sub, op_mul, op_mulL, op_fdiv, op_mod, op_pow, cm_eq, cm_ne, eq_int, eq_str, eq_bl, eq_non, cm_lt, cm_le, cm_gt, cm_ge, cm_in, cm_notin, cm_is, cm_isnot, ix_lst, ix_scr, ix_tup, ix_str, at_0, at_1, at_2, at_3, sl_tup, sl_lst, sl_scr, bi_lenL, bi_lenR, bi_lenT, bi_lenS, bi_abs, bi_max, bi_min, bi_intI, bi_intB, bi_listL, bi_listT, bi_listR, bi_tupL, bi_tupT, bi_all, bi_any, bi_sum, bi_lenset, bi_repr, au_add, au_sub, ixL0, ixL1, ixL2, esc_b, escQ_f, escQ_t, escQ_v, outR_b, outQ_o, outQ_v, modL_b, modQ_o, vq_tmp, vq_tup, vq_lst, vq_scr, vq_str, vq_b, vQ_o, asgR_b, List.length_map, me_app, me_appB, mt_app, mt_pop0, mt_pop1, mt_ins, mt_clear, mt_rev, mt_join, ws_cell, cellQ_o, cellQ_v, mt_index, mt_count, me_index, me_count, me_join, strLst_i, me_clear, me_rev, me_pop1, me_ins, true_and, isTys, isTy, tyN, Option.map_some, String.reduceBEq, Bool.or_false, Bool.false_or, Bool.or_true, Bool.true_or, Bool.and_false, Bool.and_true, Bool.false_and, Bool.true_and, Bool.not_true, Bool.not_false, List.getElem?_cons_zero, List.getElem?_cons_succ, List.set_cons_zero, List.set_cons_succ, List.map_cons, List.map_nil, List.replicate_succ, List.replicate_zero, List.cons_append, List.nil_append, Nat.sub_self, asStrs_map]
        generalize Txt.join (Str.ofString "") ys = w at hw
        have hok : ∀ s ∈ w :: spare, NameOk s := fun s hs => by
          cases hs with
          | head => exact hw
          | tail _ hs => exact spare_ok s hs
        refine ⟨by rw [yl, es0]; omega, by show 1 ≤ sizeLine; decide, by rw [spare_len]; show 1 + 50 ≤ sizeLine; decide, ?_⟩
        refine comp_filt (g := fun x => x) (p := fun x => match x with
          | .str s => !decide (s ∈ found)
          | _ => false) trivial (by rw [List.length_cons, List.length_map, spare_len]; decide) (fun x hx Q q => ?_) (fun x hx hp Q q => ?_) ?_
        · have hx : x ∈ (w :: spare).map D.str := hx
          obtain ⟨s, hs, rfl⟩ := List.mem_map.mp hx
          simp only [ws_cons, ws_nil, ws_asg, ws_sub, ws_expr, ws_ret, ws_retn, ws_iff, ws_for, ws_raise, ws_pass, ws_brk, ws_cnt, ws_aug, we_slot, we_const, we_bin, we_neg, we_cmp, we_chain, we_and, we_or, we_not, we_ite, we_tup, we_lst, we_idx, we_slc, we_comp, we_call, we_bi, we_me, we_isi, we_nil, we_cons, wo_none, wo_some, wt_none, wt_some, wr_val, wr_rng1, wr_rng2, slotQ_val, slotQ_own, negQ_int, notQ_bl, blQ_bl, augQ_int, bc_t, bc_f, dr_d, dr_tmp, dr_brw, brwQ_own, brwQ_val, oq_some, dd_int, dd_str, dd_bl, dd_non, dd_tup, dd_lst, dd_scr, esc_d, esc_tf, esc_tt, escs_nil, escs_cons, drs_nil, drs_cons, asgR_d, asgR_t, asgT_n, outR_d, outR_t, op_add, op_addS, op_addT, op_addL, op_sub, op_mul, op_mulL, op_fdiv, op_mod, op_pow, cm_eq, cm_ne, eq_int, eq_str, eq_bl, eq_non, cm_lt, cm_le, cm_gt, cm_ge, cm_in, cm_notin, cm_is, cm_isnot, ix_lst, ix_scr, ix_tup, ix_str, at_0, at_1, at_2, at_3, sl_tup, sl_lst, sl_scr, bi_lenL, bi_lenR, bi_lenT, bi_lenS, bi_abs, bi_max, bi_min, bi_intI, bi_intB, bi_listL, bi_listT, bi_listR, bi_tupL, bi_tupT, bi_all, bi_any, bi_sum, bi_lenset, bi_repr, au_add, au_sub, ixL0, ixL1, ixL2, esc_b, escQ_f, escQ_t, escQ_v, outR_b, outQ_o, outQ_v, modL_b, modQ_o, vq_tmp, vq_tup, vq_lst, vq_scr, vq_str, vq_b, vQ_o, asgR_b, List.length_map, me_app, me_appB, mt_app, mt_pop0, mt_pop1, mt_ins, mt_clear, mt_rev, mt_join, ws_cell, cellQ_o, cellQ_v, mt_index, mt_count, me_index, me_count, me_join, strLst_i, me_clear, me_rev, me_pop1, me_ins, true_and, isTys, isTy, tyN, Option.map_some, String.reduceBEq, Bool.or_false, Bool.false_or, Bool.or_true, Bool.true_or, Bool.and_false, Bool.and_true, Bool.false_and, Bool.true_and, Bool.not_true, Bool.not_false, List.getElem?_cons_zero, List.getElem?_cons_succ, List.set_cons_zero, List.set_cons_succ, List.map_cons, List.map_nil, List.replicate_succ, List.replicate_zero, List.cons_append, List.nil_append, Nat.sub_self] at q ⊢
          exact in_strs (hok s hs).ok (fun n hn => (h4 n hn).ok) q
        · simp only [ws_cons, ws_nil, ws_asg, ws_sub, ws_expr, ws_ret, ws_retn, ws_iff, ws_for, ws_raise, ws_pass, ws_brk, ws_cnt, ws_aug, we_slot, we_const, we_bin, we_neg, we_cmp, we_chain, we_and, we_or, we_not, we_ite, we_tup, we_lst, we_idx, we_slc, we_comp, we_call, we_bi, we_me, we_isi, we_nil, we_cons, wo_none, wo_some, wt_none, wt_some, wr_val, wr_rng1, wr_rng2, slotQ_val, slotQ_own, negQ_int, notQ_bl, blQ_bl, augQ_int, bc_t, bc_f, dr_d, dr_tmp, dr_brw, brwQ_own, brwQ_val, oq_some, dd_int, dd_str, dd_bl, dd_non, dd_tup, dd_lst, dd_scr, esc_d, esc_tf, esc_tt, escs_nil, escs_cons, drs_nil, drs_cons, asgR_d, asgR_t, asgT_n, outR_d, outR_t, op_add, op_addS, op_addT, op_addL, op_sub, op_mul, op_mulL, op_fdiv, op_mod, op_pow, cm_eq, cm_ne, eq_int, eq_str, eq_bl, eq_non, cm_lt, cm_le, cm_gt, cm_ge, cm_in, cm_notin, cm_is, cm_isnot, ix_lst, ix_scr, ix_tup, ix_str, at_0, at_1, at_2, at_3, sl_tup, sl_lst, sl_scr, bi_lenL, bi_lenR, bi_lenT, bi_lenS, bi_abs, bi_max, bi_min, bi_intI, bi_intB, bi_listL, bi_listT, bi_listR, bi_tupL, bi_tupT, bi_all, bi_any, bi_sum, bi_lenset, bi_repr, au_add, au_sub, ixL0, ixL1, ixL2, esc_b, escQ_f, escQ_t, escQ_v, outR_b, outQ_o, outQ_v, modL_b, modQ_o, vq_tmp, vq_tup, vq_lst, vq_scr, vq_str, vq_b, vQ_o, asgR_b, List.length_map, me_app, me_appB, mt_app, mt_pop0, mt_pop1, mt_ins, mt_clear, mt_rev, mt_join, ws_cell, cellQ_o, cellQ_v, mt_index, mt_count, me_index, me_count, me_join, strLst_i, me_clear, me_rev, me_pop1, me_ins, true_and, isTys, isTy, tyN, Option.map_some, String.reduceBEq, Bool.or_false, Bool.false_or, Bool.or_true, Bool.true_or, Bool.and_false, Bool.and_true, Bool.false_and, Bool.true_and, Bool.not_true, Bool.not_false, List.getElem?_cons_zero, List.getElem?_cons_succ, List.set_cons_zero, List.set_cons_succ, List.map_cons, List.map_nil, List.replicate_succ, List.replicate_zero, List.cons_append, List.nil_append, Nat.sub_self] at q ⊢
          exact q
        · obtain ⟨x1, l1, e1, e2, e3⟩ := first_new (w := w) (found := found) (by omega)
          have ef : (List.filter (fun x => match x with
              | D.str s => !decide (s ∈ found)
              | _ => false) (D.str w :: spare.map D.str)).map (fun x => x) = D.str x1 :: l1.map D.str := by
            rw [List.map_id', show D.str w :: spare.map D.str = (w :: spare).map D.str from rfl, List.filter_map]
            show ((w :: spare).filter (fun s => !decide (s ∈ found))).map D.str = _
            rw [e1]
            rfl
          rw [ef]
          simp only [ws_cons, ws_nil, ws_asg, ws_sub, ws_expr, ws_ret, ws_retn, ws_iff, ws_for, ws_raise, ws_pass, ws_brk, ws_cnt, ws_aug, we_slot, we_const, we_bin, we_neg, we_cmp, we_chain, we_and, we_or, we_not, we_ite, we_tup, we_lst, we_idx, we_slc, we_comp, we_call, we_bi, we_me, we_isi, we_nil, we_cons, wo_none, wo_some, wt_none, wt_some, wr_val, wr_rng1, wr_rng2, slotQ_val, slotQ_own, negQ_int, notQ_bl, blQ_bl, augQ_int, bc_t, bc_f, dr_d, dr_tmp, dr_brw, brwQ_own, brwQ_val, oq_some, dd_int, dd_str, dd_bl, dd_non, dd_tup, dd_lst, dd_scr, esc_d, esc_tf, esc_tt, escs_nil, escs_cons, drs_nil, drs_cons, asgR_d, asgR_t, asgT_n, outR_d, outR_t, op_add, op_addS, op_addT, op_addL, op_sub, op_mul, op_mulL, op_fdiv, op_mod, op_pow, cm_eq, cm_ne, eq_int, eq_str, eq_bl, eq_non, cm_lt, cm_le, cm_gt, cm_ge, cm_in, cm_notin, cm_is, cm_isnot, ix_lst, ix_scr, ix_tup, ix_str, at_0, at_1, at_2, at_3, sl_tup, sl_lst, sl_scr, bi_lenL, bi_lenR, bi_lenT, bi_lenS, bi_abs, bi_max, bi_min, bi_intI, bi_intB, bi_listL, bi_listT, bi_listR, bi_tupL, bi_tupT, bi_all, bi_any, bi_sum, bi_lenset, bi_repr, au_add, au_sub, ixL0, ixL1, ixL2, esc_b, escQ_f, escQ_t, escQ_v, outR_b, outQ_o, outQ_v, modL_b, modQ_o, vq_tmp, vq_tup, vq_lst, vq_scr, vq_str, vq_b, vQ_o, asgR_b, List.length_map, me_app, me_appB, mt_app, mt_pop0, mt_pop1, mt_ins, mt_clear, mt_rev, mt_join, ws_cell, cellQ_o, cellQ_v, mt_index, mt_count, me_index, me_count, me_join, strLst_i, me_clear, me_rev, me_pop1, me_ins, true_and, isTys, isTy, tyN, Option.map_some, String.reduceBEq, Bool.or_false, Bool.false_or, Bool.or_true, Bool.true_or, Bool.and_false, Bool.and_true, Bool.false_and, Bool.true_and, Bool.not_true, Bool.not_false, List.getElem?_cons_zero, List.getElem?_cons_succ, List.set_cons_zero, List.set_cons_succ, List.map_cons, List.map_nil, List.replicate_succ, List.replicate_zero, List.cons_append, List.nil_append, Nat.sub_self]
          have hx1 : NameOk x1 := by
            rcases e3 with rfl | e3
            · exact hw
            · exact spare_ok _ e3
          refine ⟨by rw [sizeLine_eq]; omega, ih _ _ ⟨found ++ [x1], cell3, _, _, _, _, _, by rw [List.length_append]; simp; omega, fun y hy => hx y (List.mem_cons_of_mem _ hy), fun n hn => ?_, ?_, ?_, rfl, by rw [List.map_append]; rfl⟩⟩
          · rcases List.mem_append.mp hn with hn | hn
            · exact h4 n hn
            · rw [List.mem_singleton.mp hn]; exact hx1
          · rw [List.nodup_append]
            refine ⟨h5, by simp, fun a ha b hb => ?_⟩
            rw [List.mem_singleton.mp hb]
            intro z
            subst z
            exact e2 ha
          · exact y3.mono (by rw [List.length_append]; simp; omega)
      · rintro z zs ih2 acc st' ⟨ys, cell3, y1, rfl, y2, y3, rfl⟩
        refine ⟨trivial, ?_⟩
        simp only [ws_cons, ws_nil, ws_asg, ws_sub, ws_expr, ws_ret, ws_retn, ws_iff, ws_for, ws_raise, ws_pass, ws_brk, ws_cnt, ws_aug, we_slot, we_const, we_bin, we_neg, we_cmp, we_chain, we_and, we_or, we_not, we_ite, we_tup, we_lst, we_idx, we_slc, we_comp, we_call, we_bi, we_me, we_isi, we_nil, we_cons, wo_none, wo_some, wt_none, wt_some, wr_val, wr_rng1, wr_rng2, slotQ_val, slotQ_own, negQ_int, notQ_bl, blQ_bl, augQ_int, bc_t, bc_f, dr_d, dr_tmp, dr_brw, brwQ_own, brwQ_val, oq_some, dd_int, dd_str, dd_bl, dd_non, dd_tup, dd_lst, dd_scr, esc_d, esc_tf, esc_tt, escs_nil, escs_cons, drs_nil, drs_cons, asgR_d, asgR_t, asgT_n, outR_d, outR_t, op_add, op_addS, op_addT, op_addL, op_sub, op_mul, op_mulL, op_fdiv, op_mod, op_pow, cm_eq, cm_ne, eq_int, eq_str, eq_bl, eq_non, cm_lt, cm_le, cm_gt, cm_ge, cm_in, cm_notin, cm_is, cm_isnot, ix_lst, ix_scr, ix_tup, ix_str, at_0, at_1, at_2, at_3, sl_tup, sl_lst, sl_scr, bi_lenL, bi_lenR, bi_lenT, bi_lenS, bi_abs, bi_max, bi_min, bi_intI, bi_intB, bi_listL, bi_listT, bi_listR, bi_tupL, bi_tupT, bi_all, bi_any, bi_sum, bi_lenset, bi_repr, au_add, au_sub, ixL0, ixL1, ixL2, esc_b, escQ_f, escQ_t, escQ_v, outR_b, outQ_o, outQ_v, modL_b, modQ_o, vq_tmp, vq_tup, vq_lst, vq_scr, vq_str, vq_b, vQ_o, asgR_b, List.length_map, me_app, me_appB, mt_app, mt_pop0, mt_pop1, mt_ins, mt_clear, mt_rev, mt_join, ws_cell, cellQ_o, cellQ_v, mt_index, mt_count, me_index, me_count, me_join, strLst_i, me_clear, me_rev, me_pop1, me_ins, true_and, isTys, isTy, tyN, Option.map_some, String.reduceBEq, Bool.or_false, Bool.false_or, Bool.or_true, Bool.true_or, Bool.and_false, Bool.and_true, Bool.false_and, Bool.true_and, Bool.not_true, Bool.not_false, List.getElem?_cons_zero, List.getElem?_cons_succ, List.set_cons_zero, List.set_cons_succ, List.map_cons, List.map_nil, List.replicate_succ, List.replicate_zero, List.cons_append, List.nil_append, Nat.sub_self, wipeE, backE]
        rw [List.length_cons] at y1
        refine ⟨by rw [sizeLine_eq]; omega, draw_ok hD (by omega) y3 (by omega) (by omega) (by omega) fun u cell4 u0 u1 h9 => ?_⟩
        rw [List.set_set] at h9 ⊢
        obtain ⟨ch, hc, hch⟩ := at_in (l := sg L) u0 (by rw [← sg_len]; exact u1)
        simp only [ws_cons, ws_nil, ws_asg, ws_sub, ws_expr, ws_ret, ws_retn, ws_iff, ws_for, ws_raise, ws_pass, ws_brk, ws_cnt, ws_aug, we_slot, we_const, we_bin, we_neg, we_cmp, we_chain, we_and, we_or, we_not, we_ite, we_tup, we_lst, we_idx, we_slc, we_comp, we_call, we_bi, we_me, we_isi, we_nil, we_cons, wo_none, wo_some, wt_none, wt_some, wr_val, wr_rng1, wr_rng2, slotQ_val, slotQ_own, negQ_int, notQ_bl, blQ_bl, augQ_int, bc_t, bc_f, dr_d, dr_tmp, dr_brw, brwQ_own, brwQ_val, oq_some, dd_int, dd_str, dd_bl, dd_non, dd_tup, dd_lst, dd_scr, esc_d, esc_tf, esc_tt, escs_nil, escs_cons, drs_nil, drs_cons, asgR_d, asgR_t, asgT_n, outR_d, outR_t, op_add, op_addS, op_addT, op_addL, op_sub, op_mul, op_mulL, op_fdiv, op_mod, op_pow, cm_eq, cm_ne, eq_int, eq_str, eq_bl, eq_non, cm_lt, cm_le, cm_gt, cm_ge, cm_in, cm_notin, cm_is, cm_isnot, ix_lst, ix_scr, ix_tup, ix_str, at_0, at_1, at_2, at_3, sl_tup, sl_lst, sl_scr, bi_lenL, bi_lenR, bi_lenT, bi_lenS, bi_abs, bi_max, bi_min, bi_intI, bi_intB, bi_listL, bi_listT, bi_listR, bi_tupL, bi_tupT, bi_all, bi_any, bi_sum, bi_lenset, bi_repr, au_add, au_sub, ixL0, ixL1, ixL2, esc_b, escQ_f, escQ_t, escQ_v, outR_b, outQ_o, outQ_v, modL_b, modQ_o, vq_tmp, vq_tup, vq_lst, vq_scr, vq_str, vq_b, vQ_o, asgR_b, List.length_map, me_app, me_appB, mt_app, mt_pop0, mt_pop1, mt_ins, mt_clear, mt_rev, mt_join, ws_cell, cellQ_o, cellQ_v, mt_index, mt_count, me_index, me_count, me_join, strLst_i, me_clear, me_rev, me_pop1, me_ins, true_and, isTys, isTy, tyN, Option.map_some, String.reduceBEq, Bool.or_false, Bool.false_or, Bool.or_true, Bool.true_or, Bool.and_false, Bool.and_true, Bool.false_and, Bool.true_and, Bool.not_true, Bool.not_false, List.getElem?_cons_zero, List.getElem?_cons_succ, List.set_cons_zero, List.set_cons_succ, List.map_cons, List.map_nil, List.replicate_succ, List.replicate_zero, List.cons_append, List.nil_append, Nat.sub_self, hch, wipeE, backE, List.getD_cons_zero, List.getD_cons_succ]
        refine ⟨by rw [sizeLine_eq]; omega, by rw [sizeLine_eq]; omega, ih2 _ _ ⟨ys ++ [⟨#[ch]⟩], cell4, by rw [List.length_append]; simp; omega, by simp, fun y hy => ?_, by rw [List.length_append]; exact h9, rfl⟩⟩
        rcases List.mem_append.mp hy with hy | hy
        · exact y2 y hy
        · rw [List.mem_singleton.mp hy]
          exact ⟨rfl, fun x hx => by rw [List.mem_singleton.mp hx]; exact hL2 ch hc⟩
      · exact ⟨[], cell2, by simp [rngL], rfl, by simp, h8, rfl⟩
    · refine ⟨[], .lst [.int F0, .int S0, .int N0], .no, .no, .no, .no, .no, by simp [rngL], fun x hx => ?_, by simp, List.nodup_nil, h, ?_, rfl⟩
      · obtain ⟨i, _, rfl⟩ := List.mem_map.mp hx
        exact ⟨_, rfl⟩
      · exact (set_self hr0).symm
end LW
set_option maxHeartbeats 4000000
namespace LW
open PySem PI

/-! ### decks -/
abbrev Deck := List (Str × Int)
def cardD (p : Str × Int) : D := .tup [.str p.1, .int p.2]
def deckD (l : Deck) : D := .tup (l.map cardD)
structure DeckOk (l : Deck) : Prop where
  l1 : 1 ≤ l.length
  l40 : l.length ≤ 40
  nm : ∀ p ∈ l, NameOk p.1
  nd : (l.map (·.1)).Nodup
  dp : ∀ p ∈ l, 0 ≤ p.2 ∧ p.2 < 10 ^ 30
theorem deck_draw {T : Tab} {k : Nat} (hD : T.fn "_law_draw" = some d__law_draw) (hN : T.fn "_law_names" = some d__law_names) (hT : T.fn "_law_deck" = some d__law_deck) (hk : 3 ≤ k) {c r most : Nat} {st : PSto} {Q : R → PSto → Prop} {E : Exn → PSto → Prop} (h : Spr c r st) (hc : c + 700 < 2 ^ 60) (hm1 : 1 ≤ most) (hm : most ≤ 40)
    (kk : ∀ (l : Deck) (cell : Cell), DeckOk l → (l.length ≤ most ∨ l.length ≤ 7) → Spr (c + 700) r (st.set r cell) → Q (.d (deckD l)) (st.set r cell)) : wpC T k "_law_deck" [.ref r, .int (most : Int)] st Q E := by
  obtain ⟨k, rfl⟩ : ∃ j, k = j + 1 := ⟨k - 1, by omega⟩
  refine wpC_of hT rfl ?_
  simp only [d__law_deck, ws_cons, ws_nil, ws_asg, ws_sub, ws_expr, ws_ret, ws_retn, ws_iff, ws_for, ws_raise, ws_pass, ws_brk, ws_cnt, ws_aug, we_slot, we_const, we_bin, we_neg, we_cmp, we_chain, we_and, we_or, we_not, we_ite, we_tup, we_lst, we_idx, we_slc, we_comp, we_call, we_bi, we_me, we_isi, we_nil, we_cons, wo_none, wo_some, wt_none, wt_some, wr_val, wr_rng1, wr_rng2, slotQ_val, slotQ_own, negQ_int, notQ_bl, blQ_bl, augQ_int, bc_t, bc_f, dr_d, dr_tmp, dr_brw, brwQ_own, brwQ_val, oq_some, dd_int, dd_str, dd_bl, dd_non, dd_tup, dd_lst, dd_scr, esc_d, esc_tf, esc_tt, escs_nil, escs_cons, drs_nil, drs_cons, asgR_d, asgR_t, asgT_n, outR_d, outR_t, op_add, op_addS, op_addT, op_addL, op_sub, op_mul, op_mulL, op_fdiv, op_mod, op_pow, cm_eq, cm_ne, eq_int, eq_str, eq_bl, eq_non, cm_lt, cm_le, cm_gt, cm_ge, cm_in, cm_notin, cm_is, cm_isnot, ix_lst, ix_scr, ix_tup, ix_str, at_0, at_1, at_2, at_3, sl_tup, sl_lst, sl_scr, bi_lenL, bi_lenR, bi_lenT, bi_lenS, bi_abs, bi_max, bi_min, bi_intI, bi_intB, bi_listL, bi_listT, bi_listR, bi_tupL, bi_tupT, bi_all, bi_any, bi_sum, bi_lenset, bi_repr, au_add, au_sub, ixL0, ixL1, ixL2, esc_b, escQ_f, escQ_t, escQ_v, outR_b, outQ_o, outQ_v, modL_b, modQ_o, vq_tmp, vq_tup, vq_lst, vq_scr, vq_str, vq_b, vQ_o, asgR_b, List.length_map, me_app, me_appB, mt_app, mt_pop0, mt_pop1, mt_ins, mt_clear, mt_rev, mt_join, ws_cell, cellQ_o, cellQ_v, mt_index, mt_count, me_index, me_count, me_join, strLst_i, me_clear, me_rev, me_pop1, me_ins, true_and, isTys, isTy, tyN, Option.map_some, String.reduceBEq, Bool.or_false, Bool.false_or, Bool.or_true, Bool.true_or, Bool.and_false, Bool.and_true, Bool.false_and, Bool.true_and, Bool.not_true, Bool.not_false, List.getElem?_cons_zero, List.getElem?_cons_succ, List.set_cons_zero, List.set_cons_succ, List.map_cons, List.map_nil, List.replicate_succ, List.replicate_zero, List.cons_append, List.nil_append, Nat.sub_self]
  refine ⟨by show 3 ≤ sizeLine; decide, draw_ok hD (by omega) h (by omega) (by decide) (by decide) fun v1 c1 a1 b1 s1 => ?_⟩
  have hM : ∃ M : Int, L2.atI [D.int 3, D.int 7, D.int (most : Int)] v1 = some (.int M) ∧ 1 ≤ M ∧ (M ≤ most ∨ M ≤ 7) := by
    have : v1 = 0 ∨ v1 = 1 ∨ v1 = 2 := by omega
    rcases this with rfl | rfl | rfl
    · exact ⟨_, at_0, by decide, .inr (by decide)⟩
    · exact ⟨_, at_1, by decide, .inr (by decide)⟩
    · exact ⟨_, at_2, by omega, .inl (by omega)⟩
  obtain ⟨M, hM, M1, M2⟩ := hM
  simp only [ws_cons, ws_nil, ws_asg, ws_sub, ws_expr, ws_ret, ws_retn, ws_iff, ws_for, ws_raise, ws_pass, ws_brk, ws_cnt, ws_aug, we_slot, we_const, we_bin, we_neg, we_cmp, we_chain, we_and, we_or, we_not, we_ite, we_tup, we_lst, we_idx, we_slc, we_comp, we_call, we_bi, we_me, we_isi, we_nil, we_cons, wo_none, wo_some, wt_none, wt_some, wr_val, wr_rng1, wr_rng2, slotQ_val, slotQ_own, negQ_int, notQ_bl, blQ_bl, augQ_int, bc_t, bc_f, dr_d, dr_tmp, dr_brw, brwQ_own, brwQ_val, oq_some, dd_int, dd_str, dd_bl, dd_non, dd_tup, dd_lst, dd_scr, esc_d, esc_tf, esc_tt, escs_nil, escs_cons, drs_nil, drs_cons, asgR_d, asgR_t, asgT_n, outR_d, outR_t, op_add, op_addS, op_addT, op_addL, op_sub, op_mul, op_mulL, op_fdiv, op_mod, op_pow, cm_eq, cm_ne, eq_int, eq_str, eq_bl, eq_non, cm_lt, cm_le, cm_gt, cm_ge, cm_in, cm_notin, cm_is, cm_isnot, ix_lst, ix_scr, ix_tup, ix_str, at_0, at_1, at_2, at_3, sl_tup, sl_lst, sl_scr, bi_lenL, bi_lenR, bi_lenT, bi_lenS, bi_abs, bi_max, bi_min, bi_intI, bi_intB, bi_listL, bi_listT, bi_listR, bi_tupL, bi_tupT, bi_all, bi_any, bi_sum, bi_lenset, bi_repr, au_add, au_sub, ixL0, ixL1, ixL2, esc_b, escQ_f, escQ_t, escQ_v, outR_b, outQ_o, outQ_v, modL_b, modQ_o, vq_tmp, vq_tup, vq_lst, vq_scr, vq_str, vq_b, vQ_o, asgR_b, List.length_map, me_app, me_appB, mt_app, mt_pop0, mt_pop1, mt_ins, mt_clear, mt_rev, mt_join, ws_cell, cellQ_o, cellQ_v, mt_index, mt_count, me_index, me_count, me_join, strLst_i, me_clear, me_rev, me_pop1, me_ins, true_and, isTys, isTy, tyN, Option.map_some, String.reduceBEq, Bool.or_false, Bool.false_or, Bool.or_true, Bool.true_or, Bool.and_false, Bool.and_true, Bool.false_and, Bool.true_and, Bool.not_true, Bool.not_false, List.getElem?_cons_zero, List.getElem?_cons_succ, List.set_cons_zero, List.set_cons_succ, List.map_cons, List.map_nil, List.replicate_succ, List.replicate_zero, List.cons_append, List.nil_append, Nat.sub_self, hM]
  refine draw_ok hD (by omega) s1 (by omega) (by omega) (by omega) fun v2 c2 a2 b2 s2 => ?_
  rw [List.set_set] at s2 ⊢
  simp only [ws_cons, ws_nil, ws_asg, ws_sub, ws_expr, ws_ret, ws_retn, ws_iff, ws_for, ws_raise, ws_pass, ws_brk, ws_cnt, ws_aug, we_slot, we_const, we_bin, we_neg, we_cmp, we_chain, we_and, we_or, we_not, we_ite, we_tup, we_lst, we_idx, we_slc, we_comp, we_call, we_bi, we_me, we_isi, we_nil, we_cons, wo_none, wo_some, wt_none, wt_some, wr_val, wr_rng1, wr_rng2, slotQ_val, slotQ_own, negQ_int, notQ_bl, blQ_bl, augQ_int, bc_t, bc_f, dr_d, dr_tmp, dr_brw, brwQ_own, brwQ_val, oq_some, dd_int, dd_str, dd_bl, dd_non, dd_tup, dd_lst, dd_scr, esc_d, esc_tf, esc_tt, escs_nil, escs_cons, drs_nil, drs_cons, asgR_d, asgR_t, asgT_n, outR_d, outR_t, op_add, op_addS, op_addT, op_addL, op_sub, op_mul, op_mulL, op_fdiv, op_mod, op_pow, cm_eq, cm_ne, eq_int, eq_str, eq_bl, eq_non, cm_lt, cm_le, cm_gt, cm_ge, cm_in, cm_notin, cm_is, cm_isnot, ix_lst, ix_scr, ix_tup, ix_str, at_0, at_1, at_2, at_3, sl_tup, sl_lst, sl_scr, bi_lenL, bi_lenR, bi_lenT, bi_lenS, bi_abs, bi_max, bi_min, bi_intI, bi_intB, bi_listL, bi_listT, bi_listR, bi_tupL, bi_tupT, bi_all, bi_any, bi_sum, bi_lenset, bi_repr, au_add, au_sub, ixL0, ixL1, ixL2, esc_b, escQ_f, escQ_t, escQ_v, outR_b, outQ_o, outQ_v, modL_b, modQ_o, vq_tmp, vq_tup, vq_lst, vq_scr, vq_str, vq_b, vQ_o, asgR_b, List.length_map, me_app, me_appB, mt_app, mt_pop0, mt_pop1, mt_ins, mt_clear, mt_rev, mt_join, ws_cell, cellQ_o, cellQ_v, mt_index, mt_count, me_index, me_count, me_join, strLst_i, me_clear, me_rev, me_pop1, me_ins, true_and, isTys, isTy, tyN, Option.map_some, String.reduceBEq, Bool.or_false, Bool.false_or, Bool.or_true, Bool.true_or, Bool.and_false, Bool.and_true, Bool.false_and, Bool.true_and, Bool.not_true, Bool.not_false, List.getElem?_cons_zero, List.getElem?_cons_succ, List.set_cons_zero, List.set_cons_succ, List.map_cons, List.map_nil, List.replicate_succ, List.replicate_zero, List.cons_append, List.nil_append, Nat.sub_self]
  refine draw_ok hD (by omega) s2 (by omega) (by omega) (by omega) fun kind c3 a3 b3 s3 => ?_
  rw [List.set_set] at s3 ⊢
  obtain ⟨m, hm'⟩ : ∃ m : Nat, 1 + v2 = m := ⟨(1 + v2).toNat, by omega⟩
  rw [hm']
  simp only [ws_cons, ws_nil, ws_asg, ws_sub, ws_expr, ws_ret, ws_retn, ws_iff, ws_for, ws_raise, ws_pass, ws_brk, ws_cnt, ws_aug, we_slot, we_const, we_bin, we_neg, we_cmp, we_chain, we_and, we_or, we_not, we_ite, we_tup, we_lst, we_idx, we_slc, we_comp, we_call, we_bi, we_me, we_isi, we_nil, we_cons, wo_none, wo_some, wt_none, wt_some, wr_val, wr_rng1, wr_rng2, slotQ_val, slotQ_own, negQ_int, notQ_bl, blQ_bl, augQ_int, bc_t, bc_f, dr_d, dr_tmp, dr_brw, brwQ_own, brwQ_val, oq_some, dd_int, dd_str, dd_bl, dd_non, dd_tup, dd_lst, dd_scr, esc_d, esc_tf, esc_tt, escs_nil, escs_cons, drs_nil, drs_cons, asgR_d, asgR_t, asgT_n, outR_d, outR_t, op_add, op_addS, op_addT, op_addL, op_sub, op_mul, op_mulL, op_fdiv, op_mod, op_pow, cm_eq, cm_ne, eq_int, eq_str, eq_bl, eq_non, cm_lt, cm_le, cm_gt, cm_ge, cm_in, cm_notin, cm_is, cm_isnot, ix_lst, ix_scr, ix_tup, ix_str, at_0, at_1, at_2, at_3, sl_tup, sl_lst, sl_scr, bi_lenL, bi_lenR, bi_lenT, bi_lenS, bi_abs, bi_max, bi_min, bi_intI, bi_intB, bi_listL, bi_listT, bi_listR, bi_tupL, bi_tupT, bi_all, bi_any, bi_sum, bi_lenset, bi_repr, au_add, au_sub, ixL0, ixL1, ixL2, esc_b, escQ_f, escQ_t, escQ_v, outR_b, outQ_o, outQ_v, modL_b, modQ_o, vq_tmp, vq_tup, vq_lst, vq_scr, vq_str, vq_b, vQ_o, asgR_b, List.length_map, me_app, me_appB, mt_app, mt_pop0, mt_pop1, mt_ins, mt_clear, mt_rev, mt_join, ws_cell, cellQ_o, cellQ_v, mt_index, mt_count, me_index, me_count, me_join, strLst_i, me_clear, me_rev, me_pop1, me_ins, true_and, isTys, isTy, tyN, Option.map_some, String.reduceBEq, Bool.or_false, Bool.false_or, Bool.or_true, Bool.true_or, Bool.and_false, Bool.and_true, Bool.false_and, Bool.true_and, Bool.not_true, Bool.not_false, List.getElem?_cons_zero, List.getElem?_cons_succ, List.set_cons_zero, List.set_cons_succ, List.map_cons, List.map_nil, List.replicate_succ, List.replicate_zero, List.cons_append, List.nil_append, Nat.sub_self]
  refine draw_ok hD (by omega) s3 (by omega) (by omega) (by omega) fun alike c4 a4 b4 s4 => ?_
  rw [List.set_set] at s4 ⊢
  simp only [ws_cons, ws_nil, ws_asg, ws_sub, ws_expr, ws_ret, ws_retn, ws_iff, ws_for, ws_raise, ws_pass, ws_brk, ws_cnt, ws_aug, we_slot, we_const, we_bin, we_neg, we_cmp, we_chain, we_and, we_or, we_not, we_ite, we_tup, we_lst, we_idx, we_slc, we_comp, we_call, we_bi, we_me, we_isi, we_nil, we_cons, wo_none, wo_some, wt_none, wt_some, wr_val, wr_rng1, wr_rng2, slotQ_val, slotQ_own, negQ_int, notQ_bl, blQ_bl, augQ_int, bc_t, bc_f, dr_d, dr_tmp, dr_brw, brwQ_own, brwQ_val, oq_some, dd_int, dd_str, dd_bl, dd_non, dd_tup, dd_lst, dd_scr, esc_d, esc_tf, esc_tt, escs_nil, escs_cons, drs_nil, drs_cons, asgR_d, asgR_t, asgT_n, outR_d, outR_t, op_add, op_addS, op_addT, op_addL, op_sub, op_mul, op_mulL, op_fdiv, op_mod, op_pow, cm_eq, cm_ne, eq_int, eq_str, eq_bl, eq_non, cm_lt, cm_le, cm_gt, cm_ge, cm_in, cm_notin, cm_is, cm_isnot, ix_lst, ix_scr, ix_tup, ix_str, at_0, at_1, at_2, at_3, sl_tup, sl_lst, sl_scr, bi_lenL, bi_lenR, bi_lenT, bi_lenS, bi_abs, bi_max, bi_min, bi_intI, bi_intB, bi_listL, bi_listT, bi_listR, bi_tupL, bi_tupT, bi_all, bi_any, bi_sum, bi_lenset, bi_repr, au_add, au_sub, ixL0, ixL1, ixL2, esc_b, escQ_f, escQ_t, escQ_v, outR_b, outQ_o, outQ_v, modL_b, modQ_o, vq_tmp, vq_tup, vq_lst, vq_scr, vq_str, vq_b, vQ_o, asgR_b, List.length_map, me_app, me_appB, mt_app, mt_pop0, mt_pop1, mt_ins, mt_clear, mt_rev, mt_join, ws_cell, cellQ_o, cellQ_v, mt_index, mt_count, me_index, me_count, me_join, strLst_i, me_clear, me_rev, me_pop1, me_ins, true_and, isTys, isTy, tyN, Option.map_some, String.reduceBEq, Bool.or_false, Bool.false_or, Bool.or_true, Bool.true_or, Bool.and_false, Bool.and_true, Bool.false_and, Bool.true_and, Bool.not_true, Bool.not_false, List.getElem?_cons_zero, List.getElem?_cons_succ, List.set_cons_zero, List.set_cons_succ, List.map_cons, List.map_nil, List.replicate_succ, List.replicate_zero, List.cons_append, List.nil_append, Nat.sub_self]
  refine ⟨by show 0 ≤ sizeLine; decide, names_ok hD hN (by omega) s4 (by omega) (by omega) fun ns c5 n1 n2 n3 s5 => ?_⟩
  rw [List.set_set] at s5 ⊢
  simp only [ws_cons, ws_nil, ws_asg, ws_sub, ws_expr, ws_ret, ws_retn, ws_iff, ws_for, ws_raise, ws_pass, ws_brk, ws_cnt, ws_aug, we_slot, we_const, we_bin, we_neg, we_cmp, we_chain, we_and, we_or, we_not, we_ite, we_tup, we_lst, we_idx, we_slc, we_comp, we_call, we_bi, we_me, we_isi, we_nil, we_cons, wo_none, wo_some, wt_none, wt_some, wr_val, wr_rng1, wr_rng2, slotQ_val, slotQ_own, negQ_int, notQ_bl, blQ_bl, augQ_int, bc_t, bc_f, dr_d, dr_tmp, dr_brw, brwQ_own, brwQ_val, oq_some, dd_int, dd_str, dd_bl, dd_non, dd_tup, dd_lst, dd_scr, esc_d, esc_tf, esc_tt, escs_nil, escs_cons, drs_nil, drs_cons, asgR_d, asgR_t, asgT_n, outR_d, outR_t, op_add, op_addS, op_addT, op_addL, op_sub, op_mul, op_mulL, op_fdiv, op_mod, op_pow, cm_eq, cm_ne, eq_int, eq_str, eq_bl, eq_non, cm_lt, cm_le, cm_gt, cm_ge, cm_in, cm_notin, cm_is, cm_isnot, ix_lst, ix_scr, ix_tup, ix_str, at_0, at_1, at_2, at_3, sl_tup, sl_lst, sl_scr, bi_lenL, bi_lenR, bi_lenT, bi_lenS, bi_abs, bi_max, bi_min, bi_intI, bi_intB, bi_listL, bi_listT, bi_listR, bi_tupL, bi_tupT, bi_all, bi_any, bi_sum, bi_lenset, bi_repr, au_add, au_sub, ixL0, ixL1, ixL2, esc_b, escQ_f, escQ_t, escQ_v, outR_b, outQ_o, outQ_v, modL_b, modQ_o, vq_tmp, vq_tup, vq_lst, vq_scr, vq_str, vq_b, vQ_o, asgR_b, List.length_map, me_app, me_appB, mt_app, mt_pop0, mt_pop1, mt_ins, mt_clear, mt_rev, mt_join, ws_cell, cellQ_o, cellQ_v, mt_index, mt_count, me_index, me_count, me_join, strLst_i, me_clear, me_rev, me_pop1, me_ins, true_and, isTys, isTy, tyN, Option.map_some, String.reduceBEq, Bool.or_false, Bool.false_or, Bool.or_true, Bool.true_or, Bool.and_false, Bool.and_true, Bool.false_and, Bool.true_and, Bool.not_true, Bool.not_false, List.getElem?_cons_zero, List.getElem?_cons_succ, List.set_cons_zero, List.set_cons_succ, List.map_cons, List.map_nil, List.replicate_succ, List.replicate_zero, List.cons_append, List.nil_append, Nat.sub_self]
  have s5 := s5.mono (d := c + 404) (by omega)
  refine for_ind (fun xs env st' => ∃ (rest : List Str) (l : Deck) (cell : Cell) (z6 z7 z8 : Sl), xs = rest.map D.str ∧ l.map (·.1) ++ rest = ns ∧ (∀ p ∈ l, 0 ≤ p.2 ∧ p.2 < 10 ^ 30) ∧ Spr (c + 404 + 7 * l.length) r st' ∧ st' = st.set r cell ∧
      env = [.val (.ref r), .val (.int (most : Int)), .val (.int (m : Int)), .val (.int kind), .val (.int alike), .own (l.map cardD), z6, z7, z8]) ?_ ?_ _ _ _ ?_
  · rintro env st' ⟨rest, l, cell, z6, z7, z8, e1, e2, e3, e4, rfl, rfl⟩
    have e1 : rest = [] := by cases rest with
      | nil => rfl
      | cons => cases e1
    subst e1
    rw [List.append_nil] at e2
    have hl : l.length = m := by rw [← n1, ← e2, List.length_map]
    refine ⟨trivial, ?_⟩
    simp only [ws_cons, ws_nil, ws_asg, ws_sub, ws_expr, ws_ret, ws_retn, ws_iff, ws_for, ws_raise, ws_pass, ws_brk, ws_cnt, ws_aug, we_slot, we_const, we_bin, we_neg, we_cmp, we_chain, we_and, we_or, we_not, we_ite, we_tup, we_lst, we_idx, we_slc, we_comp, we_call, we_bi, we_me, we_isi, we_nil, we_cons, wo_none, wo_some, wt_none, wt_some, wr_val, wr_rng1, wr_rng2, slotQ_val, slotQ_own, negQ_int, notQ_bl, blQ_bl, augQ_int, bc_t, bc_f, dr_d, dr_tmp, dr_brw, brwQ_own, brwQ_val, oq_some, dd_int, dd_str, dd_bl, dd_non, dd_tup, dd_lst, dd_scr, esc_d, esc_tf, esc_tt, escs_nil, escs_cons, drs_nil, drs_cons, asgR_d, asgR_t, asgT_n, outR_d, outR_t, op_add, op_addS, op_addT, op_addL, op_sub, op_mul, op_mulL, op_fdiv, op_mod, op_pow, cm_eq, cm_ne, eq_int, eq_str, eq_bl, eq_non, cm_lt, cm_le, cm_gt, cm_ge, cm_in, cm_notin, cm_is, cm_isnot, ix_lst, ix_scr, ix_tup, ix_str, at_0, at_1, at_2, at_3, sl_tup, sl_lst, sl_scr, bi_lenL, bi_lenR, bi_lenT, bi_lenS, bi_abs, bi_max, bi_min, bi_intI, bi_intB, bi_listL, bi_listT, bi_listR, bi_tupL, bi_tupT, bi_all, bi_any, bi_sum, bi_lenset, bi_repr, au_add, au_sub, ixL0, ixL1, ixL2, esc_b, escQ_f, escQ_t, escQ_v, outR_b, outQ_o, outQ_v, modL_b, modQ_o, vq_tmp, vq_tup, vq_lst, vq_scr, vq_str, vq_b, vQ_o, asgR_b, List.length_map, me_app, me_appB, mt_app, mt_pop0, mt_pop1, mt_ins, mt_clear, mt_rev, mt_join, ws_cell, cellQ_o, cellQ_v, mt_index, mt_count, me_index, me_count, me_join, strLst_i, me_clear, me_rev, me_pop1, me_ins, true_and, isTys, isTy, tyN, Option.map_some, String.reduceBEq, Bool.or_false, Bool.false_or, Bool.or_true, Bool.true_or, Bool.and_false, Bool.and_true, Bool.false_and, Bool.true_and, Bool.not_true, Bool.not_false, List.getElem?_cons_zero, List.getElem?_cons_succ, List.set_cons_zero, List.set_cons_succ, List.map_cons, List.map_nil, List.replicate_succ, List.replicate_zero, List.cons_append, List.nil_append, Nat.sub_self]
    refine kk l cell ⟨by omega, by omega, fun p hp => n2 _ (by rw [← e2]; exact List.mem_map_of_mem hp), by rw [e2]; exact n3, e3⟩ (by omega) (e4.mono (by omega))
  · rintro x xs ih env st' ⟨rest, l, cell, z6, z7, z8, e1, e2, e3, e4, rfl, rfl⟩
    cases rest with
    | nil => cases e1
    | cons n rest =>
      rw [List.map_cons] at e1
      obtain ⟨rfl, rfl⟩ := List.cons.inj e1
      have hl : l.length + (rest.length + 1) = m := by rw [← n1, ← e2]; simp
      refine ⟨trivial, ?_⟩
      simp only [ws_cons, ws_nil, ws_asg, ws_sub, ws_expr, ws_ret, ws_retn, ws_iff, ws_for, ws_raise, ws_pass, ws_brk, ws_cnt, ws_aug, we_slot, we_const, we_bin, we_neg, we_cmp, we_chain, we_and, we_or, we_not, we_ite, we_tup, we_lst, we_idx, we_slc, we_comp, we_call, we_bi, we_me, we_isi, we_nil, we_cons, wo_none, wo_some, wt_none, wt_some, wr_val, wr_rng1, wr_rng2, slotQ_val, slotQ_own, negQ_int, notQ_bl, blQ_bl, augQ_int, bc_t, bc_f, dr_d, dr_tmp, dr_brw, brwQ_own, brwQ_val, oq_some, dd_int, dd_str, dd_bl, dd_non, dd_tup, dd_lst, dd_scr, esc_d, esc_tf, esc_tt, escs_nil, escs_cons, drs_nil, drs_cons, asgR_d, asgR_t, asgT_n, outR_d, outR_t, op_add, op_addS, op_addT, op_addL, op_sub, op_mul, op_mulL, op_fdiv, op_mod, op_pow, cm_eq, cm_ne, eq_int, eq_str, eq_bl, eq_non, cm_lt, cm_le, cm_gt, cm_ge, cm_in, cm_notin, cm_is, cm_isnot, ix_lst, ix_scr, ix_tup, ix_str, at_0, at_1, at_2, at_3, sl_tup, sl_lst, sl_scr, bi_lenL, bi_lenR, bi_lenT, bi_lenS, bi_abs, bi_max, bi_min, bi_intI, bi_intB, bi_listL, bi_listT, bi_listR, bi_tupL, bi_tupT, bi_all, bi_any, bi_sum, bi_lenset, bi_repr, au_add, au_sub, ixL0, ixL1, ixL2, esc_b, escQ_f, escQ_t, escQ_v, outR_b, outQ_o, outQ_v, modL_b, modQ_o, vq_tmp, vq_tup, vq_lst, vq_scr, vq_str, vq_b, vQ_o, asgR_b, List.length_map, me_app, me_appB, mt_app, mt_pop0, mt_pop1, mt_ins, mt_clear, mt_rev, mt_join, ws_cell, cellQ_o, cellQ_v, mt_index, mt_count, me_index, me_count, me_join, strLst_i, me_clear, me_rev, me_pop1, me_ins, true_and, isTys, isTy, tyN, Option.map_some, String.reduceBEq, Bool.or_false, Bool.false_or, Bool.or_true, Bool.true_or, Bool.and_false, Bool.and_true, Bool.false_and, Bool.true_and, Bool.not_true, Bool.not_false, List.getElem?_cons_zero, List.getElem?_cons_succ, List.set_cons_zero, List.set_cons_succ, List.map_cons, List.map_nil, List.replicate_succ, List.replicate_zero, List.cons_append, List.nil_append, Nat.sub_self]
      refine draw_ok hD (by omega) e4 (by omega) (by omega) (by omega) fun d0 q0 x0 y0 t0 => ?_
      rw [List.set_set] at t0 ⊢
      simp only [ws_cons, ws_nil, ws_asg, ws_sub, ws_expr, ws_ret, ws_retn, ws_iff, ws_for, ws_raise, ws_pass, ws_brk, ws_cnt, ws_aug, we_slot, we_const, we_bin, we_neg, we_cmp, we_chain, we_and, we_or, we_not, we_ite, we_tup, we_lst, we_idx, we_slc, we_comp, we_call, we_bi, we_me, we_isi, we_nil, we_cons, wo_none, wo_some, wt_none, wt_some, wr_val, wr_rng1, wr_rng2, slotQ_val, slotQ_own, negQ_int, notQ_bl, blQ_bl, augQ_int, bc_t, bc_f, dr_d, dr_tmp, dr_brw, brwQ_own, brwQ_val, oq_some, dd_int, dd_str, dd_bl, dd_non, dd_tup, dd_lst, dd_scr, esc_d, esc_tf, esc_tt, escs_nil, escs_cons, drs_nil, drs_cons, asgR_d, asgR_t, asgT_n, outR_d, outR_t, op_add, op_addS, op_addT, op_addL, op_sub, op_mul, op_mulL, op_fdiv, op_mod, op_pow, cm_eq, cm_ne, eq_int, eq_str, eq_bl, eq_non, cm_lt, cm_le, cm_gt, cm_ge, cm_in, cm_notin, cm_is, cm_isnot, ix_lst, ix_scr, ix_tup, ix_str, at_0, at_1, at_2, at_3, sl_tup, sl_lst, sl_scr, bi_lenL, bi_lenR, bi_lenT, bi_lenS, bi_abs, bi_max, bi_min, bi_intI, bi_intB, bi_listL, bi_listT, bi_listR, bi_tupL, bi_tupT, bi_all, bi_any, bi_sum, bi_lenset, bi_repr, au_add, au_sub, ixL0, ixL1, ixL2, esc_b, escQ_f, escQ_t, escQ_v, outR_b, outQ_o, outQ_v, modL_b, modQ_o, vq_tmp, vq_tup, vq_lst, vq_scr, vq_str, vq_b, vQ_o, asgR_b, List.length_map, me_app, me_appB, mt_app, mt_pop0, mt_pop1, mt_ins, mt_clear, mt_rev, mt_join, ws_cell, cellQ_o, cellQ_v, mt_index, mt_count, me_index, me_count, me_join, strLst_i, me_clear, me_rev, me_pop1, me_ins, true_and, isTys, isTy, tyN, Option.map_some, String.reduceBEq, Bool.or_false, Bool.false_or, Bool.or_true, Bool.true_or, Bool.and_false, Bool.and_true, Bool.false_and, Bool.true_and, Bool.not_true, Bool.not_false, List.getElem?_cons_zero, List.getElem?_cons_succ, List.set_cons_zero, List.set_cons_succ, List.map_cons, List.map_nil, List.replicate_succ, List.replicate_zero, List.cons_append, List.nil_append, Nat.sub_self]
      refine draw_ok hD (by omega) t0 (by omega) (by omega) (by omega) fun d1 q1 x1 y1 t1 => ?_
      rw [List.set_set] at t1 ⊢
      simp only [ws_cons, ws_nil, ws_asg, ws_sub, ws_expr, ws_ret, ws_retn, ws_iff, ws_for, ws_raise, ws_pass, ws_brk, ws_cnt, ws_aug, we_slot, we_const, we_bin, we_neg, we_cmp, we_chain, we_and, we_or, we_not, we_ite, we_tup, we_lst, we_idx, we_slc, we_comp, we_call, we_bi, we_me, we_isi, we_nil, we_cons, wo_none, wo_some, wt_none, wt_some, wr_val, wr_rng1, wr_rng2, slotQ_val, slotQ_own, negQ_int, notQ_bl, blQ_bl, augQ_int, bc_t, bc_f, dr_d, dr_tmp, dr_brw, brwQ_own, brwQ_val, oq_some, dd_int, dd_str, dd_bl, dd_non, dd_tup, dd_lst, dd_scr, esc_d, esc_tf, esc_tt, escs_nil, escs_cons, drs_nil, drs_cons, asgR_d, asgR_t, asgT_n, outR_d, outR_t, op_add, op_addS, op_addT, op_addL, op_sub, op_mul, op_mulL, op_fdiv, op_mod, op_pow, cm_eq, cm_ne, eq_int, eq_str, eq_bl, eq_non, cm_lt, cm_le, cm_gt, cm_ge, cm_in, cm_notin, cm_is, cm_isnot, ix_lst, ix_scr, ix_tup, ix_str, at_0, at_1, at_2, at_3, sl_tup, sl_lst, sl_scr, bi_lenL, bi_lenR, bi_lenT, bi_lenS, bi_abs, bi_max, bi_min, bi_intI, bi_intB, bi_listL, bi_listT, bi_listR, bi_tupL, bi_tupT, bi_all, bi_any, bi_sum, bi_lenset, bi_repr, au_add, au_sub, ixL0, ixL1, ixL2, esc_b, escQ_f, escQ_t, escQ_v, outR_b, outQ_o, outQ_v, modL_b, modQ_o, vq_tmp, vq_tup, vq_lst, vq_scr, vq_str, vq_b, vQ_o, asgR_b, List.length_map, me_app, me_appB, mt_app, mt_pop0, mt_pop1, mt_ins, mt_clear, mt_rev, mt_join, ws_cell, cellQ_o, cellQ_v, mt_index, mt_count, me_index, me_count, me_join, strLst_i, me_clear, me_rev, me_pop1, me_ins, true_and, isTys, isTy, tyN, Option.map_some, String.reduceBEq, Bool.or_false, Bool.false_or, Bool.or_true, Bool.true_or, Bool.and_false, Bool.and_true, Bool.false_and, Bool.true_and, Bool.not_true, Bool.not_false, List.getElem?_cons_zero, List.getElem?_cons_succ, List.set_cons_zero, List.set_cons_succ, List.map_cons, List.map_nil, List.replicate_succ, List.replicate_zero, List.cons_append, List.nil_append, Nat.sub_self]
      refine draw_ok hD (by omega) t1 (by omega) (by omega) (by omega) fun d2 q2 x2 y2 t2 => ?_
      rw [List.set_set] at t2 ⊢
      simp only [ws_cons, ws_nil, ws_asg, ws_sub, ws_expr, ws_ret, ws_retn, ws_iff, ws_for, ws_raise, ws_pass, ws_brk, ws_cnt, ws_aug, we_slot, we_const, we_bin, we_neg, we_cmp, we_chain, we_and, we_or, we_not, we_ite, we_tup, we_lst, we_idx, we_slc, we_comp, we_call, we_bi, we_me, we_isi, we_nil, we_cons, wo_none, wo_some, wt_none, wt_some, wr_val, wr_rng1, wr_rng2, slotQ_val, slotQ_own, negQ_int, notQ_bl, blQ_bl, augQ_int, bc_t, bc_f, dr_d, dr_tmp, dr_brw, brwQ_own, brwQ_val, oq_some, dd_int, dd_str, dd_bl, dd_non, dd_tup, dd_lst, dd_scr, esc_d, esc_tf, esc_tt, escs_nil, escs_cons, drs_nil, drs_cons, asgR_d, asgR_t, asgT_n, outR_d, outR_t, op_add, op_addS, op_addT, op_addL, op_sub, op_mul, op_mulL, op_fdiv, op_mod, op_pow, cm_eq, cm_ne, eq_int, eq_str, eq_bl, eq_non, cm_lt, cm_le, cm_gt, cm_ge, cm_in, cm_notin, cm_is, cm_isnot, ix_lst, ix_scr, ix_tup, ix_str, at_0, at_1, at_2, at_3, sl_tup, sl_lst, sl_scr, bi_lenL, bi_lenR, bi_lenT, bi_lenS, bi_abs, bi_max, bi_min, bi_intI, bi_intB, bi_listL, bi_listT, bi_listR, bi_tupL, bi_tupT, bi_all, bi_any, bi_sum, bi_lenset, bi_repr, au_add, au_sub, ixL0, ixL1, ixL2, esc_b, escQ_f, escQ_t, escQ_v, outR_b, outQ_o, outQ_v, modL_b, modQ_o, vq_tmp, vq_tup, vq_lst, vq_scr, vq_str, vq_b, vQ_o, asgR_b, List.length_map, me_app, me_appB, mt_app, mt_pop0, mt_pop1, mt_ins, mt_clear, mt_rev, mt_join, ws_cell, cellQ_o, cellQ_v, mt_index, mt_count, me_index, me_count, me_join, strLst_i, me_clear, me_rev, me_pop1, me_ins, true_and, isTys, isTy, tyN, Option.map_some, String.reduceBEq, Bool.or_false, Bool.false_or, Bool.or_true, Bool.true_or, Bool.and_false, Bool.and_true, Bool.false_and, Bool.true_and, Bool.not_true, Bool.not_false, List.getElem?_cons_zero, List.getElem?_cons_succ, List.set_cons_zero, List.set_cons_succ, List.map_cons, List.map_nil, List.replicate_succ, List.replicate_zero, List.cons_append, List.nil_append, Nat.sub_self]
      refine ⟨by show 4 ≤ sizeLine; decide, ?_⟩
      refine draw_ok hD (by omega) t2 (by omega) (by omega) (by omega) fun d3 q3 x3 y3 t3 => ?_
      rw [List.set_set] at t3 ⊢
      simp only [ws_cons, ws_nil, ws_asg, ws_sub, ws_expr, ws_ret, ws_retn, ws_iff, ws_for, ws_raise, ws_pass, ws_brk, ws_cnt, ws_aug, we_slot, we_const, we_bin, we_neg, we_cmp, we_chain, we_and, we_or, we_not, we_ite, we_tup, we_lst, we_idx, we_slc, we_comp, we_call, we_bi, we_me, we_isi, we_nil, we_cons, wo_none, wo_some, wt_none, wt_some, wr_val, wr_rng1, wr_rng2, slotQ_val, slotQ_own, negQ_int, notQ_bl, blQ_bl, augQ_int, bc_t, bc_f, dr_d, dr_tmp, dr_brw, brwQ_own, brwQ_val, oq_some, dd_int, dd_str, dd_bl, dd_non, dd_tup, dd_lst, dd_scr, esc_d, esc_tf, esc_tt, escs_nil, escs_cons, drs_nil, drs_cons, asgR_d, asgR_t, asgT_n, outR_d, outR_t, op_add, op_addS, op_addT, op_addL, op_sub, op_mul, op_mulL, op_fdiv, op_mod, op_pow, cm_eq, cm_ne, eq_int, eq_str, eq_bl, eq_non, cm_lt, cm_le, cm_gt, cm_ge, cm_in, cm_notin, cm_is, cm_isnot, ix_lst, ix_scr, ix_tup, ix_str, at_0, at_1, at_2, at_3, sl_tup, sl_lst, sl_scr, bi_lenL, bi_lenR, bi_lenT, bi_lenS, bi_abs, bi_max, bi_min, bi_intI, bi_intB, bi_listL, bi_listT, bi_listR, bi_tupL, bi_tupT, bi_all, bi_any, bi_sum, bi_lenset, bi_repr, au_add, au_sub, ixL0, ixL1, ixL2, esc_b, escQ_f, escQ_t, escQ_v, outR_b, outQ_o, outQ_v, modL_b, modQ_o, vq_tmp, vq_tup, vq_lst, vq_scr, vq_str, vq_b, vQ_o, asgR_b, List.length_map, me_app, me_appB, mt_app, mt_pop0, mt_pop1, mt_ins, mt_clear, mt_rev, mt_join, ws_cell, cellQ_o, cellQ_v, mt_index, mt_count, me_index, me_count, me_join, strLst_i, me_clear, me_rev, me_pop1, me_ins, true_and, isTys, isTy, tyN, Option.map_some, String.reduceBEq, Bool.or_false, Bool.false_or, Bool.or_true, Bool.true_or, Bool.and_false, Bool.and_true, Bool.false_and, Bool.true_and, Bool.not_true, Bool.not_false, List.getElem?_cons_zero, List.getElem?_cons_succ, List.set_cons_zero, List.set_cons_succ, List.map_cons, List.map_nil, List.replicate_succ, List.replicate_zero, List.cons_append, List.nil_append, Nat.sub_self]
      refine ⟨⟨by decide, by decide, by decide⟩, ?_⟩
      refine draw_ok hD (by omega) t3 (by omega) (by omega) (by omega) fun d4 q4 x4 y4 t4 => ?_
      rw [List.set_set] at t4 ⊢
      simp only [ws_cons, ws_nil, ws_asg, ws_sub, ws_expr, ws_ret, ws_retn, ws_iff, ws_for, ws_raise, ws_pass, ws_brk, ws_cnt, ws_aug, we_slot, we_const, we_bin, we_neg, we_cmp, we_chain, we_and, we_or, we_not, we_ite, we_tup, we_lst, we_idx, we_slc, we_comp, we_call, we_bi, we_me, we_isi, we_nil, we_cons, wo_none, wo_some, wt_none, wt_some, wr_val, wr_rng1, wr_rng2, slotQ_val, slotQ_own, negQ_int, notQ_bl, blQ_bl, augQ_int, bc_t, bc_f, dr_d, dr_tmp, dr_brw, brwQ_own, brwQ_val, oq_some, dd_int, dd_str, dd_bl, dd_non, dd_tup, dd_lst, dd_scr, esc_d, esc_tf, esc_tt, escs_nil, escs_cons, drs_nil, drs_cons, asgR_d, asgR_t, asgT_n, outR_d, outR_t, op_add, op_addS, op_addT, op_addL, op_sub, op_mul, op_mulL, op_fdiv, op_mod, op_pow, cm_eq, cm_ne, eq_int, eq_str, eq_bl, eq_non, cm_lt, cm_le, cm_gt, cm_ge, cm_in, cm_notin, cm_is, cm_isnot, ix_lst, ix_scr, ix_tup, ix_str, at_0, at_1, at_2, at_3, sl_tup, sl_lst, sl_scr, bi_lenL, bi_lenR, bi_lenT, bi_lenS, bi_abs, bi_max, bi_min, bi_intI, bi_intB, bi_listL, bi_listT, bi_listR, bi_tupL, bi_tupT, bi_all, bi_any, bi_sum, bi_lenset, bi_repr, au_add, au_sub, ixL0, ixL1, ixL2, esc_b, escQ_f, escQ_t, escQ_v, outR_b, outQ_o, outQ_v, modL_b, modQ_o, vq_tmp, vq_tup, vq_lst, vq_scr, vq_str, vq_b, vQ_o, asgR_b, List.length_map, me_app, me_appB, mt_app, mt_pop0, mt_pop1, mt_ins, mt_clear, mt_rev, mt_join, ws_cell, cellQ_o, cellQ_v, mt_index, mt_count, me_index, me_count, me_join, strLst_i, me_clear, me_rev, me_pop1, me_ins, true_and, isTys, isTy, tyN, Option.map_some, String.reduceBEq, Bool.or_false, Bool.false_or, Bool.or_true, Bool.true_or, Bool.and_false, Bool.and_true, Bool.false_and, Bool.true_and, Bool.not_true, Bool.not_false, List.getElem?_cons_zero, List.getElem?_cons_succ, List.set_cons_zero, List.set_cons_succ, List.map_cons, List.map_nil, List.replicate_succ, List.replicate_zero, List.cons_append, List.nil_append, Nat.sub_self]
      refine ⟨by show 3 ≤ sizeLine; decide, by show 4 + 3 ≤ sizeLine; decide, ?_⟩
      refine draw_ok hD (by omega) t4 (by omega) (by omega) (by omega) fun d5 q5 x5 y5 t5 => ?_
      rw [List.set_set] at t5 ⊢
      simp only [ws_cons, ws_nil, ws_asg, ws_sub, ws_expr, ws_ret, ws_retn, ws_iff, ws_for, ws_raise, ws_pass, ws_brk, ws_cnt, ws_aug, we_slot, we_const, we_bin, we_neg, we_cmp, we_chain, we_and, we_or, we_not, we_ite, we_tup, we_lst, we_idx, we_slc, we_comp, we_call, we_bi, we_me, we_isi, we_nil, we_cons, wo_none, wo_some, wt_none, wt_some, wr_val, wr_rng1, wr_rng2, slotQ_val, slotQ_own, negQ_int, notQ_bl, blQ_bl, augQ_int, bc_t, bc_f, dr_d, dr_tmp, dr_brw, brwQ_own, brwQ_val, oq_some, dd_int, dd_str, dd_bl, dd_non, dd_tup, dd_lst, dd_scr, esc_d, esc_tf, esc_tt, escs_nil, escs_cons, drs_nil, drs_cons, asgR_d, asgR_t, asgT_n, outR_d, outR_t, op_add, op_addS, op_addT, op_addL, op_sub, op_mul, op_mulL, op_fdiv, op_mod, op_pow, cm_eq, cm_ne, eq_int, eq_str, eq_bl, eq_non, cm_lt, cm_le, cm_gt, cm_ge, cm_in, cm_notin, cm_is, cm_isnot, ix_lst, ix_scr, ix_tup, ix_str, at_0, at_1, at_2, at_3, sl_tup, sl_lst, sl_scr, bi_lenL, bi_lenR, bi_lenT, bi_lenS, bi_abs, bi_max, bi_min, bi_intI, bi_intB, bi_listL, bi_listT, bi_listR, bi_tupL, bi_tupT, bi_all, bi_any, bi_sum, bi_lenset, bi_repr, au_add, au_sub, ixL0, ixL1, ixL2, esc_b, escQ_f, escQ_t, escQ_v, outR_b, outQ_o, outQ_v, modL_b, modQ_o, vq_tmp, vq_tup, vq_lst, vq_scr, vq_str, vq_b, vQ_o, asgR_b, List.length_map, me_app, me_appB, mt_app, mt_pop0, mt_pop1, mt_ins, mt_clear, mt_rev, mt_join, ws_cell, cellQ_o, cellQ_v, mt_index, mt_count, me_index, me_count, me_join, strLst_i, me_clear, me_rev, me_pop1, me_ins, true_and, isTys, isTy, tyN, Option.map_some, String.reduceBEq, Bool.or_false, Bool.false_or, Bool.or_true, Bool.true_or, Bool.and_false, Bool.and_true, Bool.false_and, Bool.true_and, Bool.not_true, Bool.not_false, List.getElem?_cons_zero, List.getElem?_cons_succ, List.set_cons_zero, List.set_cons_succ, List.map_cons, List.map_nil, List.replicate_succ, List.replicate_zero, List.cons_append, List.nil_append, Nat.sub_self]
      refine ⟨by show 2 ≤ sizeLine; decide, ?_⟩
      refine draw_ok hD (by omega) t5 (by omega) (by omega) (by omega) fun d6 q6 x6 y6 t6 => ?_
      rw [List.set_set] at t6 ⊢
      have hI : ∃ I : Int, L2.atI [D.int kind, D.int d5] (if decide (d6 = 0) = true then 1 else 0) = some (.int I) ∧ 0 ≤ I ∧ I < 7 := by
        by_cases e : d6 = 0
        · rw [if_pos (decide_eq_true e)]
          exact ⟨_, at_1, x5, y5⟩
        · rw [if_neg (by simp [e])]
          exact ⟨_, at_0, a3, b3⟩
      obtain ⟨I, hI, I0, I1⟩ := hI
      have p30 : (10 : Int) ^ (30 : Int).toNat = 1000000000000000000000000000000 := by decide
      have hV : ∃ V : Int, L2.atI [D.int d0, D.int d1, D.int (max 0 (↑(List.length l) + d2 - 3)), D.int alike, D.int (↑m + d3), D.int (10 ^ (30 : Int).toNat - 1 - d4), D.int (↑m - 1 - ↑(List.length l))] I = some (.int V) ∧ 0 ≤ V ∧ V < 10 ^ 30 := by
        have e30 : (10 : Int) ^ 30 = 1000000000000000000000000000000 := by decide
        have : I = 0 ∨ I = 1 ∨ I = 2 ∨ I = 3 ∨ I = 4 ∨ I = 5 ∨ I = 6 := by omega
        rw [p30, e30]
        rcases this with rfl | rfl | rfl | rfl | rfl | rfl | rfl
        · exact ⟨_, at_0, by omega, by omega⟩
        · exact ⟨_, at_1, by omega, by omega⟩
        · exact ⟨_, at_2, by omega, by omega⟩
        · exact ⟨_, at_3, by omega, by omega⟩
        · exact ⟨_, L2.atI_nat (j := 4) rfl, by omega, by omega⟩
        · exact ⟨_, L2.atI_nat (j := 5) rfl, by omega, by omega⟩
        · exact ⟨_, L2.atI_nat (j := 6) rfl, by omega, by omega⟩
      obtain ⟨V, hV, V0, V1⟩ := hV
      simp only [ws_cons, ws_nil, ws_asg, ws_sub, ws_expr, ws_ret, ws_retn, ws_iff, ws_for, ws_raise, ws_pass, ws_brk, ws_cnt, ws_aug, we_slot, we_const, we_bin, we_neg, we_cmp, we_chain, we_and, we_or, we_not, we_ite, we_tup, we_lst, we_idx, we_slc, we_comp, we_call, we_bi, we_me, we_isi, we_nil, we_cons, wo_none, wo_some, wt_none, wt_some, wr_val, wr_rng1, wr_rng2, slotQ_val, slotQ_own, negQ_int, notQ_bl, blQ_bl, augQ_int, bc_t, bc_f, dr_d, dr_tmp, dr_brw, brwQ_own, brwQ_val, oq_some, dd_int, dd_str, dd_bl, dd_non, dd_tup, dd_lst, dd_scr, esc_d, esc_tf, esc_tt, escs_nil, escs_cons, drs_nil, drs_cons, asgR_d, asgR_t, asgT_n, outR_d, outR_t, op_add, op_addS, op_addT, op_addL, op_sub, op_mul, op_mulL, op_fdiv, op_mod, op_pow, cm_eq, cm_ne, eq_int, eq_str, eq_bl, eq_non, cm_lt, cm_le, cm_gt, cm_ge, cm_in, cm_notin, cm_is, cm_isnot, ix_lst, ix_scr, ix_tup, ix_str, at_0, at_1, at_2, at_3, sl_tup, sl_lst, sl_scr, bi_lenL, bi_lenR, bi_lenT, bi_lenS, bi_abs, bi_max, bi_min, bi_intI, bi_intB, bi_listL, bi_listT, bi_listR, bi_tupL, bi_tupT, bi_all, bi_any, bi_sum, bi_lenset, bi_repr, au_add, au_sub, ixL0, ixL1, ixL2, esc_b, escQ_f, escQ_t, escQ_v, outR_b, outQ_o, outQ_v, modL_b, modQ_o, vq_tmp, vq_tup, vq_lst, vq_scr, vq_str, vq_b, vQ_o, asgR_b, List.length_map, me_app, me_appB, mt_app, mt_pop0, mt_pop1, mt_ins, mt_clear, mt_rev, mt_join, ws_cell, cellQ_o, cellQ_v, mt_index, mt_count, me_index, me_count, me_join, strLst_i, me_clear, me_rev, me_pop1, me_ins, true_and, isTys, isTy, tyN, Option.map_some, String.reduceBEq, Bool.or_false, Bool.false_or, Bool.or_true, Bool.true_or, Bool.and_false, Bool.and_true, Bool.false_and, Bool.true_and, Bool.not_true, Bool.not_false, List.getElem?_cons_zero, List.getElem?_cons_succ, List.set_cons_zero, List.set_cons_succ, List.map_cons, List.map_nil, List.replicate_succ, List.replicate_zero, List.cons_append, List.nil_append, Nat.sub_self, hI, hV]
      refine ⟨by show 2 ≤ sizeLine; decide, by rw [sizeLine_eq]; omega, ih _ _ ⟨rest, l ++ [(n, V)], q6, _, _, _, rfl, by rw [List.map_append, List.append_assoc]; exact e2, fun p hp => ?_, t6.mono (by rw [List.length_append]; simp; omega), rfl, by rw [List.map_append]; rfl⟩⟩
      rcases List.mem_append.mp hp with hp | hp
      · exact e3 p hp
      · rw [List.mem_singleton.mp hp]
        exact ⟨V0, V1⟩
  · exact ⟨ns, [], c5, .no, .no, .no, rfl, rfl, by simp, s5, rfl, rfl⟩
end LW
set_option maxHeartbeats 4000000
namespace LW
open PySem PI

/-! ### rows handed in: tuples, lists, lists in cells -/
def seqOf (st : PSto) (x : D) : Option (List D) := match derefD st x with
  | some (.tup ds) => some ds
  | some (.lst ds) => some ds
  | _ => none
theorem seq_cases {st : PSto} {x : D} {ds : List D} (h : seqOf st x = some ds) : derefD st x = some (.tup ds) ∨ derefD st x = some (.lst ds) := by
  unfold seqOf at h
  split at h
  · cases h; exact .inl (by assumption)
  · cases h; exact .inr (by assumption)
  · cases h
theorem vq_seq {st : PSto} {env : PEnv} {x : D} {ds : List D} {Q : QS} (h : seqOf st x = some ds) (q : ∀ chk : PSto → Prop, chk st → Q ds chk env st) : valQ (.d x) env st Q := by
  have hd := seq_cases h
  cases x with
  | tup es =>
    rcases hd with hd | hd <;> cases hd
    exact q _ trivial
  | lst es =>
    rcases hd with hd | hd <;> cases hd
    exact q _ trivial
  | ref r =>
    have hr : st[r]? = some (.lst ds) := by
      unfold derefD refD at hd
      cases e : st[r]? with
      | none => simp [e] at hd
      | some c =>
        cases c with
        | lst es => simp [e] at hd; rw [hd]
        | ins c fs => simp [e] at hd
    rw [vq_ref hr]
    exact q _ ⟨ds, hr, rfl⟩
  | _ => rcases hd with hd | hd <;> cases hd
/-- a card: a name and a depth -/
def CardR (st : PSto) (x : D) (p : Str × Int) : Prop := seqOf st x = some [.str p.1, .int p.2]
structure DeckR (st : PSto) (x : D) (l : Deck) : Prop where
  ex : ∃ es, seqOf st x = some es ∧ Paired (CardR st) es l
theorem paired_map {α β : Type} {F : α → β → Prop} {f : β → α} : ∀ {l : List β}, (∀ x ∈ l, F (f x) x) → Paired F (l.map f) l
  | [], _ => .nil
  | x :: l, h => .cons (h x List.mem_cons_self) (paired_map fun y hy => h y (List.mem_cons_of_mem _ hy))
theorem deckR_deckD (st : PSto) (l : Deck) : DeckR st (deckD l) l := ⟨_, rfl, paired_map fun _ _ => rfl⟩
theorem paired_mem {α β : Type} {F : α → β → Prop} : ∀ {xs : List α} {ys : List β}, Paired F xs ys → ∀ x ∈ xs, ∃ y ∈ ys, F x y
  | _ :: _, _ :: _, .cons h t, x, hx => by
    cases hx with
    | head => exact ⟨_, List.mem_cons_self, h⟩
    | tail _ hx =>
      obtain ⟨y, hy, h⟩ := paired_mem t x hx
      exact ⟨y, List.mem_cons_of_mem _ hy, h⟩
/-- what a pairing tells, as a map -/
theorem paired_eq {α β γ : Type} {F : α → β → Prop} {g : α → γ} {f : β → γ} (h : ∀ x y, F x y → g x = f y) : ∀ {xs : List α} {ys : List β}, Paired F xs ys → xs.map g = ys.map f
  | _, _, .nil => rfl
  | _, _, .cons a t => by rw [List.map_cons, List.map_cons, h _ _ a, paired_eq h t]

variable {T : Tab} {k : Nat} {st : PSto} {Q : R → PSto → Prop} {E : Exn → PSto → Prop}
theorem is_row_ok (hT : T.fn "is_row" = some d_is_row) (hk : 1 ≤ k) {x : D} {ds : List D} {n : Int} (h : seqOf st x = some ds) (q : Q (.d (.bl (decide ((ds.length : Int) = n)))) st) : wpC T k "is_row" [x, .int n] st Q E := by
  obtain ⟨k, rfl⟩ : ∃ j, k = j + 1 := ⟨k - 1, by omega⟩
  refine wpC_of hT rfl ?_
  rcases seq_cases h with hd | hd <;> (simp only [d_is_row, ws_cons, ws_nil, ws_asg, ws_sub, ws_expr, ws_ret, ws_retn, ws_iff, ws_for, ws_raise, ws_pass, ws_brk, ws_cnt, ws_aug, we_slot, we_const, we_bin, we_neg, we_cmp, we_chain, we_and, we_or, we_not, we_ite, we_tup, we_lst, we_idx, we_slc, we_comp, we_call, we_bi, we_me, we_isi, we_nil, we_cons, wo_none, wo_some, wt_none, wt_some, wr_val, wr_rng1, wr_rng2, slotQ_val, slotQ_own, negQ_int, notQ_bl, blQ_bl, augQ_int, bc_t, bc_f, dr_d, dr_tmp, dr_brw, brwQ_own, brwQ_val, oq_some, dd_int, dd_str, dd_bl, dd_non, dd_tup, dd_lst, dd_scr, esc_d, esc_tf, esc_tt, escs_nil, escs_cons, drs_nil, drs_cons, asgR_d, asgR_t, asgT_n, outR_d, outR_t, op_add, op_addS, op_addT, op_addL, op_sub, op_mul, op_mulL, op_fdiv, op_mod, op_pow, cm_eq, cm_ne, eq_int, eq_str, eq_bl, eq_non, cm_lt, cm_le, cm_gt, cm_ge, cm_in, cm_notin, cm_is, cm_isnot, ix_lst, ix_scr, ix_tup, ix_str, at_0, at_1, at_2, at_3, sl_tup, sl_lst, sl_scr, bi_lenL, bi_lenR, bi_lenT, bi_lenS, bi_abs, bi_max, bi_min, bi_intI, bi_intB, bi_listL, bi_listT, bi_listR, bi_tupL, bi_tupT, bi_all, bi_any, bi_sum, bi_lenset, bi_repr, au_add, au_sub, ixL0, ixL1, ixL2, esc_b, escQ_f, escQ_t, escQ_v, outR_b, outQ_o, outQ_v, modL_b, modQ_o, vq_tmp, vq_tup, vq_lst, vq_scr, vq_str, vq_b, vQ_o, asgR_b, List.length_map, me_app, me_appB, mt_app, mt_pop0, mt_pop1, mt_ins, mt_clear, mt_rev, mt_join, ws_cell, cellQ_o, cellQ_v, mt_index, mt_count, me_index, me_count, me_join, strLst_i, me_clear, me_rev, me_pop1, me_ins, true_and, isTys, isTy, tyN, Option.map_some, String.reduceBEq, Bool.or_false, Bool.false_or, Bool.or_true, Bool.true_or, Bool.and_false, Bool.and_true, Bool.false_and, Bool.true_and, Bool.not_true, Bool.not_false, List.getElem?_cons_zero, List.getElem?_cons_succ, List.set_cons_zero, List.set_cons_succ, List.map_cons, List.map_nil, List.replicate_succ, List.replicate_zero, List.cons_append, List.nil_append, Nat.sub_self, hd]; exact q)
theorem is_whole_ok (hT : T.fn "is_whole" = some d_is_whole) (hk : 1 ≤ k) {n : Int} (q : Q (.d (.bl (decide (0 ≤ n)))) st) : wpC T k "is_whole" [.int n] st Q E := by
  obtain ⟨k, rfl⟩ : ∃ j, k = j + 1 := ⟨k - 1, by omega⟩
  refine wpC_of hT rfl ?_
  simp only [d_is_whole, ws_cons, ws_nil, ws_asg, ws_sub, ws_expr, ws_ret, ws_retn, ws_iff, ws_for, ws_raise, ws_pass, ws_brk, ws_cnt, ws_aug, we_slot, we_const, we_bin, we_neg, we_cmp, we_chain, we_and, we_or, we_not, we_ite, we_tup, we_lst, we_idx, we_slc, we_comp, we_call, we_bi, we_me, we_isi, we_nil, we_cons, wo_none, wo_some, wt_none, wt_some, wr_val, wr_rng1, wr_rng2, slotQ_val, slotQ_own, negQ_int, notQ_bl, blQ_bl, augQ_int, bc_t, bc_f, dr_d, dr_tmp, dr_brw, brwQ_own, brwQ_val, oq_some, dd_int, dd_str, dd_bl, dd_non, dd_tup, dd_lst, dd_scr, esc_d, esc_tf, esc_tt, escs_nil, escs_cons, drs_nil, drs_cons, asgR_d, asgR_t, asgT_n, outR_d, outR_t, op_add, op_addS, op_addT, op_addL, op_sub, op_mul, op_mulL, op_fdiv, op_mod, op_pow, cm_eq, cm_ne, eq_int, eq_str, eq_bl, eq_non, cm_lt, cm_le, cm_gt, cm_ge, cm_in, cm_notin, cm_is, cm_isnot, ix_lst, ix_scr, ix_tup, ix_str, at_0, at_1, at_2, at_3, sl_tup, sl_lst, sl_scr, bi_lenL, bi_lenR, bi_lenT, bi_lenS, bi_abs, bi_max, bi_min, bi_intI, bi_intB, bi_listL, bi_listT, bi_listR, bi_tupL, bi_tupT, bi_all, bi_any, bi_sum, bi_lenset, bi_repr, au_add, au_sub, ixL0, ixL1, ixL2, esc_b, escQ_f, escQ_t, escQ_v, outR_b, outQ_o, outQ_v, modL_b, modQ_o, vq_tmp, vq_tup, vq_lst, vq_scr, vq_str, vq_b, vQ_o, asgR_b, List.length_map, me_app, me_appB, mt_app, mt_pop0, mt_pop1, mt_ins, mt_clear, mt_rev, mt_join, ws_cell, cellQ_o, cellQ_v, mt_index, mt_count, me_index, me_count, me_join, strLst_i, me_clear, me_rev, me_pop1, me_ins, true_and, isTys, isTy, tyN, Option.map_some, String.reduceBEq, Bool.or_false, Bool.false_or, Bool.or_true, Bool.true_or, Bool.and_false, Bool.and_true, Bool.false_and, Bool.true_and, Bool.not_true, Bool.not_false, List.getElem?_cons_zero, List.getElem?_cons_succ, List.set_cons_zero, List.set_cons_succ, List.map_cons, List.map_nil, List.replicate_succ, List.replicate_zero, List.cons_append, List.nil_append, Nat.sub_self]
  exact q
theorem is_name_ok (hT : T.fn "is_name" = some d_is_name) (hk : 1 ≤ k) {n : Str} (h : NameOk n) (q : Q (.d (.bl true)) st) : wpC T k "is_name" [.str n] st Q E := by
  obtain ⟨k, rfl⟩ : ∃ j, k = j + 1 := ⟨k - 1, by omega⟩
  refine wpC_of hT rfl ?_
  have e1 : ((n.length : Nat) : Int) = (sg n).length := by rw [sg_len]
  have h1 := h.l1
  have h8 := h.l8
  simp only [d_is_name, ws_cons, ws_nil, ws_asg, ws_sub, ws_expr, ws_ret, ws_retn, ws_iff, ws_for, ws_raise, ws_pass, ws_brk, ws_cnt, ws_aug, we_slot, we_const, we_bin, we_neg, we_cmp, we_chain, we_and, we_or, we_not, we_ite, we_tup, we_lst, we_idx, we_slc, we_comp, we_call, we_bi, we_me, we_isi, we_nil, we_cons, wo_none, wo_some, wt_none, wt_some, wr_val, wr_rng1, wr_rng2, slotQ_val, slotQ_own, negQ_int, notQ_bl, blQ_bl, augQ_int, bc_t, bc_f, dr_d, dr_tmp, dr_brw, brwQ_own, brwQ_val, oq_some, dd_int, dd_str, dd_bl, dd_non, dd_tup, dd_lst, dd_scr, esc_d, esc_tf, esc_tt, escs_nil, escs_cons, drs_nil, drs_cons, asgR_d, asgR_t, asgT_n, outR_d, outR_t, op_add, op_addS, op_addT, op_addL, op_sub, op_mul, op_mulL, op_fdiv, op_mod, op_pow, cm_eq, cm_ne, eq_int, eq_str, eq_bl, eq_non, cm_lt, cm_le, cm_gt, cm_ge, cm_in, cm_notin, cm_is, cm_isnot, ix_lst, ix_scr, ix_tup, ix_str, at_0, at_1, at_2, at_3, sl_tup, sl_lst, sl_scr, bi_lenL, bi_lenR, bi_lenT, bi_lenS, bi_abs, bi_max, bi_min, bi_intI, bi_intB, bi_listL, bi_listT, bi_listR, bi_tupL, bi_tupT, bi_all, bi_any, bi_sum, bi_lenset, bi_repr, au_add, au_sub, ixL0, ixL1, ixL2, esc_b, escQ_f, escQ_t, escQ_v, outR_b, outQ_o, outQ_v, modL_b, modQ_o, vq_tmp, vq_tup, vq_lst, vq_scr, vq_str, vq_b, vQ_o, asgR_b, List.length_map, me_app, me_appB, mt_app, mt_pop0, mt_pop1, mt_ins, mt_clear, mt_rev, mt_join, ws_cell, cellQ_o, cellQ_v, mt_index, mt_count, me_index, me_count, me_join, strLst_i, me_clear, me_rev, me_pop1, me_ins, true_and, isTys, isTy, tyN, Option.map_some, String.reduceBEq, Bool.or_false, Bool.false_or, Bool.or_true, Bool.true_or, Bool.and_false, Bool.and_true, Bool.false_and, Bool.true_and, Bool.not_true, Bool.not_false, List.getElem?_cons_zero, List.getElem?_cons_succ, List.set_cons_zero, List.set_cons_succ, List.map_cons, List.map_nil, List.replicate_succ, List.replicate_zero, List.cons_append, List.nil_append, Nat.sub_self]
  refine ⟨by rw [sg_len, sizeLine_eq]; omega, ?_⟩
  rw [decide_eq_true (show (1 : Int) ≤ n.length by omega), decide_eq_true (show ((n.length : Nat) : Int) ≤ 8 by omega)]
  simp only [ws_cons, ws_nil, ws_asg, ws_sub, ws_expr, ws_ret, ws_retn, ws_iff, ws_for, ws_raise, ws_pass, ws_brk, ws_cnt, ws_aug, we_slot, we_const, we_bin, we_neg, we_cmp, we_chain, we_and, we_or, we_not, we_ite, we_tup, we_lst, we_idx, we_slc, we_comp, we_call, we_bi, we_me, we_isi, we_nil, we_cons, wo_none, wo_some, wt_none, wt_some, wr_val, wr_rng1, wr_rng2, slotQ_val, slotQ_own, negQ_int, notQ_bl, blQ_bl, augQ_int, bc_t, bc_f, dr_d, dr_tmp, dr_brw, brwQ_own, brwQ_val, oq_some, dd_int, dd_str, dd_bl, dd_non, dd_tup, dd_lst, dd_scr, esc_d, esc_tf, esc_tt, escs_nil, escs_cons, drs_nil, drs_cons, asgR_d, asgR_t, asgT_n, outR_d, outR_t, op_add, op_addS, op_addT, op_addL, op_sub, op_mul, op_mulL, op_fdiv, op_mod, op_pow, cm_eq, cm_ne, eq_int, eq_str, eq_bl, eq_non, cm_lt, cm_le, cm_gt, cm_ge, cm_in, cm_notin, cm_is, cm_isnot, ix_lst, ix_scr, ix_tup, ix_str, at_0, at_1, at_2, at_3, sl_tup, sl_lst, sl_scr, bi_lenL, bi_lenR, bi_lenT, bi_lenS, bi_abs, bi_max, bi_min, bi_intI, bi_intB, bi_listL, bi_listT, bi_listR, bi_tupL, bi_tupT, bi_all, bi_any, bi_sum, bi_lenset, bi_repr, au_add, au_sub, ixL0, ixL1, ixL2, esc_b, escQ_f, escQ_t, escQ_v, outR_b, outQ_o, outQ_v, modL_b, modQ_o, vq_tmp, vq_tup, vq_lst, vq_scr, vq_str, vq_b, vQ_o, asgR_b, List.length_map, me_app, me_appB, mt_app, mt_pop0, mt_pop1, mt_ins, mt_clear, mt_rev, mt_join, ws_cell, cellQ_o, cellQ_v, mt_index, mt_count, me_index, me_count, me_join, strLst_i, me_clear, me_rev, me_pop1, me_ins, true_and, isTys, isTy, tyN, Option.map_some, String.reduceBEq, Bool.or_false, Bool.false_or, Bool.or_true, Bool.true_or, Bool.and_false, Bool.and_true, Bool.false_and, Bool.true_and, Bool.not_true, Bool.not_false, List.getElem?_cons_zero, List.getElem?_cons_succ, List.set_cons_zero, List.set_cons_succ, List.map_cons, List.map_nil, List.replicate_succ, List.replicate_zero, List.cons_append, List.nil_append, Nat.sub_self]
  refine comp_map (g := fun _ => .bl true) trivial (by show (List.map _ (sg n)).length ≤ _; rw [List.length_map, sizeLine_eq]; omega) (fun x hx Q q => ?_) ?_
  · obtain ⟨c, hc, rfl⟩ := List.mem_map.mp hx
    simp only [ws_cons, ws_nil, ws_asg, ws_sub, ws_expr, ws_ret, ws_retn, ws_iff, ws_for, ws_raise, ws_pass, ws_brk, ws_cnt, ws_aug, we_slot, we_const, we_bin, we_neg, we_cmp, we_chain, we_and, we_or, we_not, we_ite, we_tup, we_lst, we_idx, we_slc, we_comp, we_call, we_bi, we_me, we_isi, we_nil, we_cons, wo_none, wo_some, wt_none, wt_some, wr_val, wr_rng1, wr_rng2, slotQ_val, slotQ_own, negQ_int, notQ_bl, blQ_bl, augQ_int, bc_t, bc_f, dr_d, dr_tmp, dr_brw, brwQ_own, brwQ_val, oq_some, dd_int, dd_str, dd_bl, dd_non, dd_tup, dd_lst, dd_scr, esc_d, esc_tf, esc_tt, escs_nil, escs_cons, drs_nil, drs_cons, asgR_d, asgR_t, asgT_n, outR_d, outR_t, op_add, op_addS, op_addT, op_addL, op_sub, op_mul, op_mulL, op_fdiv, op_mod, op_pow, cm_eq, cm_ne, eq_int, eq_str, eq_bl, eq_non, cm_lt, cm_le, cm_gt, cm_ge, cm_in, cm_notin, cm_is, cm_isnot, ix_lst, ix_scr, ix_tup, ix_str, at_0, at_1, at_2, at_3, sl_tup, sl_lst, sl_scr, bi_lenL, bi_lenR, bi_lenT, bi_lenS, bi_abs, bi_max, bi_min, bi_intI, bi_intB, bi_listL, bi_listT, bi_listR, bi_tupL, bi_tupT, bi_all, bi_any, bi_sum, bi_lenset, bi_repr, au_add, au_sub, ixL0, ixL1, ixL2, esc_b, escQ_f, escQ_t, escQ_v, outR_b, outQ_o, outQ_v, modL_b, modQ_o, vq_tmp, vq_tup, vq_lst, vq_scr, vq_str, vq_b, vQ_o, asgR_b, List.length_map, me_app, me_appB, mt_app, mt_pop0, mt_pop1, mt_ins, mt_clear, mt_rev, mt_join, ws_cell, cellQ_o, cellQ_v, mt_index, mt_count, me_index, me_count, me_join, strLst_i, me_clear, me_rev, me_pop1, me_ins, true_and, isTys, isTy, tyN, Option.map_some, String.reduceBEq, Bool.or_false, Bool.false_or, Bool.or_true, Bool.true_or, Bool.and_false, Bool.and_true, Bool.false_and, Bool.true_and, Bool.not_true, Bool.not_false, List.getElem?_cons_zero, List.getElem?_cons_succ, List.set_cons_zero, List.set_cons_succ, List.map_cons, List.map_nil, List.replicate_succ, List.replicate_zero, List.cons_append, List.nil_append, Nat.sub_self, in_sign] at q ⊢
    refine ⟨c, rfl, ?_⟩
    rw [decide_eq_true (show c ∈ sg (Str.ofString "abcdefghijklmnopqrstuvwxyz") by rw [sg_letters]; exact mem_letters.mpr (h.al c hc))]
    exact q
  · have e : (strSigns n).map (fun _ => D.bl true) = ((sg n).map fun _ => true).map D.bl := by
      show List.map _ (List.map _ (sg n)) = List.map _ (List.map _ (sg n))
      rw [List.map_map, List.map_map]
      rfl
    rw [e]
    simp only [ws_cons, ws_nil, ws_asg, ws_sub, ws_expr, ws_ret, ws_retn, ws_iff, ws_for, ws_raise, ws_pass, ws_brk, ws_cnt, ws_aug, we_slot, we_const, we_bin, we_neg, we_cmp, we_chain, we_and, we_or, we_not, we_ite, we_tup, we_lst, we_idx, we_slc, we_comp, we_call, we_bi, we_me, we_isi, we_nil, we_cons, wo_none, wo_some, wt_none, wt_some, wr_val, wr_rng1, wr_rng2, slotQ_val, slotQ_own, negQ_int, notQ_bl, blQ_bl, augQ_int, bc_t, bc_f, dr_d, dr_tmp, dr_brw, brwQ_own, brwQ_val, oq_some, dd_int, dd_str, dd_bl, dd_non, dd_tup, dd_lst, dd_scr, esc_d, esc_tf, esc_tt, escs_nil, escs_cons, drs_nil, drs_cons, asgR_d, asgR_t, asgT_n, outR_d, outR_t, op_add, op_addS, op_addT, op_addL, op_sub, op_mul, op_mulL, op_fdiv, op_mod, op_pow, cm_eq, cm_ne, eq_int, eq_str, eq_bl, eq_non, cm_lt, cm_le, cm_gt, cm_ge, cm_in, cm_notin, cm_is, cm_isnot, ix_lst, ix_scr, ix_tup, ix_str, at_0, at_1, at_2, at_3, sl_tup, sl_lst, sl_scr, bi_lenL, bi_lenR, bi_lenT, bi_lenS, bi_abs, bi_max, bi_min, bi_intI, bi_intB, bi_listL, bi_listT, bi_listR, bi_tupL, bi_tupT, bi_all, bi_any, bi_sum, bi_lenset, bi_repr, au_add, au_sub, ixL0, ixL1, ixL2, esc_b, escQ_f, escQ_t, escQ_v, outR_b, outQ_o, outQ_v, modL_b, modQ_o, vq_tmp, vq_tup, vq_lst, vq_scr, vq_str, vq_b, vQ_o, asgR_b, List.length_map, me_app, me_appB, mt_app, mt_pop0, mt_pop1, mt_ins, mt_clear, mt_rev, mt_join, ws_cell, cellQ_o, cellQ_v, mt_index, mt_count, me_index, me_count, me_join, strLst_i, me_clear, me_rev, me_pop1, me_ins, true_and, isTys, isTy, tyN, Option.map_some, String.reduceBEq, Bool.or_false, Bool.false_or, Bool.or_true, Bool.true_or, Bool.and_false, Bool.and_true, Bool.false_and, Bool.true_and, Bool.not_true, Bool.not_false, List.getElem?_cons_zero, List.getElem?_cons_succ, List.set_cons_zero, List.set_cons_succ, List.map_cons, List.map_nil, List.replicate_succ, List.replicate_zero, List.cons_append, List.nil_append, Nat.sub_self, asBls_map]
    have : ((sg n).map fun _ => true).all id = true := by rw [List.all_map, List.all_eq_true]; intro _ _; rfl
    rw [this]
    exact q
/-- the program's first defs -/
structure Prog0 (T : Tab) : Prop where
  is_whole : T.fn "is_whole" = some d_is_whole
  is_row : T.fn "is_row" = some d_is_row
  is_name : T.fn "is_name" = some d_is_name
  is_card : T.fn "is_card" = some d_is_card
  deck_of : T.fn "deck_of" = some d_deck_of
structure Prog1 (T : Tab) : Prop extends Prog0 T where
  reach_of : T.fn "reach_of" = some d_reach_of
  slid_back : T.fn "slid_back" = some d_slid_back
  slid : T.fn "slid" = some d_slid
theorem is_card_ok (P : Prog0 T) (hk : 2 ≤ k) {x : D} {p : Str × Int} (h : CardR st x p) (hn : NameOk p.1) (h0 : 0 ≤ p.2) (q : Q (.d (.bl true)) st) : wpC T k "is_card" [x] st Q E := by
  obtain ⟨k, rfl⟩ : ∃ j, k = j + 1 := ⟨k - 1, by omega⟩
  refine wpC_of P.is_card rfl ?_
  simp only [d_is_card, ws_cons, ws_nil, ws_asg, ws_sub, ws_expr, ws_ret, ws_retn, ws_iff, ws_for, ws_raise, ws_pass, ws_brk, ws_cnt, ws_aug, we_slot, we_const, we_bin, we_neg, we_cmp, we_chain, we_and, we_or, we_not, we_ite, we_tup, we_lst, we_idx, we_slc, we_comp, we_call, we_bi, we_me, we_isi, we_nil, we_cons, wo_none, wo_some, wt_none, wt_some, wr_val, wr_rng1, wr_rng2, slotQ_val, slotQ_own, negQ_int, notQ_bl, blQ_bl, augQ_int, bc_t, bc_f, dr_d, dr_tmp, dr_brw, brwQ_own, brwQ_val, oq_some, dd_int, dd_str, dd_bl, dd_non, dd_tup, dd_lst, dd_scr, esc_d, esc_tf, esc_tt, escs_nil, escs_cons, drs_nil, drs_cons, asgR_d, asgR_t, asgT_n, outR_d, outR_t, op_add, op_addS, op_addT, op_addL, op_sub, op_mul, op_mulL, op_fdiv, op_mod, op_pow, cm_eq, cm_ne, eq_int, eq_str, eq_bl, eq_non, cm_lt, cm_le, cm_gt, cm_ge, cm_in, cm_notin, cm_is, cm_isnot, ix_lst, ix_scr, ix_tup, ix_str, at_0, at_1, at_2, at_3, sl_tup, sl_lst, sl_scr, bi_lenL, bi_lenR, bi_lenT, bi_lenS, bi_abs, bi_max, bi_min, bi_intI, bi_intB, bi_listL, bi_listT, bi_listR, bi_tupL, bi_tupT, bi_all, bi_any, bi_sum, bi_lenset, bi_repr, au_add, au_sub, ixL0, ixL1, ixL2, esc_b, escQ_f, escQ_t, escQ_v, outR_b, outQ_o, outQ_v, modL_b, modQ_o, vq_tmp, vq_tup, vq_lst, vq_scr, vq_str, vq_b, vQ_o, asgR_b, List.length_map, me_app, me_appB, mt_app, mt_pop0, mt_pop1, mt_ins, mt_clear, mt_rev, mt_join, ws_cell, cellQ_o, cellQ_v, mt_index, mt_count, me_index, me_count, me_join, strLst_i, me_clear, me_rev, me_pop1, me_ins, true_and, isTys, isTy, tyN, Option.map_some, String.reduceBEq, Bool.or_false, Bool.false_or, Bool.or_true, Bool.true_or, Bool.and_false, Bool.and_true, Bool.false_and, Bool.true_and, Bool.not_true, Bool.not_false, List.getElem?_cons_zero, List.getElem?_cons_succ, List.set_cons_zero, List.set_cons_succ, List.map_cons, List.map_nil, List.replicate_succ, List.replicate_zero, List.cons_append, List.nil_append, Nat.sub_self]
  refine is_row_ok P.is_row (by omega) h ?_
  have e2 : decide ((([D.str p.1, D.int p.2].length : Nat) : Int) = 2) = true := by simp
  rw [e2]
  rcases seq_cases h with hd | hd <;>
  · simp only [ws_cons, ws_nil, ws_asg, ws_sub, ws_expr, ws_ret, ws_retn, ws_iff, ws_for, ws_raise, ws_pass, ws_brk, ws_cnt, ws_aug, we_slot, we_const, we_bin, we_neg, we_cmp, we_chain, we_and, we_or, we_not, we_ite, we_tup, we_lst, we_idx, we_slc, we_comp, we_call, we_bi, we_me, we_isi, we_nil, we_cons, wo_none, wo_some, wt_none, wt_some, wr_val, wr_rng1, wr_rng2, slotQ_val, slotQ_own, negQ_int, notQ_bl, blQ_bl, augQ_int, bc_t, bc_f, dr_d, dr_tmp, dr_brw, brwQ_own, brwQ_val, oq_some, dd_int, dd_str, dd_bl, dd_non, dd_tup, dd_lst, dd_scr, esc_d, esc_tf, esc_tt, escs_nil, escs_cons, drs_nil, drs_cons, asgR_d, asgR_t, asgT_n, outR_d, outR_t, op_add, op_addS, op_addT, op_addL, op_sub, op_mul, op_mulL, op_fdiv, op_mod, op_pow, cm_eq, cm_ne, eq_int, eq_str, eq_bl, eq_non, cm_lt, cm_le, cm_gt, cm_ge, cm_in, cm_notin, cm_is, cm_isnot, ix_lst, ix_scr, ix_tup, ix_str, at_0, at_1, at_2, at_3, sl_tup, sl_lst, sl_scr, bi_lenL, bi_lenR, bi_lenT, bi_lenS, bi_abs, bi_max, bi_min, bi_intI, bi_intB, bi_listL, bi_listT, bi_listR, bi_tupL, bi_tupT, bi_all, bi_any, bi_sum, bi_lenset, bi_repr, au_add, au_sub, ixL0, ixL1, ixL2, esc_b, escQ_f, escQ_t, escQ_v, outR_b, outQ_o, outQ_v, modL_b, modQ_o, vq_tmp, vq_tup, vq_lst, vq_scr, vq_str, vq_b, vQ_o, asgR_b, List.length_map, me_app, me_appB, mt_app, mt_pop0, mt_pop1, mt_ins, mt_clear, mt_rev, mt_join, ws_cell, cellQ_o, cellQ_v, mt_index, mt_count, me_index, me_count, me_join, strLst_i, me_clear, me_rev, me_pop1, me_ins, true_and, isTys, isTy, tyN, Option.map_some, String.reduceBEq, Bool.or_false, Bool.false_or, Bool.or_true, Bool.true_or, Bool.and_false, Bool.and_true, Bool.false_and, Bool.true_and, Bool.not_true, Bool.not_false, List.getElem?_cons_zero, List.getElem?_cons_succ, List.set_cons_zero, List.set_cons_succ, List.map_cons, List.map_nil, List.replicate_succ, List.replicate_zero, List.cons_append, List.nil_append, Nat.sub_self, hd]
    refine is_name_ok P.is_name (by omega) hn ?_
    simp only [ws_cons, ws_nil, ws_asg, ws_sub, ws_expr, ws_ret, ws_retn, ws_iff, ws_for, ws_raise, ws_pass, ws_brk, ws_cnt, ws_aug, we_slot, we_const, we_bin, we_neg, we_cmp, we_chain, we_and, we_or, we_not, we_ite, we_tup, we_lst, we_idx, we_slc, we_comp, we_call, we_bi, we_me, we_isi, we_nil, we_cons, wo_none, wo_some, wt_none, wt_some, wr_val, wr_rng1, wr_rng2, slotQ_val, slotQ_own, negQ_int, notQ_bl, blQ_bl, augQ_int, bc_t, bc_f, dr_d, dr_tmp, dr_brw, brwQ_own, brwQ_val, oq_some, dd_int, dd_str, dd_bl, dd_non, dd_tup, dd_lst, dd_scr, esc_d, esc_tf, esc_tt, escs_nil, escs_cons, drs_nil, drs_cons, asgR_d, asgR_t, asgT_n, outR_d, outR_t, op_add, op_addS, op_addT, op_addL, op_sub, op_mul, op_mulL, op_fdiv, op_mod, op_pow, cm_eq, cm_ne, eq_int, eq_str, eq_bl, eq_non, cm_lt, cm_le, cm_gt, cm_ge, cm_in, cm_notin, cm_is, cm_isnot, ix_lst, ix_scr, ix_tup, ix_str, at_0, at_1, at_2, at_3, sl_tup, sl_lst, sl_scr, bi_lenL, bi_lenR, bi_lenT, bi_lenS, bi_abs, bi_max, bi_min, bi_intI, bi_intB, bi_listL, bi_listT, bi_listR, bi_tupL, bi_tupT, bi_all, bi_any, bi_sum, bi_lenset, bi_repr, au_add, au_sub, ixL0, ixL1, ixL2, esc_b, escQ_f, escQ_t, escQ_v, outR_b, outQ_o, outQ_v, modL_b, modQ_o, vq_tmp, vq_tup, vq_lst, vq_scr, vq_str, vq_b, vQ_o, asgR_b, List.length_map, me_app, me_appB, mt_app, mt_pop0, mt_pop1, mt_ins, mt_clear, mt_rev, mt_join, ws_cell, cellQ_o, cellQ_v, mt_index, mt_count, me_index, me_count, me_join, strLst_i, me_clear, me_rev, me_pop1, me_ins, true_and, isTys, isTy, tyN, Option.map_some, String.reduceBEq, Bool.or_false, Bool.false_or, Bool.or_true, Bool.true_or, Bool.and_false, Bool.and_true, Bool.false_and, Bool.true_and, Bool.not_true, Bool.not_false, List.getElem?_cons_zero, List.getElem?_cons_succ, List.set_cons_zero, List.set_cons_succ, List.map_cons, List.map_nil, List.replicate_succ, List.replicate_zero, List.cons_append, List.nil_append, Nat.sub_self, hd]
    refine is_whole_ok P.is_whole (by omega) ?_
    rw [decide_eq_true h0]
    exact q
theorem dedS_nodup : ∀ (l a : List Str), (a ++ l).Nodup → l.foldl stepS a = a ++ l
  | [], a, _ => by simp
  | x :: l, a, h => by
    have hx : x ∉ a := fun hm => by
      rw [List.nodup_append] at h
      exact h.2.2 x hm x List.mem_cons_self rfl
    rw [List.foldl_cons]
    have e : stepS a x = a ++ [x] := by
      unfold stepS
      rw [if_neg]
      simp only [List.any_eq_true, beq_iff_eq, not_exists, not_and]
      exact fun y hy e => hx (e ▸ hy)
    rw [e, dedS_nodup l (a ++ [x]) (by rw [List.append_assoc]; exact h), List.append_assoc]
    rfl
theorem deck_of_ok (P : Prog0 T) (hk : 3 ≤ k) {x : D} {l : Deck} (h : DeckR st x l) (hl : DeckOk l) (q : Q (.d (deckD l)) st) : wpC T k "deck_of" [x] st Q E := by
  obtain ⟨k, rfl⟩ : ∃ j, k = j + 1 := ⟨k - 1, by omega⟩
  obtain ⟨es, hs, hp⟩ := h.ex
  have len : es.length = l.length := hp.length
  have l1 := hl.l1
  have l40 := hl.l40
  have big : es.length ≤ sizeLine := by rw [sizeLine_eq]; omega
  refine wpC_of P.deck_of rfl ?_
  have t1 : decide ((1 : Int) ≤ es.length) = true := decide_eq_true (by omega)
  have t2 : decide ((es.length : Int) ≤ 40) = true := decide_eq_true (by omega)
  have e3 : (dedS (l.map (·.1))).length = es.length := by
    have := dedS_nodup (l.map (·.1)) [] (by simpa using hl.nd)
    unfold dedS
    rw [this]
    simp [len]
  have e4 : decide (((dedS (l.map (·.1))).length : Int) = (es.length : Int)) = true := decide_eq_true (by rw [e3])
  have m1 : es.map (fun _ => D.bl true) = (es.map fun _ => true).map D.bl := by rw [List.map_map]; rfl
  have m2 : es.map (fun z => match seqOf st z with
      | some (a :: _) => a
      | _ => .non) = (l.map (·.1)).map D.str := by
    rw [List.map_map]
    exact paired_eq (fun a b hab => by
      have hab : seqOf st a = some [.str b.1, .int b.2] := hab
      simp only [hab]
      rfl) hp
  have m3 : es.map (fun z => match seqOf st z with
      | some ds => .tup ds
      | _ => .non) = l.map cardD := paired_eq (fun a b hab => by
    have hab : seqOf st a = some [.str b.1, .int b.2] := hab
    simp only [hab]
    rfl) hp
  have al : (es.map fun _ => true).all id = true := by rw [List.all_map, List.all_eq_true]; intro _ _; rfl
  rcases seq_cases hs with hd | hd <;>
  · simp only [d_deck_of, ws_cons, ws_nil, ws_asg, ws_sub, ws_expr, ws_ret, ws_retn, ws_iff, ws_for, ws_raise, ws_pass, ws_brk, ws_cnt, ws_aug, we_slot, we_const, we_bin, we_neg, we_cmp, we_chain, we_and, we_or, we_not, we_ite, we_tup, we_lst, we_idx, we_slc, we_comp, we_call, we_bi, we_me, we_isi, we_nil, we_cons, wo_none, wo_some, wt_none, wt_some, wr_val, wr_rng1, wr_rng2, slotQ_val, slotQ_own, negQ_int, notQ_bl, blQ_bl, augQ_int, bc_t, bc_f, dr_d, dr_tmp, dr_brw, brwQ_own, brwQ_val, oq_some, dd_int, dd_str, dd_bl, dd_non, dd_tup, dd_lst, dd_scr, esc_d, esc_tf, esc_tt, escs_nil, escs_cons, drs_nil, drs_cons, asgR_d, asgR_t, asgT_n, outR_d, outR_t, op_add, op_addS, op_addT, op_addL, op_sub, op_mul, op_mulL, op_fdiv, op_mod, op_pow, cm_eq, cm_ne, eq_int, eq_str, eq_bl, eq_non, cm_lt, cm_le, cm_gt, cm_ge, cm_in, cm_notin, cm_is, cm_isnot, ix_lst, ix_scr, ix_tup, ix_str, at_0, at_1, at_2, at_3, sl_tup, sl_lst, sl_scr, bi_lenL, bi_lenR, bi_lenT, bi_lenS, bi_abs, bi_max, bi_min, bi_intI, bi_intB, bi_listL, bi_listT, bi_listR, bi_tupL, bi_tupT, bi_all, bi_any, bi_sum, bi_lenset, bi_repr, au_add, au_sub, ixL0, ixL1, ixL2, esc_b, escQ_f, escQ_t, escQ_v, outR_b, outQ_o, outQ_v, modL_b, modQ_o, vq_tmp, vq_tup, vq_lst, vq_scr, vq_str, vq_b, vQ_o, asgR_b, List.length_map, me_app, me_appB, mt_app, mt_pop0, mt_pop1, mt_ins, mt_clear, mt_rev, mt_join, ws_cell, cellQ_o, cellQ_v, mt_index, mt_count, me_index, me_count, me_join, strLst_i, me_clear, me_rev, me_pop1, me_ins, true_and, isTys, isTy, tyN, Option.map_some, String.reduceBEq, Bool.or_false, Bool.false_or, Bool.or_true, Bool.true_or, Bool.and_false, Bool.and_true, Bool.false_and, Bool.true_and, Bool.not_true, Bool.not_false, List.getElem?_cons_zero, List.getElem?_cons_succ, List.set_cons_zero, List.set_cons_succ, List.map_cons, List.map_nil, List.replicate_succ, List.replicate_zero, List.cons_append, List.nil_append, Nat.sub_self, hd, t1, t2]
    refine vq_seq hs fun chk hc => comp_map (g := fun _ => .bl true) hc big (fun z hz Q q => ?_) ?_
    · obtain ⟨p, hp1, hp2⟩ := paired_mem hp z hz
      simp only [ws_cons, ws_nil, ws_asg, ws_sub, ws_expr, ws_ret, ws_retn, ws_iff, ws_for, ws_raise, ws_pass, ws_brk, ws_cnt, ws_aug, we_slot, we_const, we_bin, we_neg, we_cmp, we_chain, we_and, we_or, we_not, we_ite, we_tup, we_lst, we_idx, we_slc, we_comp, we_call, we_bi, we_me, we_isi, we_nil, we_cons, wo_none, wo_some, wt_none, wt_some, wr_val, wr_rng1, wr_rng2, slotQ_val, slotQ_own, negQ_int, notQ_bl, blQ_bl, augQ_int, bc_t, bc_f, dr_d, dr_tmp, dr_brw, brwQ_own, brwQ_val, oq_some, dd_int, dd_str, dd_bl, dd_non, dd_tup, dd_lst, dd_scr, esc_d, esc_tf, esc_tt, escs_nil, escs_cons, drs_nil, drs_cons, asgR_d, asgR_t, asgT_n, outR_d, outR_t, op_add, op_addS, op_addT, op_addL, op_sub, op_mul, op_mulL, op_fdiv, op_mod, op_pow, cm_eq, cm_ne, eq_int, eq_str, eq_bl, eq_non, cm_lt, cm_le, cm_gt, cm_ge, cm_in, cm_notin, cm_is, cm_isnot, ix_lst, ix_scr, ix_tup, ix_str, at_0, at_1, at_2, at_3, sl_tup, sl_lst, sl_scr, bi_lenL, bi_lenR, bi_lenT, bi_lenS, bi_abs, bi_max, bi_min, bi_intI, bi_intB, bi_listL, bi_listT, bi_listR, bi_tupL, bi_tupT, bi_all, bi_any, bi_sum, bi_lenset, bi_repr, au_add, au_sub, ixL0, ixL1, ixL2, esc_b, escQ_f, escQ_t, escQ_v, outR_b, outQ_o, outQ_v, modL_b, modQ_o, vq_tmp, vq_tup, vq_lst, vq_scr, vq_str, vq_b, vQ_o, asgR_b, List.length_map, me_app, me_appB, mt_app, mt_pop0, mt_pop1, mt_ins, mt_clear, mt_rev, mt_join, ws_cell, cellQ_o, cellQ_v, mt_index, mt_count, me_index, me_count, me_join, strLst_i, me_clear, me_rev, me_pop1, me_ins, true_and, isTys, isTy, tyN, Option.map_some, String.reduceBEq, Bool.or_false, Bool.false_or, Bool.or_true, Bool.true_or, Bool.and_false, Bool.and_true, Bool.false_and, Bool.true_and, Bool.not_true, Bool.not_false, List.getElem?_cons_zero, List.getElem?_cons_succ, List.set_cons_zero, List.set_cons_succ, List.map_cons, List.map_nil, List.replicate_succ, List.replicate_zero, List.cons_append, List.nil_append, Nat.sub_self] at q ⊢
      exact is_card_ok P (by omega) hp2 (hl.nm p hp1) (hl.dp p hp1).1 q
    · rw [m1]
      simp only [ws_cons, ws_nil, ws_asg, ws_sub, ws_expr, ws_ret, ws_retn, ws_iff, ws_for, ws_raise, ws_pass, ws_brk, ws_cnt, ws_aug, we_slot, we_const, we_bin, we_neg, we_cmp, we_chain, we_and, we_or, we_not, we_ite, we_tup, we_lst, we_idx, we_slc, we_comp, we_call, we_bi, we_me, we_isi, we_nil, we_cons, wo_none, wo_some, wt_none, wt_some, wr_val, wr_rng1, wr_rng2, slotQ_val, slotQ_own, negQ_int, notQ_bl, blQ_bl, augQ_int, bc_t, bc_f, dr_d, dr_tmp, dr_brw, brwQ_own, brwQ_val, oq_some, dd_int, dd_str, dd_bl, dd_non, dd_tup, dd_lst, dd_scr, esc_d, esc_tf, esc_tt, escs_nil, escs_cons, drs_nil, drs_cons, asgR_d, asgR_t, asgT_n, outR_d, outR_t, op_add, op_addS, op_addT, op_addL, op_sub, op_mul, op_mulL, op_fdiv, op_mod, op_pow, cm_eq, cm_ne, eq_int, eq_str, eq_bl, eq_non, cm_lt, cm_le, cm_gt, cm_ge, cm_in, cm_notin, cm_is, cm_isnot, ix_lst, ix_scr, ix_tup, ix_str, at_0, at_1, at_2, at_3, sl_tup, sl_lst, sl_scr, bi_lenL, bi_lenR, bi_lenT, bi_lenS, bi_abs, bi_max, bi_min, bi_intI, bi_intB, bi_listL, bi_listT, bi_listR, bi_tupL, bi_tupT, bi_all, bi_any, bi_sum, bi_lenset, bi_repr, au_add, au_sub, ixL0, ixL1, ixL2, esc_b, escQ_f, escQ_t, escQ_v, outR_b, outQ_o, outQ_v, modL_b, modQ_o, vq_tmp, vq_tup, vq_lst, vq_scr, vq_str, vq_b, vQ_o, asgR_b, List.length_map, me_app, me_appB, mt_app, mt_pop0, mt_pop1, mt_ins, mt_clear, mt_rev, mt_join, ws_cell, cellQ_o, cellQ_v, mt_index, mt_count, me_index, me_count, me_join, strLst_i, me_clear, me_rev, me_pop1, me_ins, true_and, isTys, isTy, tyN, Option.map_some, String.reduceBEq, Bool.or_false, Bool.false_or, Bool.or_true, Bool.true_or, Bool.and_false, Bool.and_true, Bool.false_and, Bool.true_and, Bool.not_true, Bool.not_false, List.getElem?_cons_zero, List.getElem?_cons_succ, List.set_cons_zero, List.set_cons_succ, List.map_cons, List.map_nil, List.replicate_succ, List.replicate_zero, List.cons_append, List.nil_append, Nat.sub_self, asBls_map, al]
      refine vq_seq hs fun chk hc => comp_map (g := fun z => match seqOf st z with
        | some (a :: _) => a
        | _ => .non) hc big (fun z hz Q q => ?_) ?_
      · obtain ⟨p, hp1, hp2⟩ := paired_mem hp z hz
        have hp2 : seqOf st z = some [.str p.1, .int p.2] := hp2
        simp only [hp2] at q
        rcases seq_cases hp2 with hz | hz <;> (simp only [ws_cons, ws_nil, ws_asg, ws_sub, ws_expr, ws_ret, ws_retn, ws_iff, ws_for, ws_raise, ws_pass, ws_brk, ws_cnt, ws_aug, we_slot, we_const, we_bin, we_neg, we_cmp, we_chain, we_and, we_or, we_not, we_ite, we_tup, we_lst, we_idx, we_slc, we_comp, we_call, we_bi, we_me, we_isi, we_nil, we_cons, wo_none, wo_some, wt_none, wt_some, wr_val, wr_rng1, wr_rng2, slotQ_val, slotQ_own, negQ_int, notQ_bl, blQ_bl, augQ_int, bc_t, bc_f, dr_d, dr_tmp, dr_brw, brwQ_own, brwQ_val, oq_some, dd_int, dd_str, dd_bl, dd_non, dd_tup, dd_lst, dd_scr, esc_d, esc_tf, esc_tt, escs_nil, escs_cons, drs_nil, drs_cons, asgR_d, asgR_t, asgT_n, outR_d, outR_t, op_add, op_addS, op_addT, op_addL, op_sub, op_mul, op_mulL, op_fdiv, op_mod, op_pow, cm_eq, cm_ne, eq_int, eq_str, eq_bl, eq_non, cm_lt, cm_le, cm_gt, cm_ge, cm_in, cm_notin, cm_is, cm_isnot, ix_lst, ix_scr, ix_tup, ix_str, at_0, at_1, at_2, at_3, sl_tup, sl_lst, sl_scr, bi_lenL, bi_lenR, bi_lenT, bi_lenS, bi_abs, bi_max, bi_min, bi_intI, bi_intB, bi_listL, bi_listT, bi_listR, bi_tupL, bi_tupT, bi_all, bi_any, bi_sum, bi_lenset, bi_repr, au_add, au_sub, ixL0, ixL1, ixL2, esc_b, escQ_f, escQ_t, escQ_v, outR_b, outQ_o, outQ_v, modL_b, modQ_o, vq_tmp, vq_tup, vq_lst, vq_scr, vq_str, vq_b, vQ_o, asgR_b, List.length_map, me_app, me_appB, mt_app, mt_pop0, mt_pop1, mt_ins, mt_clear, mt_rev, mt_join, ws_cell, cellQ_o, cellQ_v, mt_index, mt_count, me_index, me_count, me_join, strLst_i, me_clear, me_rev, me_pop1, me_ins, true_and, isTys, isTy, tyN, Option.map_some, String.reduceBEq, Bool.or_false, Bool.false_or, Bool.or_true, Bool.true_or, Bool.and_false, Bool.and_true, Bool.false_and, Bool.true_and, Bool.not_true, Bool.not_false, List.getElem?_cons_zero, List.getElem?_cons_succ, List.set_cons_zero, List.set_cons_succ, List.map_cons, List.map_nil, List.replicate_succ, List.replicate_zero, List.cons_append, List.nil_append, Nat.sub_self, hz] at q ⊢; exact q)
      · rw [m2]
        simp only [ws_cons, ws_nil, ws_asg, ws_sub, ws_expr, ws_ret, ws_retn, ws_iff, ws_for, ws_raise, ws_pass, ws_brk, ws_cnt, ws_aug, we_slot, we_const, we_bin, we_neg, we_cmp, we_chain, we_and, we_or, we_not, we_ite, we_tup, we_lst, we_idx, we_slc, we_comp, we_call, we_bi, we_me, we_isi, we_nil, we_cons, wo_none, wo_some, wt_none, wt_some, wr_val, wr_rng1, wr_rng2, slotQ_val, slotQ_own, negQ_int, notQ_bl, blQ_bl, augQ_int, bc_t, bc_f, dr_d, dr_tmp, dr_brw, brwQ_own, brwQ_val, oq_some, dd_int, dd_str, dd_bl, dd_non, dd_tup, dd_lst, dd_scr, esc_d, esc_tf, esc_tt, escs_nil, escs_cons, drs_nil, drs_cons, asgR_d, asgR_t, asgT_n, outR_d, outR_t, op_add, op_addS, op_addT, op_addL, op_sub, op_mul, op_mulL, op_fdiv, op_mod, op_pow, cm_eq, cm_ne, eq_int, eq_str, eq_bl, eq_non, cm_lt, cm_le, cm_gt, cm_ge, cm_in, cm_notin, cm_is, cm_isnot, ix_lst, ix_scr, ix_tup, ix_str, at_0, at_1, at_2, at_3, sl_tup, sl_lst, sl_scr, bi_lenL, bi_lenR, bi_lenT, bi_lenS, bi_abs, bi_max, bi_min, bi_intI, bi_intB, bi_listL, bi_listT, bi_listR, bi_tupL, bi_tupT, bi_all, bi_any, bi_sum, bi_lenset, bi_repr, au_add, au_sub, ixL0, ixL1, ixL2, esc_b, escQ_f, escQ_t, escQ_v, outR_b, outQ_o, outQ_v, modL_b, modQ_o, vq_tmp, vq_tup, vq_lst, vq_scr, vq_str, vq_b, vQ_o, asgR_b, List.length_map, me_app, me_appB, mt_app, mt_pop0, mt_pop1, mt_ins, mt_clear, mt_rev, mt_join, ws_cell, cellQ_o, cellQ_v, mt_index, mt_count, me_index, me_count, me_join, strLst_i, me_clear, me_rev, me_pop1, me_ins, true_and, isTys, isTy, tyN, Option.map_some, String.reduceBEq, Bool.or_false, Bool.false_or, Bool.or_true, Bool.true_or, Bool.and_false, Bool.and_true, Bool.false_and, Bool.true_and, Bool.not_true, Bool.not_false, List.getElem?_cons_zero, List.getElem?_cons_succ, List.set_cons_zero, List.set_cons_succ, List.map_cons, List.map_nil, List.replicate_succ, List.replicate_zero, List.cons_append, List.nil_append, Nat.sub_self, asStrs_map, hd, e4]
        refine ⟨by omega, vq_seq hs fun chk hc => comp_map (g := fun z => match seqOf st z with
          | some ds => .tup ds
          | _ => .non) hc big (fun z hz Q q => ?_) ?_⟩
        · obtain ⟨p, hp1, hp2⟩ := paired_mem hp z hz
          have hp2 : seqOf st z = some [.str p.1, .int p.2] := hp2
          simp only [hp2] at q
          rcases seq_cases hp2 with hz | hz <;> (simp only [ws_cons, ws_nil, ws_asg, ws_sub, ws_expr, ws_ret, ws_retn, ws_iff, ws_for, ws_raise, ws_pass, ws_brk, ws_cnt, ws_aug, we_slot, we_const, we_bin, we_neg, we_cmp, we_chain, we_and, we_or, we_not, we_ite, we_tup, we_lst, we_idx, we_slc, we_comp, we_call, we_bi, we_me, we_isi, we_nil, we_cons, wo_none, wo_some, wt_none, wt_some, wr_val, wr_rng1, wr_rng2, slotQ_val, slotQ_own, negQ_int, notQ_bl, blQ_bl, augQ_int, bc_t, bc_f, dr_d, dr_tmp, dr_brw, brwQ_own, brwQ_val, oq_some, dd_int, dd_str, dd_bl, dd_non, dd_tup, dd_lst, dd_scr, esc_d, esc_tf, esc_tt, escs_nil, escs_cons, drs_nil, drs_cons, asgR_d, asgR_t, asgT_n, outR_d, outR_t, op_add, op_addS, op_addT, op_addL, op_sub, op_mul, op_mulL, op_fdiv, op_mod, op_pow, cm_eq, cm_ne, eq_int, eq_str, eq_bl, eq_non, cm_lt, cm_le, cm_gt, cm_ge, cm_in, cm_notin, cm_is, cm_isnot, ix_lst, ix_scr, ix_tup, ix_str, at_0, at_1, at_2, at_3, sl_tup, sl_lst, sl_scr, bi_lenL, bi_lenR, bi_lenT, bi_lenS, bi_abs, bi_max, bi_min, bi_intI, bi_intB, bi_listL, bi_listT, bi_listR, bi_tupL, bi_tupT, bi_all, bi_any, bi_sum, bi_lenset, bi_repr, au_add, au_sub, ixL0, ixL1, ixL2, esc_b, escQ_f, escQ_t, escQ_v, outR_b, outQ_o, outQ_v, modL_b, modQ_o, vq_tmp, vq_tup, vq_lst, vq_scr, vq_str, vq_b, vQ_o, asgR_b, List.length_map, me_app, me_appB, mt_app, mt_pop0, mt_pop1, mt_ins, mt_clear, mt_rev, mt_join, ws_cell, cellQ_o, cellQ_v, mt_index, mt_count, me_index, me_count, me_join, strLst_i, me_clear, me_rev, me_pop1, me_ins, true_and, isTys, isTy, tyN, Option.map_some, String.reduceBEq, Bool.or_false, Bool.false_or, Bool.or_true, Bool.true_or, Bool.and_false, Bool.and_true, Bool.false_and, Bool.true_and, Bool.not_true, Bool.not_false, List.getElem?_cons_zero, List.getElem?_cons_succ, List.set_cons_zero, List.set_cons_succ, List.map_cons, List.map_nil, List.replicate_succ, List.replicate_zero, List.cons_append, List.nil_append, Nat.sub_self, hz] at q ⊢; exact ⟨by show 2 ≤ sizeLine; decide, q⟩)
        · rw [m3]
          simp only [ws_cons, ws_nil, ws_asg, ws_sub, ws_expr, ws_ret, ws_retn, ws_iff, ws_for, ws_raise, ws_pass, ws_brk, ws_cnt, ws_aug, we_slot, we_const, we_bin, we_neg, we_cmp, we_chain, we_and, we_or, we_not, we_ite, we_tup, we_lst, we_idx, we_slc, we_comp, we_call, we_bi, we_me, we_isi, we_nil, we_cons, wo_none, wo_some, wt_none, wt_some, wr_val, wr_rng1, wr_rng2, slotQ_val, slotQ_own, negQ_int, notQ_bl, blQ_bl, augQ_int, bc_t, bc_f, dr_d, dr_tmp, dr_brw, brwQ_own, brwQ_val, oq_some, dd_int, dd_str, dd_bl, dd_non, dd_tup, dd_lst, dd_scr, esc_d, esc_tf, esc_tt, escs_nil, escs_cons, drs_nil, drs_cons, asgR_d, asgR_t, asgT_n, outR_d, outR_t, op_add, op_addS, op_addT, op_addL, op_sub, op_mul, op_mulL, op_fdiv, op_mod, op_pow, cm_eq, cm_ne, eq_int, eq_str, eq_bl, eq_non, cm_lt, cm_le, cm_gt, cm_ge, cm_in, cm_notin, cm_is, cm_isnot, ix_lst, ix_scr, ix_tup, ix_str, at_0, at_1, at_2, at_3, sl_tup, sl_lst, sl_scr, bi_lenL, bi_lenR, bi_lenT, bi_lenS, bi_abs, bi_max, bi_min, bi_intI, bi_intB, bi_listL, bi_listT, bi_listR, bi_tupL, bi_tupT, bi_all, bi_any, bi_sum, bi_lenset, bi_repr, au_add, au_sub, ixL0, ixL1, ixL2, esc_b, escQ_f, escQ_t, escQ_v, outR_b, outQ_o, outQ_v, modL_b, modQ_o, vq_tmp, vq_tup, vq_lst, vq_scr, vq_str, vq_b, vQ_o, asgR_b, List.length_map, me_app, me_appB, mt_app, mt_pop0, mt_pop1, mt_ins, mt_clear, mt_rev, mt_join, ws_cell, cellQ_o, cellQ_v, mt_index, mt_count, me_index, me_count, me_join, strLst_i, me_clear, me_rev, me_pop1, me_ins, true_and, isTys, isTy, tyN, Option.map_some, String.reduceBEq, Bool.or_false, Bool.false_or, Bool.or_true, Bool.true_or, Bool.and_false, Bool.and_true, Bool.false_and, Bool.true_and, Bool.not_true, Bool.not_false, List.getElem?_cons_zero, List.getElem?_cons_succ, List.set_cons_zero, List.set_cons_succ, List.map_cons, List.map_nil, List.replicate_succ, List.replicate_zero, List.cons_append, List.nil_append, Nat.sub_self]
          exact q
/-- one step -/
def slide : Deck → Deck
  | [] => []
  | c :: r => r.take (min c.2 r.length).toNat ++ c :: r.drop (min c.2 r.length).toNat
theorem min_len {c : Str × Int} {r : Deck} : min c.2 (((c :: r).map cardD).length - 1 : Int) = min c.2 (r.length : Int) := by
  rw [List.length_map, List.length_cons]
  congr 1
  omega
theorem reach_of_ok (P : Prog1 T) (hk : 1 ≤ k) {l : Deck} {c : Str × Int} (q : Q (.d (.int (min c.2 ((l.map cardD).length - 1 : Int)))) st) : wpC T k "reach_of" [deckD l, cardD c] st Q E := by
  obtain ⟨k, rfl⟩ : ∃ j, k = j + 1 := ⟨k - 1, by omega⟩
  refine wpC_of P.reach_of rfl ?_
  simp only [d_reach_of, deckD, cardD, ws_cons, ws_nil, ws_asg, ws_sub, ws_expr, ws_ret, ws_retn, ws_iff, ws_for, ws_raise, ws_pass, ws_brk, ws_cnt, ws_aug, we_slot, we_const, we_bin, we_neg, we_cmp, we_chain, we_and, we_or, we_not, we_ite, we_tup, we_lst, we_idx, we_slc, we_comp, we_call, we_bi, we_me, we_isi, we_nil, we_cons, wo_none, wo_some, wt_none, wt_some, wr_val, wr_rng1, wr_rng2, slotQ_val, slotQ_own, negQ_int, notQ_bl, blQ_bl, augQ_int, bc_t, bc_f, dr_d, dr_tmp, dr_brw, brwQ_own, brwQ_val, oq_some, dd_int, dd_str, dd_bl, dd_non, dd_tup, dd_lst, dd_scr, esc_d, esc_tf, esc_tt, escs_nil, escs_cons, drs_nil, drs_cons, asgR_d, asgR_t, asgT_n, outR_d, outR_t, op_add, op_addS, op_addT, op_addL, op_sub, op_mul, op_mulL, op_fdiv, op_mod, op_pow, cm_eq, cm_ne, eq_int, eq_str, eq_bl, eq_non, cm_lt, cm_le, cm_gt, cm_ge, cm_in, cm_notin, cm_is, cm_isnot, ix_lst, ix_scr, ix_tup, ix_str, at_0, at_1, at_2, at_3, sl_tup, sl_lst, sl_scr, bi_lenL, bi_lenR, bi_lenT, bi_lenS, bi_abs, bi_max, bi_min, bi_intI, bi_intB, bi_listL, bi_listT, bi_listR, bi_tupL, bi_tupT, bi_all, bi_any, bi_sum, bi_lenset, bi_repr, au_add, au_sub, ixL0, ixL1, ixL2, esc_b, escQ_f, escQ_t, escQ_v, outR_b, outQ_o, outQ_v, modL_b, modQ_o, vq_tmp, vq_tup, vq_lst, vq_scr, vq_str, vq_b, vQ_o, asgR_b, List.length_map, me_app, me_appB, mt_app, mt_pop0, mt_pop1, mt_ins, mt_clear, mt_rev, mt_join, ws_cell, cellQ_o, cellQ_v, mt_index, mt_count, me_index, me_count, me_join, strLst_i, me_clear, me_rev, me_pop1, me_ins, true_and, isTys, isTy, tyN, Option.map_some, String.reduceBEq, Bool.or_false, Bool.false_or, Bool.or_true, Bool.true_or, Bool.and_false, Bool.and_true, Bool.false_and, Bool.true_and, Bool.not_true, Bool.not_false, List.getElem?_cons_zero, List.getElem?_cons_succ, List.set_cons_zero, List.set_cons_succ, List.map_cons, List.map_nil, List.replicate_succ, List.replicate_zero, List.cons_append, List.nil_append, Nat.sub_self] at q ⊢
  exact q
theorem slid_back_ok (P : Prog1 T) (hk : 2 ≤ k) {l : Deck} (hl : DeckOk l) (q : Q (.d (deckD (slide l))) st) : wpC T k "slid_back" [deckD l] st Q E := by
  obtain ⟨k, rfl⟩ : ∃ j, k = j + 1 := ⟨k - 1, by omega⟩
  have l40 := hl.l40
  cases l with
  | nil => exact absurd hl.l1 (by decide)
  | cons c r =>
    have c0 := (hl.dp c List.mem_cons_self).1
    refine wpC_of P.slid_back rfl ?_
    simp only [d_slid_back, deckD, ws_cons, ws_nil, ws_asg, ws_sub, ws_expr, ws_ret, ws_retn, ws_iff, ws_for, ws_raise, ws_pass, ws_brk, ws_cnt, ws_aug, we_slot, we_const, we_bin, we_neg, we_cmp, we_chain, we_and, we_or, we_not, we_ite, we_tup, we_lst, we_idx, we_slc, we_comp, we_call, we_bi, we_me, we_isi, we_nil, we_cons, wo_none, wo_some, wt_none, wt_some, wr_val, wr_rng1, wr_rng2, slotQ_val, slotQ_own, negQ_int, notQ_bl, blQ_bl, augQ_int, bc_t, bc_f, dr_d, dr_tmp, dr_brw, brwQ_own, brwQ_val, oq_some, dd_int, dd_str, dd_bl, dd_non, dd_tup, dd_lst, dd_scr, esc_d, esc_tf, esc_tt, escs_nil, escs_cons, drs_nil, drs_cons, asgR_d, asgR_t, asgT_n, outR_d, outR_t, op_add, op_addS, op_addT, op_addL, op_sub, op_mul, op_mulL, op_fdiv, op_mod, op_pow, cm_eq, cm_ne, eq_int, eq_str, eq_bl, eq_non, cm_lt, cm_le, cm_gt, cm_ge, cm_in, cm_notin, cm_is, cm_isnot, ix_lst, ix_scr, ix_tup, ix_str, at_0, at_1, at_2, at_3, sl_tup, sl_lst, sl_scr, bi_lenL, bi_lenR, bi_lenT, bi_lenS, bi_abs, bi_max, bi_min, bi_intI, bi_intB, bi_listL, bi_listT, bi_listR, bi_tupL, bi_tupT, bi_all, bi_any, bi_sum, bi_lenset, bi_repr, au_add, au_sub, ixL0, ixL1, ixL2, esc_b, escQ_f, escQ_t, escQ_v, outR_b, outQ_o, outQ_v, modL_b, modQ_o, vq_tmp, vq_tup, vq_lst, vq_scr, vq_str, vq_b, vQ_o, asgR_b, List.length_map, me_app, me_appB, mt_app, mt_pop0, mt_pop1, mt_ins, mt_clear, mt_rev, mt_join, ws_cell, cellQ_o, cellQ_v, mt_index, mt_count, me_index, me_count, me_join, strLst_i, me_clear, me_rev, me_pop1, me_ins, true_and, isTys, isTy, tyN, Option.map_some, String.reduceBEq, Bool.or_false, Bool.false_or, Bool.or_true, Bool.true_or, Bool.and_false, Bool.and_true, Bool.false_and, Bool.true_and, Bool.not_true, Bool.not_false, List.getElem?_cons_zero, List.getElem?_cons_succ, List.set_cons_zero, List.set_cons_succ, List.map_cons, List.map_nil, List.replicate_succ, List.replicate_zero, List.cons_append, List.nil_append, Nat.sub_self]
    refine reach_of_ok (l := c :: r) P (by omega) ?_
    rw [min_len]
    obtain ⟨n, hn⟩ : ∃ n : Nat, min c.2 (r.length : Int) = n := ⟨(min c.2 (r.length : Int)).toNat, by omega⟩
    have hn2 : n ≤ r.length := by omega
    have e1 : ∀ xs : List D, cutD xs (some 1) (some ((n : Int) + 1)) = (xs.take (n + 1)).drop 1 := fun xs => by
      rw [show (1 : Int) = ((1 : Nat) : Int) from rfl, show ((n : Int) + ((1 : Nat) : Int)) = ((n + 1 : Nat) : Int) by omega, cut_mid (by omega)]
    have e2 : ∀ xs : List D, cutD xs none (some 1) = xs.take 1 := fun xs => by rw [show (1 : Int) = ((1 : Nat) : Int) from rfl, cut_to]
    have e3 : ∀ xs : List D, cutD xs (some ((n : Int) + 1)) none = xs.drop (n + 1) := fun xs => by
      rw [show ((n : Int) + 1) = ((n + 1 : Nat) : Int) by omega, cut_from]
    rw [hn]
    simp only [ws_cons, ws_nil, ws_asg, ws_sub, ws_expr, ws_ret, ws_retn, ws_iff, ws_for, ws_raise, ws_pass, ws_brk, ws_cnt, ws_aug, we_slot, we_const, we_bin, we_neg, we_cmp, we_chain, we_and, we_or, we_not, we_ite, we_tup, we_lst, we_idx, we_slc, we_comp, we_call, we_bi, we_me, we_isi, we_nil, we_cons, wo_none, wo_some, wt_none, wt_some, wr_val, wr_rng1, wr_rng2, slotQ_val, slotQ_own, negQ_int, notQ_bl, blQ_bl, augQ_int, bc_t, bc_f, dr_d, dr_tmp, dr_brw, brwQ_own, brwQ_val, oq_some, dd_int, dd_str, dd_bl, dd_non, dd_tup, dd_lst, dd_scr, esc_d, esc_tf, esc_tt, escs_nil, escs_cons, drs_nil, drs_cons, asgR_d, asgR_t, asgT_n, outR_d, outR_t, op_add, op_addS, op_addT, op_addL, op_sub, op_mul, op_mulL, op_fdiv, op_mod, op_pow, cm_eq, cm_ne, eq_int, eq_str, eq_bl, eq_non, cm_lt, cm_le, cm_gt, cm_ge, cm_in, cm_notin, cm_is, cm_isnot, ix_lst, ix_scr, ix_tup, ix_str, at_0, at_1, at_2, at_3, sl_tup, sl_lst, sl_scr, bi_lenL, bi_lenR, bi_lenT, bi_lenS, bi_abs, bi_max, bi_min, bi_intI, bi_intB, bi_listL, bi_listT, bi_listR, bi_tupL, bi_tupT, bi_all, bi_any, bi_sum, bi_lenset, bi_repr, au_add, au_sub, ixL0, ixL1, ixL2, esc_b, escQ_f, escQ_t, escQ_v, outR_b, outQ_o, outQ_v, modL_b, modQ_o, vq_tmp, vq_tup, vq_lst, vq_scr, vq_str, vq_b, vQ_o, asgR_b, List.length_map, me_app, me_appB, mt_app, mt_pop0, mt_pop1, mt_ins, mt_clear, mt_rev, mt_join, ws_cell, cellQ_o, cellQ_v, mt_index, mt_count, me_index, me_count, me_join, strLst_i, me_clear, me_rev, me_pop1, me_ins, true_and, isTys, isTy, tyN, Option.map_some, String.reduceBEq, Bool.or_false, Bool.false_or, Bool.or_true, Bool.true_or, Bool.and_false, Bool.and_true, Bool.false_and, Bool.true_and, Bool.not_true, Bool.not_false, List.getElem?_cons_zero, List.getElem?_cons_succ, List.set_cons_zero, List.set_cons_succ, List.map_cons, List.map_nil, List.replicate_succ, List.replicate_zero, List.cons_append, List.nil_append, Nat.sub_self, e1, e2, e3]
    rw [List.length_cons] at l40
    have hs : slide (c :: r) = r.take n ++ c :: r.drop n := by
      show r.take (min c.2 (r.length : Int)).toNat ++ c :: r.drop (min c.2 (r.length : Int)).toNat = _
      rw [hn]
      rfl
    simp only [hs, deckD] at q
    simp only [List.take_succ_cons, List.drop_succ_cons, List.take_zero, List.drop_zero]
    refine ⟨by simp; rw [sizeLine_eq]; omega, by simp; rw [sizeLine_eq]; omega, ?_⟩
    rw [List.append_assoc, ← List.map_take, ← List.map_drop]
    simpa using q
theorem slid_ok (P : Prog1 T) (hk : 4 ≤ k) {x : D} {l : Deck} (h : DeckR st x l) (hl : DeckOk l) (q : Q (.d (deckD (slide l))) st) : wpC T k "slid" [x] st Q E := by
  obtain ⟨k, rfl⟩ : ∃ j, k = j + 1 := ⟨k - 1, by omega⟩
  refine wpC_of P.slid rfl ?_
  simp only [d_slid, ws_cons, ws_nil, ws_asg, ws_sub, ws_expr, ws_ret, ws_retn, ws_iff, ws_for, ws_raise, ws_pass, ws_brk, ws_cnt, ws_aug, we_slot, we_const, we_bin, we_neg, we_cmp, we_chain, we_and, we_or, we_not, we_ite, we_tup, we_lst, we_idx, we_slc, we_comp, we_call, we_bi, we_me, we_isi, we_nil, we_cons, wo_none, wo_some, wt_none, wt_some, wr_val, wr_rng1, wr_rng2, slotQ_val, slotQ_own, negQ_int, notQ_bl, blQ_bl, augQ_int, bc_t, bc_f, dr_d, dr_tmp, dr_brw, brwQ_own, brwQ_val, oq_some, dd_int, dd_str, dd_bl, dd_non, dd_tup, dd_lst, dd_scr, esc_d, esc_tf, esc_tt, escs_nil, escs_cons, drs_nil, drs_cons, asgR_d, asgR_t, asgT_n, outR_d, outR_t, op_add, op_addS, op_addT, op_addL, op_sub, op_mul, op_mulL, op_fdiv, op_mod, op_pow, cm_eq, cm_ne, eq_int, eq_str, eq_bl, eq_non, cm_lt, cm_le, cm_gt, cm_ge, cm_in, cm_notin, cm_is, cm_isnot, ix_lst, ix_scr, ix_tup, ix_str, at_0, at_1, at_2, at_3, sl_tup, sl_lst, sl_scr, bi_lenL, bi_lenR, bi_lenT, bi_lenS, bi_abs, bi_max, bi_min, bi_intI, bi_intB, bi_listL, bi_listT, bi_listR, bi_tupL, bi_tupT, bi_all, bi_any, bi_sum, bi_lenset, bi_repr, au_add, au_sub, ixL0, ixL1, ixL2, esc_b, escQ_f, escQ_t, escQ_v, outR_b, outQ_o, outQ_v, modL_b, modQ_o, vq_tmp, vq_tup, vq_lst, vq_scr, vq_str, vq_b, vQ_o, asgR_b, List.length_map, me_app, me_appB, mt_app, mt_pop0, mt_pop1, mt_ins, mt_clear, mt_rev, mt_join, ws_cell, cellQ_o, cellQ_v, mt_index, mt_count, me_index, me_count, me_join, strLst_i, me_clear, me_rev, me_pop1, me_ins, true_and, isTys, isTy, tyN, Option.map_some, String.reduceBEq, Bool.or_false, Bool.false_or, Bool.or_true, Bool.true_or, Bool.and_false, Bool.and_true, Bool.false_and, Bool.true_and, Bool.not_true, Bool.not_false, List.getElem?_cons_zero, List.getElem?_cons_succ, List.set_cons_zero, List.set_cons_succ, List.map_cons, List.map_nil, List.replicate_succ, List.replicate_zero, List.cons_append, List.nil_append, Nat.sub_self]
  refine deck_of_ok P.toProg0 (by omega) h hl ?_
  simp only [ws_cons, ws_nil, ws_asg, ws_sub, ws_expr, ws_ret, ws_retn, ws_iff, ws_for, ws_raise, ws_pass, ws_brk, ws_cnt, ws_aug, we_slot, we_const, we_bin, we_neg, we_cmp, we_chain, we_and, we_or, we_not, we_ite, we_tup, we_lst, we_idx, we_slc, we_comp, we_call, we_bi, we_me, we_isi, we_nil, we_cons, wo_none, wo_some, wt_none, wt_some, wr_val, wr_rng1, wr_rng2, slotQ_val, slotQ_own, negQ_int, notQ_bl, blQ_bl, augQ_int, bc_t, bc_f, dr_d, dr_tmp, dr_brw, brwQ_own, brwQ_val, oq_some, dd_int, dd_str, dd_bl, dd_non, dd_tup, dd_lst, dd_scr, esc_d, esc_tf, esc_tt, escs_nil, escs_cons, drs_nil, drs_cons, asgR_d, asgR_t, asgT_n, outR_d, outR_t, op_add, op_addS, op_addT, op_addL, op_sub, op_mul, op_mulL, op_fdiv, op_mod, op_pow, cm_eq, cm_ne, eq_int, eq_str, eq_bl, eq_non, cm_lt, cm_le, cm_gt, cm_ge, cm_in, cm_notin, cm_is, cm_isnot, ix_lst, ix_scr, ix_tup, ix_str, at_0, at_1, at_2, at_3, sl_tup, sl_lst, sl_scr, bi_lenL, bi_lenR, bi_lenT, bi_lenS, bi_abs, bi_max, bi_min, bi_intI, bi_intB, bi_listL, bi_listT, bi_listR, bi_tupL, bi_tupT, bi_all, bi_any, bi_sum, bi_lenset, bi_repr, au_add, au_sub, ixL0, ixL1, ixL2, esc_b, escQ_f, escQ_t, escQ_v, outR_b, outQ_o, outQ_v, modL_b, modQ_o, vq_tmp, vq_tup, vq_lst, vq_scr, vq_str, vq_b, vQ_o, asgR_b, List.length_map, me_app, me_appB, mt_app, mt_pop0, mt_pop1, mt_ins, mt_clear, mt_rev, mt_join, ws_cell, cellQ_o, cellQ_v, mt_index, mt_count, me_index, me_count, me_join, strLst_i, me_clear, me_rev, me_pop1, me_ins, true_and, isTys, isTy, tyN, Option.map_some, String.reduceBEq, Bool.or_false, Bool.false_or, Bool.or_true, Bool.true_or, Bool.and_false, Bool.and_true, Bool.false_and, Bool.true_and, Bool.not_true, Bool.not_false, List.getElem?_cons_zero, List.getElem?_cons_succ, List.set_cons_zero, List.set_cons_succ, List.map_cons, List.map_nil, List.replicate_succ, List.replicate_zero, List.cons_append, List.nil_append, Nat.sub_self]
  exact slid_back_ok P (by omega) hl q
theorem slide_perm : ∀ l : Deck, (slide l).Perm l
  | [] => .refl _
  | c :: r => by
    unfold slide
    refine List.perm_middle.trans (.cons _ ?_)
    rw [List.take_append_drop]
theorem DeckOk.slide {l : Deck} (h : DeckOk l) : DeckOk (slide l) := by
  have p := slide_perm l
  exact ⟨by rw [p.length_eq]; exact h.l1, by rw [p.length_eq]; exact h.l40, fun q hq => h.nm q (p.mem_iff.mp hq), (p.map _).nodup_iff.mpr h.nd, fun q hq => h.dp q (p.mem_iff.mp hq)⟩
end LW
set_option maxHeartbeats 4000000
namespace LW
open PySem PI
variable {T : Tab} {k : Nat} {st : PSto} {Q : R → PSto → Prop} {E : Exn → PSto → Prop}

/-! ### the law's own step -/
structure Law0 (T : Tab) : Prop where
  draw : T.fn "_law_draw" = some d__law_draw
  names : T.fn "_law_names" = some d__law_names
  deck : T.fn "_law_deck" = some d__law_deck
  lists : T.fn "_law_lists" = some d__law_lists
  handed : T.fn "_law_handed" = some d__law_handed
  same : T.fn "_law_same" = some d__law_same
  spring : T.fn "_law_spring" = some d__law_spring
structure Law1 (T : Tab) : Prop extends Law0 T where
  reach : T.fn "_law_reach" = some d__law_reach
  step : T.fn "_law_step" = some d__law_step
theorem step_ok (L : Law1 T) (hk : 2 ≤ k) {l : Deck} (hl : DeckOk l) (q : Q (.d (deckD (slide l))) st) : wpC T k "_law_step" [deckD l] st Q E := by
  obtain ⟨k, rfl⟩ : ∃ j, k = j + 1 := ⟨k - 1, by omega⟩
  have l40 := hl.l40
  cases l with
  | nil => exact absurd hl.l1 (by decide)
  | cons c r =>
    have c0 := (hl.dp c List.mem_cons_self).1
    refine wpC_of L.step rfl ?_
    simp only [d__law_step, deckD, ws_cons, ws_nil, ws_asg, ws_sub, ws_expr, ws_ret, ws_retn, ws_iff, ws_for, ws_raise, ws_pass, ws_brk, ws_cnt, ws_aug, we_slot, we_const, we_bin, we_neg, we_cmp, we_chain, we_and, we_or, we_not, we_ite, we_tup, we_lst, we_idx, we_slc, we_comp, we_call, we_bi, we_me, we_isi, we_nil, we_cons, wo_none, wo_some, wt_none, wt_some, wr_val, wr_rng1, wr_rng2, slotQ_val, slotQ_own, negQ_int, notQ_bl, blQ_bl, augQ_int, bc_t, bc_f, dr_d, dr_tmp, dr_brw, brwQ_own, brwQ_val, oq_some, dd_int, dd_str, dd_bl, dd_non, dd_tup, dd_lst, dd_scr, esc_d, esc_tf, esc_tt, escs_nil, escs_cons, drs_nil, drs_cons, asgR_d, asgR_t, asgT_n, outR_d, outR_t, op_add, op_addS, op_addT, op_addL, op_sub, op_mul, op_mulL, op_fdiv, op_mod, op_pow, cm_eq, cm_ne, eq_int, eq_str, eq_bl, eq_non, cm_lt, cm_le, cm_gt, cm_ge, cm_in, cm_notin, cm_is, cm_isnot, ix_lst, ix_scr, ix_tup, ix_str, at_0, at_1, at_2, at_3, sl_tup, sl_lst, sl_scr, bi_lenL, bi_lenR, bi_lenT, bi_lenS, bi_abs, bi_max, bi_min, bi_intI, bi_intB, bi_listL, bi_listT, bi_listR, bi_tupL, bi_tupT, bi_all, bi_any, bi_sum, bi_lenset, bi_repr, au_add, au_sub, ixL0, ixL1, ixL2, esc_b, escQ_f, escQ_t, escQ_v, outR_b, outQ_o, outQ_v, modL_b, modQ_o, vq_tmp, vq_tup, vq_lst, vq_scr, vq_str, vq_b, vQ_o, asgR_b, List.length_map, me_app, me_appB, mt_app, mt_pop0, mt_pop1, mt_ins, mt_clear, mt_rev, mt_join, ws_cell, cellQ_o, cellQ_v, mt_index, mt_count, me_index, me_count, me_join, strLst_i, me_clear, me_rev, me_pop1, me_ins, true_and, isTys, isTy, tyN, Option.map_some, String.reduceBEq, Bool.or_false, Bool.false_or, Bool.or_true, Bool.true_or, Bool.and_false, Bool.and_true, Bool.false_and, Bool.true_and, Bool.not_true, Bool.not_false, List.getElem?_cons_zero, List.getElem?_cons_succ, List.set_cons_zero, List.set_cons_succ, List.map_cons, List.map_nil, List.replicate_succ, List.replicate_zero, List.cons_append, List.nil_append, Nat.sub_self, List.eraseIdx_cons_zero]
    refine ⟨by decide, ?_⟩
    obtain ⟨k, rfl⟩ : ∃ j, k = j + 1 := ⟨k - 1, by omega⟩
    refine wpC_of L.reach rfl ?_
    simp only [d__law_reach, ws_cons, ws_nil, ws_asg, ws_sub, ws_expr, ws_ret, ws_retn, ws_iff, ws_for, ws_raise, ws_pass, ws_brk, ws_cnt, ws_aug, we_slot, we_const, we_bin, we_neg, we_cmp, we_chain, we_and, we_or, we_not, we_ite, we_tup, we_lst, we_idx, we_slc, we_comp, we_call, we_bi, we_me, we_isi, we_nil, we_cons, wo_none, wo_some, wt_none, wt_some, wr_val, wr_rng1, wr_rng2, slotQ_val, slotQ_own, negQ_int, notQ_bl, blQ_bl, augQ_int, bc_t, bc_f, dr_d, dr_tmp, dr_brw, brwQ_own, brwQ_val, oq_some, dd_int, dd_str, dd_bl, dd_non, dd_tup, dd_lst, dd_scr, esc_d, esc_tf, esc_tt, escs_nil, escs_cons, drs_nil, drs_cons, asgR_d, asgR_t, asgT_n, outR_d, outR_t, op_add, op_addS, op_addT, op_addL, op_sub, op_mul, op_mulL, op_fdiv, op_mod, op_pow, cm_eq, cm_ne, eq_int, eq_str, eq_bl, eq_non, cm_lt, cm_le, cm_gt, cm_ge, cm_in, cm_notin, cm_is, cm_isnot, ix_lst, ix_scr, ix_tup, ix_str, at_0, at_1, at_2, at_3, sl_tup, sl_lst, sl_scr, bi_lenL, bi_lenR, bi_lenT, bi_lenS, bi_abs, bi_max, bi_min, bi_intI, bi_intB, bi_listL, bi_listT, bi_listR, bi_tupL, bi_tupT, bi_all, bi_any, bi_sum, bi_lenset, bi_repr, au_add, au_sub, ixL0, ixL1, ixL2, esc_b, escQ_f, escQ_t, escQ_v, outR_b, outQ_o, outQ_v, modL_b, modQ_o, vq_tmp, vq_tup, vq_lst, vq_scr, vq_str, vq_b, vQ_o, asgR_b, List.length_map, me_app, me_appB, mt_app, mt_pop0, mt_pop1, mt_ins, mt_clear, mt_rev, mt_join, ws_cell, cellQ_o, cellQ_v, mt_index, mt_count, me_index, me_count, me_join, strLst_i, me_clear, me_rev, me_pop1, me_ins, true_and, isTys, isTy, tyN, Option.map_some, String.reduceBEq, Bool.or_false, Bool.false_or, Bool.or_true, Bool.true_or, Bool.and_false, Bool.and_true, Bool.false_and, Bool.true_and, Bool.not_true, Bool.not_false, List.getElem?_cons_zero, List.getElem?_cons_succ, List.set_cons_zero, List.set_cons_succ, List.map_cons, List.map_nil, List.replicate_succ, List.replicate_zero, List.cons_append, List.nil_append, Nat.sub_self]
    simp only [cardD, ws_cons, ws_nil, ws_asg, ws_sub, ws_expr, ws_ret, ws_retn, ws_iff, ws_for, ws_raise, ws_pass, ws_brk, ws_cnt, ws_aug, we_slot, we_const, we_bin, we_neg, we_cmp, we_chain, we_and, we_or, we_not, we_ite, we_tup, we_lst, we_idx, we_slc, we_comp, we_call, we_bi, we_me, we_isi, we_nil, we_cons, wo_none, wo_some, wt_none, wt_some, wr_val, wr_rng1, wr_rng2, slotQ_val, slotQ_own, negQ_int, notQ_bl, blQ_bl, augQ_int, bc_t, bc_f, dr_d, dr_tmp, dr_brw, brwQ_own, brwQ_val, oq_some, dd_int, dd_str, dd_bl, dd_non, dd_tup, dd_lst, dd_scr, esc_d, esc_tf, esc_tt, escs_nil, escs_cons, drs_nil, drs_cons, asgR_d, asgR_t, asgT_n, outR_d, outR_t, op_add, op_addS, op_addT, op_addL, op_sub, op_mul, op_mulL, op_fdiv, op_mod, op_pow, cm_eq, cm_ne, eq_int, eq_str, eq_bl, eq_non, cm_lt, cm_le, cm_gt, cm_ge, cm_in, cm_notin, cm_is, cm_isnot, ix_lst, ix_scr, ix_tup, ix_str, at_0, at_1, at_2, at_3, sl_tup, sl_lst, sl_scr, bi_lenL, bi_lenR, bi_lenT, bi_lenS, bi_abs, bi_max, bi_min, bi_intI, bi_intB, bi_listL, bi_listT, bi_listR, bi_tupL, bi_tupT, bi_all, bi_any, bi_sum, bi_lenset, bi_repr, au_add, au_sub, ixL0, ixL1, ixL2, esc_b, escQ_f, escQ_t, escQ_v, outR_b, outQ_o, outQ_v, modL_b, modQ_o, vq_tmp, vq_tup, vq_lst, vq_scr, vq_str, vq_b, vQ_o, asgR_b, List.length_map, me_app, me_appB, mt_app, mt_pop0, mt_pop1, mt_ins, mt_clear, mt_rev, mt_join, ws_cell, cellQ_o, cellQ_v, mt_index, mt_count, me_index, me_count, me_join, strLst_i, me_clear, me_rev, me_pop1, me_ins, true_and, isTys, isTy, tyN, Option.map_some, String.reduceBEq, Bool.or_false, Bool.false_or, Bool.or_true, Bool.true_or, Bool.and_false, Bool.and_true, Bool.false_and, Bool.true_and, Bool.not_true, Bool.not_false, List.getElem?_cons_zero, List.getElem?_cons_succ, List.set_cons_zero, List.set_cons_succ, List.map_cons, List.map_nil, List.replicate_succ, List.replicate_zero, List.cons_append, List.nil_append, Nat.sub_self]
    have em : min c.2 (((D.tup [D.str c.1, D.int c.2] :: List.map cardD r).length : Nat) - 1 : Int) = min c.2 (r.length : Int) := by
      rw [List.length_cons, List.length_map]
      congr 1
      omega
    rw [List.length_cons] at l40
    rw [em]
    refine ⟨by rw [sizeLine_eq]; omega, by omega, by omega, ?_⟩
    rw [← List.map_take, ← List.map_drop]
    have hs : deckD (slide (c :: r)) = .tup (List.map cardD (r.take (min c.2 (r.length : Int)).toNat) ++ cardD c :: List.map cardD (r.drop (min c.2 (r.length : Int)).toNat)) := by
      show D.tup (List.map cardD (_ ++ c :: _)) = _
      rw [List.map_append, List.map_cons]
    rw [hs] at q
    exact q

/-! ### stores that grow -/
/-- all but the cell r is as it was -/
def Old (r : Nat) (st st' : PSto) : Prop := ∀ i c, i ≠ r → st[i]? = some c → st'[i]? = some c
theorem Old.refl {r : Nat} {st : PSto} : Old r st st := fun _ _ _ h => h
theorem Old.trans {r : Nat} {a b c : PSto} (h : Old r a b) (g : Old r b c) : Old r a c := fun i x n e => g i x n (h i x n e)
theorem Old.set {r : Nat} {st : PSto} {c : Cell} : Old r st (st.set r c) := fun i x n e => by rw [List.getElem?_set_ne (Ne.symm n)]; exact e
theorem Old.app {r : Nat} {st cs : PSto} : Old r st (st ++ cs) := fun i x n e => by rw [List.getElem?_append_left (List.getElem?_eq_some_iff.mp e).1]; exact e
theorem Spr.app {c r : Nat} {st cs : PSto} (h : Spr c r st) : Spr c r (st ++ cs) := by
  obtain ⟨F, S, N, h1, h2⟩ := h.ex
  exact ⟨F, S, N, by rw [List.getElem?_append_left (List.getElem?_eq_some_iff.mp h1).1]; exact h1, h2⟩
theorem Spr.not {c r : Nat} {st : PSto} (h : Spr c r st) {x : D} {p : Str × Int} (hx : CardR st x p) : x ≠ .ref r := fun z => by
  subst z
  obtain ⟨F, S, N, h1, h2⟩ := h.ex
  have : seqOf st (.ref r) = some [.int F, .int S, .int N] := by
    unfold seqOf
    rw [dd_ref h1]
  have hx : seqOf st (.ref r) = some [.str p.1, .int p.2] := hx
  rw [this] at hx
  cases hx
theorem seqOf_old {r : Nat} {st st' : PSto} (o : Old r st st') {x : D} {ds : List D} (hn : x ≠ .ref r) (h : seqOf st x = some ds) : seqOf st' x = some ds := by
  cases x with
  | ref i =>
    have hi : i ≠ r := fun z => hn (by rw [z])
    rcases seq_cases h with hd | hd
    · unfold derefD refD at hd
      cases e : st[i]? with
      | none => simp [e] at hd
      | some c => cases c <;> simp [e] at hd
    · have hs : st[i]? = some (.lst ds) := by
        unfold derefD refD at hd
        cases e : st[i]? with
        | none => simp [e] at hd
        | some c =>
          cases c with
          | lst es => simp [e] at hd; rw [hd]
          | ins c fs => simp [e] at hd
      unfold seqOf
      rw [dd_ref (o i _ hi hs)]
  | _ => exact h
theorem CardR.old {c r : Nat} {st st' : PSto} (s : Spr c r st) (o : Old r st st') {x : D} {p : Str × Int} (h : CardR st x p) : CardR st' x p := seqOf_old o (s.not h) h
theorem paired_imp {α β : Type} {F G : α → β → Prop} : ∀ {xs : List α} {ys : List β}, Paired F xs ys → (∀ x y, F x y → G x y) → Paired G xs ys
  | _, _, .nil, _ => .nil
  | _, _, .cons a t, h => .cons (h _ _ a) (paired_imp t h)
theorem paired_app {α β : Type} {F : α → β → Prop} : ∀ {xs us : List α} {ys ws : List β}, Paired F xs ys → Paired F us ws → Paired F (xs ++ us) (ys ++ ws)
  | _, _, _, _, .nil, h => h
  | _, _, _, _, .cons a t, h => .cons a (paired_app t h)

/-! ### lists of it -/
theorem lists_str (L : Law0 T) (hk : 1 ≤ k) {x : Str} (q : Q (.d (.str x)) st) : wpC T k "_law_lists" [.str x] st Q E := by
  obtain ⟨k, rfl⟩ : ∃ j, k = j + 1 := ⟨k - 1, by omega⟩
  refine wpC_of L.lists rfl ?_
  simp only [d__law_lists, ws_cons, ws_nil, ws_asg, ws_sub, ws_expr, ws_ret, ws_retn, ws_iff, ws_for, ws_raise, ws_pass, ws_brk, ws_cnt, ws_aug, we_slot, we_const, we_bin, we_neg, we_cmp, we_chain, we_and, we_or, we_not, we_ite, we_tup, we_lst, we_idx, we_slc, we_comp, we_call, we_bi, we_me, we_isi, we_nil, we_cons, wo_none, wo_some, wt_none, wt_some, wr_val, wr_rng1, wr_rng2, slotQ_val, slotQ_own, negQ_int, notQ_bl, blQ_bl, augQ_int, bc_t, bc_f, dr_d, dr_tmp, dr_brw, brwQ_own, brwQ_val, oq_some, dd_int, dd_str, dd_bl, dd_non, dd_tup, dd_lst, dd_scr, esc_d, esc_tf, esc_tt, escs_nil, escs_cons, drs_nil, drs_cons, asgR_d, asgR_t, asgT_n, outR_d, outR_t, op_add, op_addS, op_addT, op_addL, op_sub, op_mul, op_mulL, op_fdiv, op_mod, op_pow, cm_eq, cm_ne, eq_int, eq_str, eq_bl, eq_non, cm_lt, cm_le, cm_gt, cm_ge, cm_in, cm_notin, cm_is, cm_isnot, ix_lst, ix_scr, ix_tup, ix_str, at_0, at_1, at_2, at_3, sl_tup, sl_lst, sl_scr, bi_lenL, bi_lenR, bi_lenT, bi_lenS, bi_abs, bi_max, bi_min, bi_intI, bi_intB, bi_listL, bi_listT, bi_listR, bi_tupL, bi_tupT, bi_all, bi_any, bi_sum, bi_lenset, bi_repr, au_add, au_sub, ixL0, ixL1, ixL2, esc_b, escQ_f, escQ_t, escQ_v, outR_b, outQ_o, outQ_v, modL_b, modQ_o, vq_tmp, vq_tup, vq_lst, vq_scr, vq_str, vq_b, vQ_o, asgR_b, List.length_map, me_app, me_appB, mt_app, mt_pop0, mt_pop1, mt_ins, mt_clear, mt_rev, mt_join, ws_cell, cellQ_o, cellQ_v, mt_index, mt_count, me_index, me_count, me_join, strLst_i, me_clear, me_rev, me_pop1, me_ins, true_and, isTys, isTy, tyN, Option.map_some, String.reduceBEq, Bool.or_false, Bool.false_or, Bool.or_true, Bool.true_or, Bool.and_false, Bool.and_true, Bool.false_and, Bool.true_and, Bool.not_true, Bool.not_false, List.getElem?_cons_zero, List.getElem?_cons_succ, List.set_cons_zero, List.set_cons_succ, List.map_cons, List.map_nil, List.replicate_succ, List.replicate_zero, List.cons_append, List.nil_append, Nat.sub_self]
  exact q
theorem lists_int (L : Law0 T) (hk : 1 ≤ k) {x : Int} (q : Q (.d (.int x)) st) : wpC T k "_law_lists" [.int x] st Q E := by
  obtain ⟨k, rfl⟩ : ∃ j, k = j + 1 := ⟨k - 1, by omega⟩
  refine wpC_of L.lists rfl ?_
  simp only [d__law_lists, ws_cons, ws_nil, ws_asg, ws_sub, ws_expr, ws_ret, ws_retn, ws_iff, ws_for, ws_raise, ws_pass, ws_brk, ws_cnt, ws_aug, we_slot, we_const, we_bin, we_neg, we_cmp, we_chain, we_and, we_or, we_not, we_ite, we_tup, we_lst, we_idx, we_slc, we_comp, we_call, we_bi, we_me, we_isi, we_nil, we_cons, wo_none, wo_some, wt_none, wt_some, wr_val, wr_rng1, wr_rng2, slotQ_val, slotQ_own, negQ_int, notQ_bl, blQ_bl, augQ_int, bc_t, bc_f, dr_d, dr_tmp, dr_brw, brwQ_own, brwQ_val, oq_some, dd_int, dd_str, dd_bl, dd_non, dd_tup, dd_lst, dd_scr, esc_d, esc_tf, esc_tt, escs_nil, escs_cons, drs_nil, drs_cons, asgR_d, asgR_t, asgT_n, outR_d, outR_t, op_add, op_addS, op_addT, op_addL, op_sub, op_mul, op_mulL, op_fdiv, op_mod, op_pow, cm_eq, cm_ne, eq_int, eq_str, eq_bl, eq_non, cm_lt, cm_le, cm_gt, cm_ge, cm_in, cm_notin, cm_is, cm_isnot, ix_lst, ix_scr, ix_tup, ix_str, at_0, at_1, at_2, at_3, sl_tup, sl_lst, sl_scr, bi_lenL, bi_lenR, bi_lenT, bi_lenS, bi_abs, bi_max, bi_min, bi_intI, bi_intB, bi_listL, bi_listT, bi_listR, bi_tupL, bi_tupT, bi_all, bi_any, bi_sum, bi_lenset, bi_repr, au_add, au_sub, ixL0, ixL1, ixL2, esc_b, escQ_f, escQ_t, escQ_v, outR_b, outQ_o, outQ_v, modL_b, modQ_o, vq_tmp, vq_tup, vq_lst, vq_scr, vq_str, vq_b, vQ_o, asgR_b, List.length_map, me_app, me_appB, mt_app, mt_pop0, mt_pop1, mt_ins, mt_clear, mt_rev, mt_join, ws_cell, cellQ_o, cellQ_v, mt_index, mt_count, me_index, me_count, me_join, strLst_i, me_clear, me_rev, me_pop1, me_ins, true_and, isTys, isTy, tyN, Option.map_some, String.reduceBEq, Bool.or_false, Bool.false_or, Bool.or_true, Bool.true_or, Bool.and_false, Bool.and_true, Bool.false_and, Bool.true_and, Bool.not_true, Bool.not_false, List.getElem?_cons_zero, List.getElem?_cons_succ, List.set_cons_zero, List.set_cons_succ, List.map_cons, List.map_nil, List.replicate_succ, List.replicate_zero, List.cons_append, List.nil_append, Nat.sub_self]
  exact q
theorem lists_card (L : Law0 T) (hk : 2 ≤ k) {p : Str × Int} (q : Q (.tmp [.str p.1, .int p.2]) st) : wpC T k "_law_lists" [cardD p] st Q E := by
  obtain ⟨k, rfl⟩ : ∃ j, k = j + 1 := ⟨k - 1, by omega⟩
  refine wpC_of L.lists rfl ?_
  simp only [d__law_lists, cardD, ws_cons, ws_nil, ws_asg, ws_sub, ws_expr, ws_ret, ws_retn, ws_iff, ws_for, ws_raise, ws_pass, ws_brk, ws_cnt, ws_aug, we_slot, we_const, we_bin, we_neg, we_cmp, we_chain, we_and, we_or, we_not, we_ite, we_tup, we_lst, we_idx, we_slc, we_comp, we_call, we_bi, we_me, we_isi, we_nil, we_cons, wo_none, wo_some, wt_none, wt_some, wr_val, wr_rng1, wr_rng2, slotQ_val, slotQ_own, negQ_int, notQ_bl, blQ_bl, augQ_int, bc_t, bc_f, dr_d, dr_tmp, dr_brw, brwQ_own, brwQ_val, oq_some, dd_int, dd_str, dd_bl, dd_non, dd_tup, dd_lst, dd_scr, esc_d, esc_tf, esc_tt, escs_nil, escs_cons, drs_nil, drs_cons, asgR_d, asgR_t, asgT_n, outR_d, outR_t, op_add, op_addS, op_addT, op_addL, op_sub, op_mul, op_mulL, op_fdiv, op_mod, op_pow, cm_eq, cm_ne, eq_int, eq_str, eq_bl, eq_non, cm_lt, cm_le, cm_gt, cm_ge, cm_in, cm_notin, cm_is, cm_isnot, ix_lst, ix_scr, ix_tup, ix_str, at_0, at_1, at_2, at_3, sl_tup, sl_lst, sl_scr, bi_lenL, bi_lenR, bi_lenT, bi_lenS, bi_abs, bi_max, bi_min, bi_intI, bi_intB, bi_listL, bi_listT, bi_listR, bi_tupL, bi_tupT, bi_all, bi_any, bi_sum, bi_lenset, bi_repr, au_add, au_sub, ixL0, ixL1, ixL2, esc_b, escQ_f, escQ_t, escQ_v, outR_b, outQ_o, outQ_v, modL_b, modQ_o, vq_tmp, vq_tup, vq_lst, vq_scr, vq_str, vq_b, vQ_o, asgR_b, List.length_map, me_app, me_appB, mt_app, mt_pop0, mt_pop1, mt_ins, mt_clear, mt_rev, mt_join, ws_cell, cellQ_o, cellQ_v, mt_index, mt_count, me_index, me_count, me_join, strLst_i, me_clear, me_rev, me_pop1, me_ins, true_and, isTys, isTy, tyN, Option.map_some, String.reduceBEq, Bool.or_false, Bool.false_or, Bool.or_true, Bool.true_or, Bool.and_false, Bool.and_true, Bool.false_and, Bool.true_and, Bool.not_true, Bool.not_false, List.getElem?_cons_zero, List.getElem?_cons_succ, List.set_cons_zero, List.set_cons_succ, List.map_cons, List.map_nil, List.replicate_succ, List.replicate_zero, List.cons_append, List.nil_append, Nat.sub_self]
  refine comp_map (g := fun x => x) trivial (by show 2 ≤ sizeLine; decide) (fun x hx Q q => ?_) ?_
  · simp only [ws_cons, ws_nil, ws_asg, ws_sub, ws_expr, ws_ret, ws_retn, ws_iff, ws_for, ws_raise, ws_pass, ws_brk, ws_cnt, ws_aug, we_slot, we_const, we_bin, we_neg, we_cmp, we_chain, we_and, we_or, we_not, we_ite, we_tup, we_lst, we_idx, we_slc, we_comp, we_call, we_bi, we_me, we_isi, we_nil, we_cons, wo_none, wo_some, wt_none, wt_some, wr_val, wr_rng1, wr_rng2, slotQ_val, slotQ_own, negQ_int, notQ_bl, blQ_bl, augQ_int, bc_t, bc_f, dr_d, dr_tmp, dr_brw, brwQ_own, brwQ_val, oq_some, dd_int, dd_str, dd_bl, dd_non, dd_tup, dd_lst, dd_scr, esc_d, esc_tf, esc_tt, escs_nil, escs_cons, drs_nil, drs_cons, asgR_d, asgR_t, asgT_n, outR_d, outR_t, op_add, op_addS, op_addT, op_addL, op_sub, op_mul, op_mulL, op_fdiv, op_mod, op_pow, cm_eq, cm_ne, eq_int, eq_str, eq_bl, eq_non, cm_lt, cm_le, cm_gt, cm_ge, cm_in, cm_notin, cm_is, cm_isnot, ix_lst, ix_scr, ix_tup, ix_str, at_0, at_1, at_2, at_3, sl_tup, sl_lst, sl_scr, bi_lenL, bi_lenR, bi_lenT, bi_lenS, bi_abs, bi_max, bi_min, bi_intI, bi_intB, bi_listL, bi_listT, bi_listR, bi_tupL, bi_tupT, bi_all, bi_any, bi_sum, bi_lenset, bi_repr, au_add, au_sub, ixL0, ixL1, ixL2, esc_b, escQ_f, escQ_t, escQ_v, outR_b, outQ_o, outQ_v, modL_b, modQ_o, vq_tmp, vq_tup, vq_lst, vq_scr, vq_str, vq_b, vQ_o, asgR_b, List.length_map, me_app, me_appB, mt_app, mt_pop0, mt_pop1, mt_ins, mt_clear, mt_rev, mt_join, ws_cell, cellQ_o, cellQ_v, mt_index, mt_count, me_index, me_count, me_join, strLst_i, me_clear, me_rev, me_pop1, me_ins, true_and, isTys, isTy, tyN, Option.map_some, String.reduceBEq, Bool.or_false, Bool.false_or, Bool.or_true, Bool.true_or, Bool.and_false, Bool.and_true, Bool.false_and, Bool.true_and, Bool.not_true, Bool.not_false, List.getElem?_cons_zero, List.getElem?_cons_succ, List.set_cons_zero, List.set_cons_succ, List.map_cons, List.map_nil, List.replicate_succ, List.replicate_zero, List.cons_append, List.nil_append, Nat.sub_self] at q ⊢
    simp only [List.mem_cons, List.not_mem_nil, or_false] at hx
    rcases hx with rfl | rfl
    · exact lists_str L (by omega) q
    · exact lists_int L (by omega) q
  · rw [List.map_id']
    simp only [ws_cons, ws_nil, ws_asg, ws_sub, ws_expr, ws_ret, ws_retn, ws_iff, ws_for, ws_raise, ws_pass, ws_brk, ws_cnt, ws_aug, we_slot, we_const, we_bin, we_neg, we_cmp, we_chain, we_and, we_or, we_not, we_ite, we_tup, we_lst, we_idx, we_slc, we_comp, we_call, we_bi, we_me, we_isi, we_nil, we_cons, wo_none, wo_some, wt_none, wt_some, wr_val, wr_rng1, wr_rng2, slotQ_val, slotQ_own, negQ_int, notQ_bl, blQ_bl, augQ_int, bc_t, bc_f, dr_d, dr_tmp, dr_brw, brwQ_own, brwQ_val, oq_some, dd_int, dd_str, dd_bl, dd_non, dd_tup, dd_lst, dd_scr, esc_d, esc_tf, esc_tt, escs_nil, escs_cons, drs_nil, drs_cons, asgR_d, asgR_t, asgT_n, outR_d, outR_t, op_add, op_addS, op_addT, op_addL, op_sub, op_mul, op_mulL, op_fdiv, op_mod, op_pow, cm_eq, cm_ne, eq_int, eq_str, eq_bl, eq_non, cm_lt, cm_le, cm_gt, cm_ge, cm_in, cm_notin, cm_is, cm_isnot, ix_lst, ix_scr, ix_tup, ix_str, at_0, at_1, at_2, at_3, sl_tup, sl_lst, sl_scr, bi_lenL, bi_lenR, bi_lenT, bi_lenS, bi_abs, bi_max, bi_min, bi_intI, bi_intB, bi_listL, bi_listT, bi_listR, bi_tupL, bi_tupT, bi_all, bi_any, bi_sum, bi_lenset, bi_repr, au_add, au_sub, ixL0, ixL1, ixL2, esc_b, escQ_f, escQ_t, escQ_v, outR_b, outQ_o, outQ_v, modL_b, modQ_o, vq_tmp, vq_tup, vq_lst, vq_scr, vq_str, vq_b, vQ_o, asgR_b, List.length_map, me_app, me_appB, mt_app, mt_pop0, mt_pop1, mt_ins, mt_clear, mt_rev, mt_join, ws_cell, cellQ_o, cellQ_v, mt_index, mt_count, me_index, me_count, me_join, strLst_i, me_clear, me_rev, me_pop1, me_ins, true_and, isTys, isTy, tyN, Option.map_some, String.reduceBEq, Bool.or_false, Bool.false_or, Bool.or_true, Bool.true_or, Bool.and_false, Bool.and_true, Bool.false_and, Bool.true_and, Bool.not_true, Bool.not_false, List.getElem?_cons_zero, List.getElem?_cons_succ, List.set_cons_zero, List.set_cons_succ, List.map_cons, List.map_nil, List.replicate_succ, List.replicate_zero, List.cons_append, List.nil_append, Nat.sub_self]
    exact q
def cellOf (p : Str × Int) : Cell := .lst [.str p.1, .int p.2]
/-- a card that is handed on: the tuple, or a new list -/
def CardH (st : PSto) (x : D) (p : Str × Int) : Prop := x = cardD p ∨ ∃ i, x = .ref i ∧ st[i]? = some (cellOf p)
theorem CardH.r {st : PSto} {x : D} {p : Str × Int} (h : CardH st x p) : CardR st x p := by
  rcases h with rfl | ⟨i, rfl, h⟩
  · rfl
  · show seqOf _ _ = _
    unfold seqOf
    rw [dd_ref (ds := [.str p.1, .int p.2]) h]
theorem CardH.old {c r : Nat} {st st' : PSto} (s : Spr c r st) (o : Old r st st') {x : D} {p : Str × Int} (h : CardH st x p) : CardH st' x p := by
  rcases h with h | ⟨i, rfl, h⟩
  · exact .inl h
  · refine .inr ⟨i, rfl, o i _ (fun z => ?_) h⟩
    subst z
    obtain ⟨F, S, N, h1, _⟩ := s.ex
    rw [h1] at h
    cases h
theorem cardH_new {st : PSto} {p : Str × Int} : CardH (st ++ [cellOf p]) (.ref st.length) p := .inr ⟨_, rfl, by simp⟩
/-- what is handed on -/
def HandR (st : PSto) (x : R) (l : Deck) : Prop := match x with
  | .tmp es => Paired (CardH st) es l
  | .d (.tup es) => Paired (CardH st) es l
  | _ => False
/-- cards told on one by one, as new lists -/
theorem lists_all (L : Law0 T) (hk : 3 ≤ k) {c r : Nat} (s : Spr c r st) {l : Deck} (hl : l.length ≤ 40) {QQ : QE} {env : PEnv} {i : Nat} {X : QX} {elt : PEnv → PSto → QE → Prop}
    (he : ∀ p ∈ l, ∀ (st : PSto) (Q : QE), wpC T k "_law_lists" [cardD p] st (fun r st => Q r (env.set i (.val (cardD p))) st) (fun e st => X e (env.set i (.val (cardD p))) st) → elt (env.set i (.val (cardD p))) st Q)
    (q : ∀ es st', Paired (CardH st') es l → Spr c r st' → Old r st st' → QQ (.tmp es) env st') : compLoop (.name i) [i] true elt (wpT T (wpC T k) X .none) (fun _ => True) QQ (l.map cardD) [] env st := by
  refine comp_ind (fun xs acc st' => ∃ done rest : Deck, l = done ++ rest ∧ xs = rest.map cardD ∧ Paired (CardH st') acc done ∧ Spr c r st' ∧ Old r st st') ?_ ?_ _ _ _ ⟨[], l, rfl, rfl, .nil, s, .refl⟩
  · rintro acc st' ⟨done, rest, e1, e2, h1, h2, h3⟩
    have : rest = [] := by cases rest with
      | nil => rfl
      | cons => cases e2
    subst this
    rw [List.append_nil] at e1
    subst e1
    exact ⟨trivial, q acc st' h1 h2 h3⟩
  · rintro x xs ih acc st' ⟨done, rest, e1, e2, h1, h2, h3⟩
    cases rest with
    | nil => cases e2
    | cons p rest =>
      rw [List.map_cons] at e2
      obtain ⟨rfl, rfl⟩ := List.cons.inj e2
      refine ⟨trivial, ?_⟩
      rw [asgT_n, wipe1, List.set_set, wt_none]
      simp only
      refine he p (by rw [e1]; simp) _ _ (lists_card L (by omega) ?_)
      rw [esc_tt, back1]
      have hd : done.length < 40 := by
        have := congrArg List.length e1
        simp at this
        omega
      have ha : acc.length = done.length := h1.length
      refine ⟨by rw [sizeLine_eq]; omega, ih _ _ ⟨done ++ [p], rest, by rw [e1, List.append_assoc]; rfl, rfl, ?_, h2.app, h3.trans .app⟩⟩
      exact paired_app (paired_imp h1 fun x y h => h.old h2 .app) (.cons cardH_new .nil)
end LW
set_option maxHeartbeats 4000000
namespace LW
open PySem PI
variable {T : Tab} {k : Nat} {st : PSto} {Q : R → PSto → Prop} {E : Exn → PSto → Prop}

theorem lists_deck (L : Law0 T) (hk : 4 ≤ k) {c r : Nat} (s : Spr c r st) {l : Deck} (hl : l.length ≤ 40) (q : ∀ es st', Paired (CardH st') es l → Spr c r st' → Old r st st' → Q (.tmp es) st') : wpC T k "_law_lists" [deckD l] st Q E := by
  obtain ⟨k, rfl⟩ : ∃ j, k = j + 1 := ⟨k - 1, by omega⟩
  refine wpC_of L.lists rfl ?_
  simp only [d__law_lists, deckD, ws_cons, ws_nil, ws_asg, ws_sub, ws_expr, ws_ret, ws_retn, ws_iff, ws_for, ws_raise, ws_pass, ws_brk, ws_cnt, ws_aug, we_slot, we_const, we_bin, we_neg, we_cmp, we_chain, we_and, we_or, we_not, we_ite, we_tup, we_lst, we_idx, we_slc, we_comp, we_call, we_bi, we_me, we_isi, we_nil, we_cons, wo_none, wo_some, wt_none, wt_some, wr_val, wr_rng1, wr_rng2, slotQ_val, slotQ_own, negQ_int, notQ_bl, blQ_bl, augQ_int, bc_t, bc_f, dr_d, dr_tmp, dr_brw, brwQ_own, brwQ_val, oq_some, dd_int, dd_str, dd_bl, dd_non, dd_tup, dd_lst, dd_scr, esc_d, esc_tf, esc_tt, escs_nil, escs_cons, drs_nil, drs_cons, asgR_d, asgR_t, asgT_n, outR_d, outR_t, op_add, op_addS, op_addT, op_addL, op_sub, op_mul, op_mulL, op_fdiv, op_mod, op_pow, cm_eq, cm_ne, eq_int, eq_str, eq_bl, eq_non, cm_lt, cm_le, cm_gt, cm_ge, cm_in, cm_notin, cm_is, cm_isnot, ix_lst, ix_scr, ix_tup, ix_str, at_0, at_1, at_2, at_3, sl_tup, sl_lst, sl_scr, bi_lenL, bi_lenR, bi_lenT, bi_lenS, bi_abs, bi_max, bi_min, bi_intI, bi_intB, bi_listL, bi_listT, bi_listR, bi_tupL, bi_tupT, bi_all, bi_any, bi_sum, bi_lenset, bi_repr, au_add, au_sub, ixL0, ixL1, ixL2, esc_b, escQ_f, escQ_t, escQ_v, outR_b, outQ_o, outQ_v, modL_b, modQ_o, vq_tmp, vq_tup, vq_lst, vq_scr, vq_str, vq_b, vQ_o, asgR_b, List.length_map, me_app, me_appB, mt_app, mt_pop0, mt_pop1, mt_ins, mt_clear, mt_rev, mt_join, ws_cell, cellQ_o, cellQ_v, mt_index, mt_count, me_index, me_count, me_join, strLst_i, me_clear, me_rev, me_pop1, me_ins, true_and, isTys, isTy, tyN, Option.map_some, String.reduceBEq, Bool.or_false, Bool.false_or, Bool.or_true, Bool.true_or, Bool.and_false, Bool.and_true, Bool.false_and, Bool.true_and, Bool.not_true, Bool.not_false, List.getElem?_cons_zero, List.getElem?_cons_succ, List.set_cons_zero, List.set_cons_succ, List.map_cons, List.map_nil, List.replicate_succ, List.replicate_zero, List.cons_append, List.nil_append, Nat.sub_self]
  refine lists_all L (by omega) s hl (fun p hp st Q h => ?_) fun es st' h1 h2 h3 => ?_
  · simp only [ws_cons, ws_nil, ws_asg, ws_sub, ws_expr, ws_ret, ws_retn, ws_iff, ws_for, ws_raise, ws_pass, ws_brk, ws_cnt, ws_aug, we_slot, we_const, we_bin, we_neg, we_cmp, we_chain, we_and, we_or, we_not, we_ite, we_tup, we_lst, we_idx, we_slc, we_comp, we_call, we_bi, we_me, we_isi, we_nil, we_cons, wo_none, wo_some, wt_none, wt_some, wr_val, wr_rng1, wr_rng2, slotQ_val, slotQ_own, negQ_int, notQ_bl, blQ_bl, augQ_int, bc_t, bc_f, dr_d, dr_tmp, dr_brw, brwQ_own, brwQ_val, oq_some, dd_int, dd_str, dd_bl, dd_non, dd_tup, dd_lst, dd_scr, esc_d, esc_tf, esc_tt, escs_nil, escs_cons, drs_nil, drs_cons, asgR_d, asgR_t, asgT_n, outR_d, outR_t, op_add, op_addS, op_addT, op_addL, op_sub, op_mul, op_mulL, op_fdiv, op_mod, op_pow, cm_eq, cm_ne, eq_int, eq_str, eq_bl, eq_non, cm_lt, cm_le, cm_gt, cm_ge, cm_in, cm_notin, cm_is, cm_isnot, ix_lst, ix_scr, ix_tup, ix_str, at_0, at_1, at_2, at_3, sl_tup, sl_lst, sl_scr, bi_lenL, bi_lenR, bi_lenT, bi_lenS, bi_abs, bi_max, bi_min, bi_intI, bi_intB, bi_listL, bi_listT, bi_listR, bi_tupL, bi_tupT, bi_all, bi_any, bi_sum, bi_lenset, bi_repr, au_add, au_sub, ixL0, ixL1, ixL2, esc_b, escQ_f, escQ_t, escQ_v, outR_b, outQ_o, outQ_v, modL_b, modQ_o, vq_tmp, vq_tup, vq_lst, vq_scr, vq_str, vq_b, vQ_o, asgR_b, List.length_map, me_app, me_appB, mt_app, mt_pop0, mt_pop1, mt_ins, mt_clear, mt_rev, mt_join, ws_cell, cellQ_o, cellQ_v, mt_index, mt_count, me_index, me_count, me_join, strLst_i, me_clear, me_rev, me_pop1, me_ins, true_and, isTys, isTy, tyN, Option.map_some, String.reduceBEq, Bool.or_false, Bool.false_or, Bool.or_true, Bool.true_or, Bool.and_false, Bool.and_true, Bool.false_and, Bool.true_and, Bool.not_true, Bool.not_false, List.getElem?_cons_zero, List.getElem?_cons_succ, List.set_cons_zero, List.set_cons_succ, List.map_cons, List.map_nil, List.replicate_succ, List.replicate_zero, List.cons_append, List.nil_append, Nat.sub_self] at h ⊢
    exact h
  · simp only [ws_cons, ws_nil, ws_asg, ws_sub, ws_expr, ws_ret, ws_retn, ws_iff, ws_for, ws_raise, ws_pass, ws_brk, ws_cnt, ws_aug, we_slot, we_const, we_bin, we_neg, we_cmp, we_chain, we_and, we_or, we_not, we_ite, we_tup, we_lst, we_idx, we_slc, we_comp, we_call, we_bi, we_me, we_isi, we_nil, we_cons, wo_none, wo_some, wt_none, wt_some, wr_val, wr_rng1, wr_rng2, slotQ_val, slotQ_own, negQ_int, notQ_bl, blQ_bl, augQ_int, bc_t, bc_f, dr_d, dr_tmp, dr_brw, brwQ_own, brwQ_val, oq_some, dd_int, dd_str, dd_bl, dd_non, dd_tup, dd_lst, dd_scr, esc_d, esc_tf, esc_tt, escs_nil, escs_cons, drs_nil, drs_cons, asgR_d, asgR_t, asgT_n, outR_d, outR_t, op_add, op_addS, op_addT, op_addL, op_sub, op_mul, op_mulL, op_fdiv, op_mod, op_pow, cm_eq, cm_ne, eq_int, eq_str, eq_bl, eq_non, cm_lt, cm_le, cm_gt, cm_ge, cm_in, cm_notin, cm_is, cm_isnot, ix_lst, ix_scr, ix_tup, ix_str, at_0, at_1, at_2, at_3, sl_tup, sl_lst, sl_scr, bi_lenL, bi_lenR, bi_lenT, bi_lenS, bi_abs, bi_max, bi_min, bi_intI, bi_intB, bi_listL, bi_listT, bi_listR, bi_tupL, bi_tupT, bi_all, bi_any, bi_sum, bi_lenset, bi_repr, au_add, au_sub, ixL0, ixL1, ixL2, esc_b, escQ_f, escQ_t, escQ_v, outR_b, outQ_o, outQ_v, modL_b, modQ_o, vq_tmp, vq_tup, vq_lst, vq_scr, vq_str, vq_b, vQ_o, asgR_b, List.length_map, me_app, me_appB, mt_app, mt_pop0, mt_pop1, mt_ins, mt_clear, mt_rev, mt_join, ws_cell, cellQ_o, cellQ_v, mt_index, mt_count, me_index, me_count, me_join, strLst_i, me_clear, me_rev, me_pop1, me_ins, true_and, isTys, isTy, tyN, Option.map_some, String.reduceBEq, Bool.or_false, Bool.false_or, Bool.or_true, Bool.true_or, Bool.and_false, Bool.and_true, Bool.false_and, Bool.true_and, Bool.not_true, Bool.not_false, List.getElem?_cons_zero, List.getElem?_cons_succ, List.set_cons_zero, List.set_cons_succ, List.map_cons, List.map_nil, List.replicate_succ, List.replicate_zero, List.cons_append, List.nil_append, Nat.sub_self]
    exact q es st' h1 h2 h3
theorem handed_ok (L : Law0 T) (hk : 5 ≤ k) {c r : Nat} (s : Spr c r st) (hc : c + 50 < 2 ^ 60) {l : Deck} (hl : l.length ≤ 40) (q : ∀ x st', HandR st' x l → Spr (c + 50) r st' → Old r st st' → Q x st') : wpC T k "_law_handed" [.ref r, deckD l] st Q E := by
  obtain ⟨k, rfl⟩ : ∃ j, k = j + 1 := ⟨k - 1, by omega⟩
  refine wpC_of L.handed rfl ?_
  simp only [d__law_handed, ws_cons, ws_nil, ws_asg, ws_sub, ws_expr, ws_ret, ws_retn, ws_iff, ws_for, ws_raise, ws_pass, ws_brk, ws_cnt, ws_aug, we_slot, we_const, we_bin, we_neg, we_cmp, we_chain, we_and, we_or, we_not, we_ite, we_tup, we_lst, we_idx, we_slc, we_comp, we_call, we_bi, we_me, we_isi, we_nil, we_cons, wo_none, wo_some, wt_none, wt_some, wr_val, wr_rng1, wr_rng2, slotQ_val, slotQ_own, negQ_int, notQ_bl, blQ_bl, augQ_int, bc_t, bc_f, dr_d, dr_tmp, dr_brw, brwQ_own, brwQ_val, oq_some, dd_int, dd_str, dd_bl, dd_non, dd_tup, dd_lst, dd_scr, esc_d, esc_tf, esc_tt, escs_nil, escs_cons, drs_nil, drs_cons, asgR_d, asgR_t, asgT_n, outR_d, outR_t, op_add, op_addS, op_addT, op_addL, op_sub, op_mul, op_mulL, op_fdiv, op_mod, op_pow, cm_eq, cm_ne, eq_int, eq_str, eq_bl, eq_non, cm_lt, cm_le, cm_gt, cm_ge, cm_in, cm_notin, cm_is, cm_isnot, ix_lst, ix_scr, ix_tup, ix_str, at_0, at_1, at_2, at_3, sl_tup, sl_lst, sl_scr, bi_lenL, bi_lenR, bi_lenT, bi_lenS, bi_abs, bi_max, bi_min, bi_intI, bi_intB, bi_listL, bi_listT, bi_listR, bi_tupL, bi_tupT, bi_all, bi_any, bi_sum, bi_lenset, bi_repr, au_add, au_sub, ixL0, ixL1, ixL2, esc_b, escQ_f, escQ_t, escQ_v, outR_b, outQ_o, outQ_v, modL_b, modQ_o, vq_tmp, vq_tup, vq_lst, vq_scr, vq_str, vq_b, vQ_o, asgR_b, List.length_map, me_app, me_appB, mt_app, mt_pop0, mt_pop1, mt_ins, mt_clear, mt_rev, mt_join, ws_cell, cellQ_o, cellQ_v, mt_index, mt_count, me_index, me_count, me_join, strLst_i, me_clear, me_rev, me_pop1, me_ins, true_and, isTys, isTy, tyN, Option.map_some, String.reduceBEq, Bool.or_false, Bool.false_or, Bool.or_true, Bool.true_or, Bool.and_false, Bool.and_true, Bool.false_and, Bool.true_and, Bool.not_true, Bool.not_false, List.getElem?_cons_zero, List.getElem?_cons_succ, List.set_cons_zero, List.set_cons_succ, List.map_cons, List.map_nil, List.replicate_succ, List.replicate_zero, List.cons_append, List.nil_append, Nat.sub_self]
  refine draw_ok L.draw (by omega) s (by omega) (by decide) (by decide) fun v cell v0 v1 s1 => ?_
  have o1 : Old r st (st.set r cell) := .set
  have plain : ∀ st', Paired (CardH st') (l.map cardD) l := fun st' => paired_map fun _ _ => .inl rfl
  simp only [ws_cons, ws_nil, ws_asg, ws_sub, ws_expr, ws_ret, ws_retn, ws_iff, ws_for, ws_raise, ws_pass, ws_brk, ws_cnt, ws_aug, we_slot, we_const, we_bin, we_neg, we_cmp, we_chain, we_and, we_or, we_not, we_ite, we_tup, we_lst, we_idx, we_slc, we_comp, we_call, we_bi, we_me, we_isi, we_nil, we_cons, wo_none, wo_some, wt_none, wt_some, wr_val, wr_rng1, wr_rng2, slotQ_val, slotQ_own, negQ_int, notQ_bl, blQ_bl, augQ_int, bc_t, bc_f, dr_d, dr_tmp, dr_brw, brwQ_own, brwQ_val, oq_some, dd_int, dd_str, dd_bl, dd_non, dd_tup, dd_lst, dd_scr, esc_d, esc_tf, esc_tt, escs_nil, escs_cons, drs_nil, drs_cons, asgR_d, asgR_t, asgT_n, outR_d, outR_t, op_add, op_addS, op_addT, op_addL, op_sub, op_mul, op_mulL, op_fdiv, op_mod, op_pow, cm_eq, cm_ne, eq_int, eq_str, eq_bl, eq_non, cm_lt, cm_le, cm_gt, cm_ge, cm_in, cm_notin, cm_is, cm_isnot, ix_lst, ix_scr, ix_tup, ix_str, at_0, at_1, at_2, at_3, sl_tup, sl_lst, sl_scr, bi_lenL, bi_lenR, bi_lenT, bi_lenS, bi_abs, bi_max, bi_min, bi_intI, bi_intB, bi_listL, bi_listT, bi_listR, bi_tupL, bi_tupT, bi_all, bi_any, bi_sum, bi_lenset, bi_repr, au_add, au_sub, ixL0, ixL1, ixL2, esc_b, escQ_f, escQ_t, escQ_v, outR_b, outQ_o, outQ_v, modL_b, modQ_o, vq_tmp, vq_tup, vq_lst, vq_scr, vq_str, vq_b, vQ_o, asgR_b, List.length_map, me_app, me_appB, mt_app, mt_pop0, mt_pop1, mt_ins, mt_clear, mt_rev, mt_join, ws_cell, cellQ_o, cellQ_v, mt_index, mt_count, me_index, me_count, me_join, strLst_i, me_clear, me_rev, me_pop1, me_ins, true_and, isTys, isTy, tyN, Option.map_some, String.reduceBEq, Bool.or_false, Bool.false_or, Bool.or_true, Bool.true_or, Bool.and_false, Bool.and_true, Bool.false_and, Bool.true_and, Bool.not_true, Bool.not_false, List.getElem?_cons_zero, List.getElem?_cons_succ, List.set_cons_zero, List.set_cons_succ, List.map_cons, List.map_nil, List.replicate_succ, List.replicate_zero, List.cons_append, List.nil_append, Nat.sub_self, bc_bl]
  refine ⟨fun _ => lists_deck L (by omega) s1 hl fun es st' h1 h2 h3 => ?_, fun _ => ⟨fun _ => ?_, fun _ => ⟨fun _ => ?_, fun _ => ⟨fun _ => ?_, fun _ => ?_⟩⟩⟩⟩
  · simp only [ws_cons, ws_nil, ws_asg, ws_sub, ws_expr, ws_ret, ws_retn, ws_iff, ws_for, ws_raise, ws_pass, ws_brk, ws_cnt, ws_aug, we_slot, we_const, we_bin, we_neg, we_cmp, we_chain, we_and, we_or, we_not, we_ite, we_tup, we_lst, we_idx, we_slc, we_comp, we_call, we_bi, we_me, we_isi, we_nil, we_cons, wo_none, wo_some, wt_none, wt_some, wr_val, wr_rng1, wr_rng2, slotQ_val, slotQ_own, negQ_int, notQ_bl, blQ_bl, augQ_int, bc_t, bc_f, dr_d, dr_tmp, dr_brw, brwQ_own, brwQ_val, oq_some, dd_int, dd_str, dd_bl, dd_non, dd_tup, dd_lst, dd_scr, esc_d, esc_tf, esc_tt, escs_nil, escs_cons, drs_nil, drs_cons, asgR_d, asgR_t, asgT_n, outR_d, outR_t, op_add, op_addS, op_addT, op_addL, op_sub, op_mul, op_mulL, op_fdiv, op_mod, op_pow, cm_eq, cm_ne, eq_int, eq_str, eq_bl, eq_non, cm_lt, cm_le, cm_gt, cm_ge, cm_in, cm_notin, cm_is, cm_isnot, ix_lst, ix_scr, ix_tup, ix_str, at_0, at_1, at_2, at_3, sl_tup, sl_lst, sl_scr, bi_lenL, bi_lenR, bi_lenT, bi_lenS, bi_abs, bi_max, bi_min, bi_intI, bi_intB, bi_listL, bi_listT, bi_listR, bi_tupL, bi_tupT, bi_all, bi_any, bi_sum, bi_lenset, bi_repr, au_add, au_sub, ixL0, ixL1, ixL2, esc_b, escQ_f, escQ_t, escQ_v, outR_b, outQ_o, outQ_v, modL_b, modQ_o, vq_tmp, vq_tup, vq_lst, vq_scr, vq_str, vq_b, vQ_o, asgR_b, List.length_map, me_app, me_appB, mt_app, mt_pop0, mt_pop1, mt_ins, mt_clear, mt_rev, mt_join, ws_cell, cellQ_o, cellQ_v, mt_index, mt_count, me_index, me_count, me_join, strLst_i, me_clear, me_rev, me_pop1, me_ins, true_and, isTys, isTy, tyN, Option.map_some, String.reduceBEq, Bool.or_false, Bool.false_or, Bool.or_true, Bool.true_or, Bool.and_false, Bool.and_true, Bool.false_and, Bool.true_and, Bool.not_true, Bool.not_false, List.getElem?_cons_zero, List.getElem?_cons_succ, List.set_cons_zero, List.set_cons_succ, List.map_cons, List.map_nil, List.replicate_succ, List.replicate_zero, List.cons_append, List.nil_append, Nat.sub_self]
    exact q _ _ h1 (h2.mono (by omega)) (o1.trans h3)
  · refine lists_all L (by omega) s1 hl (fun p hp st Q h => ?_) fun es st' h1 h2 h3 => ?_
    · simp only [ws_cons, ws_nil, ws_asg, ws_sub, ws_expr, ws_ret, ws_retn, ws_iff, ws_for, ws_raise, ws_pass, ws_brk, ws_cnt, ws_aug, we_slot, we_const, we_bin, we_neg, we_cmp, we_chain, we_and, we_or, we_not, we_ite, we_tup, we_lst, we_idx, we_slc, we_comp, we_call, we_bi, we_me, we_isi, we_nil, we_cons, wo_none, wo_some, wt_none, wt_some, wr_val, wr_rng1, wr_rng2, slotQ_val, slotQ_own, negQ_int, notQ_bl, blQ_bl, augQ_int, bc_t, bc_f, dr_d, dr_tmp, dr_brw, brwQ_own, brwQ_val, oq_some, dd_int, dd_str, dd_bl, dd_non, dd_tup, dd_lst, dd_scr, esc_d, esc_tf, esc_tt, escs_nil, escs_cons, drs_nil, drs_cons, asgR_d, asgR_t, asgT_n, outR_d, outR_t, op_add, op_addS, op_addT, op_addL, op_sub, op_mul, op_mulL, op_fdiv, op_mod, op_pow, cm_eq, cm_ne, eq_int, eq_str, eq_bl, eq_non, cm_lt, cm_le, cm_gt, cm_ge, cm_in, cm_notin, cm_is, cm_isnot, ix_lst, ix_scr, ix_tup, ix_str, at_0, at_1, at_2, at_3, sl_tup, sl_lst, sl_scr, bi_lenL, bi_lenR, bi_lenT, bi_lenS, bi_abs, bi_max, bi_min, bi_intI, bi_intB, bi_listL, bi_listT, bi_listR, bi_tupL, bi_tupT, bi_all, bi_any, bi_sum, bi_lenset, bi_repr, au_add, au_sub, ixL0, ixL1, ixL2, esc_b, escQ_f, escQ_t, escQ_v, outR_b, outQ_o, outQ_v, modL_b, modQ_o, vq_tmp, vq_tup, vq_lst, vq_scr, vq_str, vq_b, vQ_o, asgR_b, List.length_map, me_app, me_appB, mt_app, mt_pop0, mt_pop1, mt_ins, mt_clear, mt_rev, mt_join, ws_cell, cellQ_o, cellQ_v, mt_index, mt_count, me_index, me_count, me_join, strLst_i, me_clear, me_rev, me_pop1, me_ins, true_and, isTys, isTy, tyN, Option.map_some, String.reduceBEq, Bool.or_false, Bool.false_or, Bool.or_true, Bool.true_or, Bool.and_false, Bool.and_true, Bool.false_and, Bool.true_and, Bool.not_true, Bool.not_false, List.getElem?_cons_zero, List.getElem?_cons_succ, List.set_cons_zero, List.set_cons_succ, List.map_cons, List.map_nil, List.replicate_succ, List.replicate_zero, List.cons_append, List.nil_append, Nat.sub_self] at h ⊢
      exact h
    · simp only [ws_cons, ws_nil, ws_asg, ws_sub, ws_expr, ws_ret, ws_retn, ws_iff, ws_for, ws_raise, ws_pass, ws_brk, ws_cnt, ws_aug, we_slot, we_const, we_bin, we_neg, we_cmp, we_chain, we_and, we_or, we_not, we_ite, we_tup, we_lst, we_idx, we_slc, we_comp, we_call, we_bi, we_me, we_isi, we_nil, we_cons, wo_none, wo_some, wt_none, wt_some, wr_val, wr_rng1, wr_rng2, slotQ_val, slotQ_own, negQ_int, notQ_bl, blQ_bl, augQ_int, bc_t, bc_f, dr_d, dr_tmp, dr_brw, brwQ_own, brwQ_val, oq_some, dd_int, dd_str, dd_bl, dd_non, dd_tup, dd_lst, dd_scr, esc_d, esc_tf, esc_tt, escs_nil, escs_cons, drs_nil, drs_cons, asgR_d, asgR_t, asgT_n, outR_d, outR_t, op_add, op_addS, op_addT, op_addL, op_sub, op_mul, op_mulL, op_fdiv, op_mod, op_pow, cm_eq, cm_ne, eq_int, eq_str, eq_bl, eq_non, cm_lt, cm_le, cm_gt, cm_ge, cm_in, cm_notin, cm_is, cm_isnot, ix_lst, ix_scr, ix_tup, ix_str, at_0, at_1, at_2, at_3, sl_tup, sl_lst, sl_scr, bi_lenL, bi_lenR, bi_lenT, bi_lenS, bi_abs, bi_max, bi_min, bi_intI, bi_intB, bi_listL, bi_listT, bi_listR, bi_tupL, bi_tupT, bi_all, bi_any, bi_sum, bi_lenset, bi_repr, au_add, au_sub, ixL0, ixL1, ixL2, esc_b, escQ_f, escQ_t, escQ_v, outR_b, outQ_o, outQ_v, modL_b, modQ_o, vq_tmp, vq_tup, vq_lst, vq_scr, vq_str, vq_b, vQ_o, asgR_b, List.length_map, me_app, me_appB, mt_app, mt_pop0, mt_pop1, mt_ins, mt_clear, mt_rev, mt_join, ws_cell, cellQ_o, cellQ_v, mt_index, mt_count, me_index, me_count, me_join, strLst_i, me_clear, me_rev, me_pop1, me_ins, true_and, isTys, isTy, tyN, Option.map_some, String.reduceBEq, Bool.or_false, Bool.false_or, Bool.or_true, Bool.true_or, Bool.and_false, Bool.and_true, Bool.false_and, Bool.true_and, Bool.not_true, Bool.not_false, List.getElem?_cons_zero, List.getElem?_cons_succ, List.set_cons_zero, List.set_cons_succ, List.map_cons, List.map_nil, List.replicate_succ, List.replicate_zero, List.cons_append, List.nil_append, Nat.sub_self]
      exact q (.d (.tup es)) _ h1 (h2.mono (by omega)) (o1.trans h3)
  · simp only [deckD, ws_cons, ws_nil, ws_asg, ws_sub, ws_expr, ws_ret, ws_retn, ws_iff, ws_for, ws_raise, ws_pass, ws_brk, ws_cnt, ws_aug, we_slot, we_const, we_bin, we_neg, we_cmp, we_chain, we_and, we_or, we_not, we_ite, we_tup, we_lst, we_idx, we_slc, we_comp, we_call, we_bi, we_me, we_isi, we_nil, we_cons, wo_none, wo_some, wt_none, wt_some, wr_val, wr_rng1, wr_rng2, slotQ_val, slotQ_own, negQ_int, notQ_bl, blQ_bl, augQ_int, bc_t, bc_f, dr_d, dr_tmp, dr_brw, brwQ_own, brwQ_val, oq_some, dd_int, dd_str, dd_bl, dd_non, dd_tup, dd_lst, dd_scr, esc_d, esc_tf, esc_tt, escs_nil, escs_cons, drs_nil, drs_cons, asgR_d, asgR_t, asgT_n, outR_d, outR_t, op_add, op_addS, op_addT, op_addL, op_sub, op_mul, op_mulL, op_fdiv, op_mod, op_pow, cm_eq, cm_ne, eq_int, eq_str, eq_bl, eq_non, cm_lt, cm_le, cm_gt, cm_ge, cm_in, cm_notin, cm_is, cm_isnot, ix_lst, ix_scr, ix_tup, ix_str, at_0, at_1, at_2, at_3, sl_tup, sl_lst, sl_scr, bi_lenL, bi_lenR, bi_lenT, bi_lenS, bi_abs, bi_max, bi_min, bi_intI, bi_intB, bi_listL, bi_listT, bi_listR, bi_tupL, bi_tupT, bi_all, bi_any, bi_sum, bi_lenset, bi_repr, au_add, au_sub, ixL0, ixL1, ixL2, esc_b, escQ_f, escQ_t, escQ_v, outR_b, outQ_o, outQ_v, modL_b, modQ_o, vq_tmp, vq_tup, vq_lst, vq_scr, vq_str, vq_b, vQ_o, asgR_b, List.length_map, me_app, me_appB, mt_app, mt_pop0, mt_pop1, mt_ins, mt_clear, mt_rev, mt_join, ws_cell, cellQ_o, cellQ_v, mt_index, mt_count, me_index, me_count, me_join, strLst_i, me_clear, me_rev, me_pop1, me_ins, true_and, isTys, isTy, tyN, Option.map_some, String.reduceBEq, Bool.or_false, Bool.false_or, Bool.or_true, Bool.true_or, Bool.and_false, Bool.and_true, Bool.false_and, Bool.true_and, Bool.not_true, Bool.not_false, List.getElem?_cons_zero, List.getElem?_cons_succ, List.set_cons_zero, List.set_cons_succ, List.map_cons, List.map_nil, List.replicate_succ, List.replicate_zero, List.cons_append, List.nil_append, Nat.sub_self]
    refine comp_ind (fun xs acc st' => ∃ done rest : Deck, l = done ++ rest ∧ xs = rest.map cardD ∧ Paired (CardH st') acc done ∧ Spr (c + 1 + done.length) r st' ∧ Old r st st') ?_ ?_ _ _ _ ⟨[], l, rfl, rfl, .nil, s1, o1⟩
    · rintro acc st' ⟨done, rest, e1, e2, h1, h2, h3⟩
      have : rest = [] := by cases rest with
        | nil => rfl
        | cons => cases e2
      subst this
      rw [List.append_nil] at e1
      subst e1
      refine ⟨trivial, ?_⟩
      simp only [ws_cons, ws_nil, ws_asg, ws_sub, ws_expr, ws_ret, ws_retn, ws_iff, ws_for, ws_raise, ws_pass, ws_brk, ws_cnt, ws_aug, we_slot, we_const, we_bin, we_neg, we_cmp, we_chain, we_and, we_or, we_not, we_ite, we_tup, we_lst, we_idx, we_slc, we_comp, we_call, we_bi, we_me, we_isi, we_nil, we_cons, wo_none, wo_some, wt_none, wt_some, wr_val, wr_rng1, wr_rng2, slotQ_val, slotQ_own, negQ_int, notQ_bl, blQ_bl, augQ_int, bc_t, bc_f, dr_d, dr_tmp, dr_brw, brwQ_own, brwQ_val, oq_some, dd_int, dd_str, dd_bl, dd_non, dd_tup, dd_lst, dd_scr, esc_d, esc_tf, esc_tt, escs_nil, escs_cons, drs_nil, drs_cons, asgR_d, asgR_t, asgT_n, outR_d, outR_t, op_add, op_addS, op_addT, op_addL, op_sub, op_mul, op_mulL, op_fdiv, op_mod, op_pow, cm_eq, cm_ne, eq_int, eq_str, eq_bl, eq_non, cm_lt, cm_le, cm_gt, cm_ge, cm_in, cm_notin, cm_is, cm_isnot, ix_lst, ix_scr, ix_tup, ix_str, at_0, at_1, at_2, at_3, sl_tup, sl_lst, sl_scr, bi_lenL, bi_lenR, bi_lenT, bi_lenS, bi_abs, bi_max, bi_min, bi_intI, bi_intB, bi_listL, bi_listT, bi_listR, bi_tupL, bi_tupT, bi_all, bi_any, bi_sum, bi_lenset, bi_repr, au_add, au_sub, ixL0, ixL1, ixL2, esc_b, escQ_f, escQ_t, escQ_v, outR_b, outQ_o, outQ_v, modL_b, modQ_o, vq_tmp, vq_tup, vq_lst, vq_scr, vq_str, vq_b, vQ_o, asgR_b, List.length_map, me_app, me_appB, mt_app, mt_pop0, mt_pop1, mt_ins, mt_clear, mt_rev, mt_join, ws_cell, cellQ_o, cellQ_v, mt_index, mt_count, me_index, me_count, me_join, strLst_i, me_clear, me_rev, me_pop1, me_ins, true_and, isTys, isTy, tyN, Option.map_some, String.reduceBEq, Bool.or_false, Bool.false_or, Bool.or_true, Bool.true_or, Bool.and_false, Bool.and_true, Bool.false_and, Bool.true_and, Bool.not_true, Bool.not_false, List.getElem?_cons_zero, List.getElem?_cons_succ, List.set_cons_zero, List.set_cons_succ, List.map_cons, List.map_nil, List.replicate_succ, List.replicate_zero, List.cons_append, List.nil_append, Nat.sub_self]
      exact q _ _ h1 (h2.mono (by omega)) h3
    · rintro x xs ih acc st' ⟨done, rest, e1, e2, h1, h2, h3⟩
      cases rest with
      | nil => cases e2
      | cons p rest =>
        rw [List.map_cons] at e2
        obtain ⟨rfl, rfl⟩ := List.cons.inj e2
        have hd : done.length < 40 := by
          have := congrArg List.length e1
          simp at this
          omega
        have ha : acc.length = done.length := h1.length
        refine ⟨trivial, ?_⟩
        simp only [ws_cons, ws_nil, ws_asg, ws_sub, ws_expr, ws_ret, ws_retn, ws_iff, ws_for, ws_raise, ws_pass, ws_brk, ws_cnt, ws_aug, we_slot, we_const, we_bin, we_neg, we_cmp, we_chain, we_and, we_or, we_not, we_ite, we_tup, we_lst, we_idx, we_slc, we_comp, we_call, we_bi, we_me, we_isi, we_nil, we_cons, wo_none, wo_some, wt_none, wt_some, wr_val, wr_rng1, wr_rng2, slotQ_val, slotQ_own, negQ_int, notQ_bl, blQ_bl, augQ_int, bc_t, bc_f, dr_d, dr_tmp, dr_brw, brwQ_own, brwQ_val, oq_some, dd_int, dd_str, dd_bl, dd_non, dd_tup, dd_lst, dd_scr, esc_d, esc_tf, esc_tt, escs_nil, escs_cons, drs_nil, drs_cons, asgR_d, asgR_t, asgT_n, outR_d, outR_t, op_add, op_addS, op_addT, op_addL, op_sub, op_mul, op_mulL, op_fdiv, op_mod, op_pow, cm_eq, cm_ne, eq_int, eq_str, eq_bl, eq_non, cm_lt, cm_le, cm_gt, cm_ge, cm_in, cm_notin, cm_is, cm_isnot, ix_lst, ix_scr, ix_tup, ix_str, at_0, at_1, at_2, at_3, sl_tup, sl_lst, sl_scr, bi_lenL, bi_lenR, bi_lenT, bi_lenS, bi_abs, bi_max, bi_min, bi_intI, bi_intB, bi_listL, bi_listT, bi_listR, bi_tupL, bi_tupT, bi_all, bi_any, bi_sum, bi_lenset, bi_repr, au_add, au_sub, ixL0, ixL1, ixL2, esc_b, escQ_f, escQ_t, escQ_v, outR_b, outQ_o, outQ_v, modL_b, modQ_o, vq_tmp, vq_tup, vq_lst, vq_scr, vq_str, vq_b, vQ_o, asgR_b, List.length_map, me_app, me_appB, mt_app, mt_pop0, mt_pop1, mt_ins, mt_clear, mt_rev, mt_join, ws_cell, cellQ_o, cellQ_v, mt_index, mt_count, me_index, me_count, me_join, strLst_i, me_clear, me_rev, me_pop1, me_ins, true_and, isTys, isTy, tyN, Option.map_some, String.reduceBEq, Bool.or_false, Bool.false_or, Bool.or_true, Bool.true_or, Bool.and_false, Bool.and_true, Bool.false_and, Bool.true_and, Bool.not_true, Bool.not_false, List.getElem?_cons_zero, List.getElem?_cons_succ, List.set_cons_zero, List.set_cons_succ, List.map_cons, List.map_nil, List.replicate_succ, List.replicate_zero, List.cons_append, List.nil_append, Nat.sub_self, wipeE]
        refine draw_ok L.draw (by omega) h2 (by omega) (by decide) (by decide) fun v2 cell2 a0 a1 s2 => ?_
        have o2 : Old r st' (st'.set r cell2) := .set
        have hp : Paired (CardH (st'.set r cell2)) acc done := paired_imp h1 fun x y h => h.old h2 o2
        simp only [ws_cons, ws_nil, ws_asg, ws_sub, ws_expr, ws_ret, ws_retn, ws_iff, ws_for, ws_raise, ws_pass, ws_brk, ws_cnt, ws_aug, we_slot, we_const, we_bin, we_neg, we_cmp, we_chain, we_and, we_or, we_not, we_ite, we_tup, we_lst, we_idx, we_slc, we_comp, we_call, we_bi, we_me, we_isi, we_nil, we_cons, wo_none, wo_some, wt_none, wt_some, wr_val, wr_rng1, wr_rng2, slotQ_val, slotQ_own, negQ_int, notQ_bl, blQ_bl, augQ_int, bc_t, bc_f, dr_d, dr_tmp, dr_brw, brwQ_own, brwQ_val, oq_some, dd_int, dd_str, dd_bl, dd_non, dd_tup, dd_lst, dd_scr, esc_d, esc_tf, esc_tt, escs_nil, escs_cons, drs_nil, drs_cons, asgR_d, asgR_t, asgT_n, outR_d, outR_t, op_add, op_addS, op_addT, op_addL, op_sub, op_mul, op_mulL, op_fdiv, op_mod, op_pow, cm_eq, cm_ne, eq_int, eq_str, eq_bl, eq_non, cm_lt, cm_le, cm_gt, cm_ge, cm_in, cm_notin, cm_is, cm_isnot, ix_lst, ix_scr, ix_tup, ix_str, at_0, at_1, at_2, at_3, sl_tup, sl_lst, sl_scr, bi_lenL, bi_lenR, bi_lenT, bi_lenS, bi_abs, bi_max, bi_min, bi_intI, bi_intB, bi_listL, bi_listT, bi_listR, bi_tupL, bi_tupT, bi_all, bi_any, bi_sum, bi_lenset, bi_repr, au_add, au_sub, ixL0, ixL1, ixL2, esc_b, escQ_f, escQ_t, escQ_v, outR_b, outQ_o, outQ_v, modL_b, modQ_o, vq_tmp, vq_tup, vq_lst, vq_scr, vq_str, vq_b, vQ_o, asgR_b, List.length_map, me_app, me_appB, mt_app, mt_pop0, mt_pop1, mt_ins, mt_clear, mt_rev, mt_join, ws_cell, cellQ_o, cellQ_v, mt_index, mt_count, me_index, me_count, me_join, strLst_i, me_clear, me_rev, me_pop1, me_ins, true_and, isTys, isTy, tyN, Option.map_some, String.reduceBEq, Bool.or_false, Bool.false_or, Bool.or_true, Bool.true_or, Bool.and_false, Bool.and_true, Bool.false_and, Bool.true_and, Bool.not_true, Bool.not_false, List.getElem?_cons_zero, List.getElem?_cons_succ, List.set_cons_zero, List.set_cons_succ, List.map_cons, List.map_nil, List.replicate_succ, List.replicate_zero, List.cons_append, List.nil_append, Nat.sub_self, bc_bl]
        refine ⟨fun _ => lists_card L (by omega) ?_, fun _ => ?_⟩
        · simp only [ws_cons, ws_nil, ws_asg, ws_sub, ws_expr, ws_ret, ws_retn, ws_iff, ws_for, ws_raise, ws_pass, ws_brk, ws_cnt, ws_aug, we_slot, we_const, we_bin, we_neg, we_cmp, we_chain, we_and, we_or, we_not, we_ite, we_tup, we_lst, we_idx, we_slc, we_comp, we_call, we_bi, we_me, we_isi, we_nil, we_cons, wo_none, wo_some, wt_none, wt_some, wr_val, wr_rng1, wr_rng2, slotQ_val, slotQ_own, negQ_int, notQ_bl, blQ_bl, augQ_int, bc_t, bc_f, dr_d, dr_tmp, dr_brw, brwQ_own, brwQ_val, oq_some, dd_int, dd_str, dd_bl, dd_non, dd_tup, dd_lst, dd_scr, esc_d, esc_tf, esc_tt, escs_nil, escs_cons, drs_nil, drs_cons, asgR_d, asgR_t, asgT_n, outR_d, outR_t, op_add, op_addS, op_addT, op_addL, op_sub, op_mul, op_mulL, op_fdiv, op_mod, op_pow, cm_eq, cm_ne, eq_int, eq_str, eq_bl, eq_non, cm_lt, cm_le, cm_gt, cm_ge, cm_in, cm_notin, cm_is, cm_isnot, ix_lst, ix_scr, ix_tup, ix_str, at_0, at_1, at_2, at_3, sl_tup, sl_lst, sl_scr, bi_lenL, bi_lenR, bi_lenT, bi_lenS, bi_abs, bi_max, bi_min, bi_intI, bi_intB, bi_listL, bi_listT, bi_listR, bi_tupL, bi_tupT, bi_all, bi_any, bi_sum, bi_lenset, bi_repr, au_add, au_sub, ixL0, ixL1, ixL2, esc_b, escQ_f, escQ_t, escQ_v, outR_b, outQ_o, outQ_v, modL_b, modQ_o, vq_tmp, vq_tup, vq_lst, vq_scr, vq_str, vq_b, vQ_o, asgR_b, List.length_map, me_app, me_appB, mt_app, mt_pop0, mt_pop1, mt_ins, mt_clear, mt_rev, mt_join, ws_cell, cellQ_o, cellQ_v, mt_index, mt_count, me_index, me_count, me_join, strLst_i, me_clear, me_rev, me_pop1, me_ins, true_and, isTys, isTy, tyN, Option.map_some, String.reduceBEq, Bool.or_false, Bool.false_or, Bool.or_true, Bool.true_or, Bool.and_false, Bool.and_true, Bool.false_and, Bool.true_and, Bool.not_true, Bool.not_false, List.getElem?_cons_zero, List.getElem?_cons_succ, List.set_cons_zero, List.set_cons_succ, List.map_cons, List.map_nil, List.replicate_succ, List.replicate_zero, List.cons_append, List.nil_append, Nat.sub_self, backE, List.getD_cons_zero, List.getD_cons_succ]
          refine ⟨by rw [sizeLine_eq]; omega, ih _ _ ⟨done ++ [p], rest, by rw [e1, List.append_assoc]; rfl, rfl, ?_, by rw [List.length_append]; exact s2.app, (h3.trans o2).trans .app⟩⟩
          exact paired_app (paired_imp hp fun x y h => h.old s2 .app) (.cons cardH_new .nil)
        · simp only [ws_cons, ws_nil, ws_asg, ws_sub, ws_expr, ws_ret, ws_retn, ws_iff, ws_for, ws_raise, ws_pass, ws_brk, ws_cnt, ws_aug, we_slot, we_const, we_bin, we_neg, we_cmp, we_chain, we_and, we_or, we_not, we_ite, we_tup, we_lst, we_idx, we_slc, we_comp, we_call, we_bi, we_me, we_isi, we_nil, we_cons, wo_none, wo_some, wt_none, wt_some, wr_val, wr_rng1, wr_rng2, slotQ_val, slotQ_own, negQ_int, notQ_bl, blQ_bl, augQ_int, bc_t, bc_f, dr_d, dr_tmp, dr_brw, brwQ_own, brwQ_val, oq_some, dd_int, dd_str, dd_bl, dd_non, dd_tup, dd_lst, dd_scr, esc_d, esc_tf, esc_tt, escs_nil, escs_cons, drs_nil, drs_cons, asgR_d, asgR_t, asgT_n, outR_d, outR_t, op_add, op_addS, op_addT, op_addL, op_sub, op_mul, op_mulL, op_fdiv, op_mod, op_pow, cm_eq, cm_ne, eq_int, eq_str, eq_bl, eq_non, cm_lt, cm_le, cm_gt, cm_ge, cm_in, cm_notin, cm_is, cm_isnot, ix_lst, ix_scr, ix_tup, ix_str, at_0, at_1, at_2, at_3, sl_tup, sl_lst, sl_scr, bi_lenL, bi_lenR, bi_lenT, bi_lenS, bi_abs, bi_max, bi_min, bi_intI, bi_intB, bi_listL, bi_listT, bi_listR, bi_tupL, bi_tupT, bi_all, bi_any, bi_sum, bi_lenset, bi_repr, au_add, au_sub, ixL0, ixL1, ixL2, esc_b, escQ_f, escQ_t, escQ_v, outR_b, outQ_o, outQ_v, modL_b, modQ_o, vq_tmp, vq_tup, vq_lst, vq_scr, vq_str, vq_b, vQ_o, asgR_b, List.length_map, me_app, me_appB, mt_app, mt_pop0, mt_pop1, mt_ins, mt_clear, mt_rev, mt_join, ws_cell, cellQ_o, cellQ_v, mt_index, mt_count, me_index, me_count, me_join, strLst_i, me_clear, me_rev, me_pop1, me_ins, true_and, isTys, isTy, tyN, Option.map_some, String.reduceBEq, Bool.or_false, Bool.false_or, Bool.or_true, Bool.true_or, Bool.and_false, Bool.and_true, Bool.false_and, Bool.true_and, Bool.not_true, Bool.not_false, List.getElem?_cons_zero, List.getElem?_cons_succ, List.set_cons_zero, List.set_cons_succ, List.map_cons, List.map_nil, List.replicate_succ, List.replicate_zero, List.cons_append, List.nil_append, Nat.sub_self, backE, List.getD_cons_zero, List.getD_cons_succ]
          refine ⟨by rw [sizeLine_eq]; omega, ih _ _ ⟨done ++ [p], rest, by rw [e1, List.append_assoc]; rfl, rfl, ?_, by rw [List.length_append]; exact s2, h3.trans o2⟩⟩
          exact paired_app hp (.cons (.inl rfl) .nil)
  · simp only [deckD, ws_cons, ws_nil, ws_asg, ws_sub, ws_expr, ws_ret, ws_retn, ws_iff, ws_for, ws_raise, ws_pass, ws_brk, ws_cnt, ws_aug, we_slot, we_const, we_bin, we_neg, we_cmp, we_chain, we_and, we_or, we_not, we_ite, we_tup, we_lst, we_idx, we_slc, we_comp, we_call, we_bi, we_me, we_isi, we_nil, we_cons, wo_none, wo_some, wt_none, wt_some, wr_val, wr_rng1, wr_rng2, slotQ_val, slotQ_own, negQ_int, notQ_bl, blQ_bl, augQ_int, bc_t, bc_f, dr_d, dr_tmp, dr_brw, brwQ_own, brwQ_val, oq_some, dd_int, dd_str, dd_bl, dd_non, dd_tup, dd_lst, dd_scr, esc_d, esc_tf, esc_tt, escs_nil, escs_cons, drs_nil, drs_cons, asgR_d, asgR_t, asgT_n, outR_d, outR_t, op_add, op_addS, op_addT, op_addL, op_sub, op_mul, op_mulL, op_fdiv, op_mod, op_pow, cm_eq, cm_ne, eq_int, eq_str, eq_bl, eq_non, cm_lt, cm_le, cm_gt, cm_ge, cm_in, cm_notin, cm_is, cm_isnot, ix_lst, ix_scr, ix_tup, ix_str, at_0, at_1, at_2, at_3, sl_tup, sl_lst, sl_scr, bi_lenL, bi_lenR, bi_lenT, bi_lenS, bi_abs, bi_max, bi_min, bi_intI, bi_intB, bi_listL, bi_listT, bi_listR, bi_tupL, bi_tupT, bi_all, bi_any, bi_sum, bi_lenset, bi_repr, au_add, au_sub, ixL0, ixL1, ixL2, esc_b, escQ_f, escQ_t, escQ_v, outR_b, outQ_o, outQ_v, modL_b, modQ_o, vq_tmp, vq_tup, vq_lst, vq_scr, vq_str, vq_b, vQ_o, asgR_b, List.length_map, me_app, me_appB, mt_app, mt_pop0, mt_pop1, mt_ins, mt_clear, mt_rev, mt_join, ws_cell, cellQ_o, cellQ_v, mt_index, mt_count, me_index, me_count, me_join, strLst_i, me_clear, me_rev, me_pop1, me_ins, true_and, isTys, isTy, tyN, Option.map_some, String.reduceBEq, Bool.or_false, Bool.false_or, Bool.or_true, Bool.true_or, Bool.and_false, Bool.and_true, Bool.false_and, Bool.true_and, Bool.not_true, Bool.not_false, List.getElem?_cons_zero, List.getElem?_cons_succ, List.set_cons_zero, List.set_cons_succ, List.map_cons, List.map_nil, List.replicate_succ, List.replicate_zero, List.cons_append, List.nil_append, Nat.sub_self]
    exact q (.tmp _) _ (plain _) (s1.mono (by omega)) o1
  · simp only [deckD, ws_cons, ws_nil, ws_asg, ws_sub, ws_expr, ws_ret, ws_retn, ws_iff, ws_for, ws_raise, ws_pass, ws_brk, ws_cnt, ws_aug, we_slot, we_const, we_bin, we_neg, we_cmp, we_chain, we_and, we_or, we_not, we_ite, we_tup, we_lst, we_idx, we_slc, we_comp, we_call, we_bi, we_me, we_isi, we_nil, we_cons, wo_none, wo_some, wt_none, wt_some, wr_val, wr_rng1, wr_rng2, slotQ_val, slotQ_own, negQ_int, notQ_bl, blQ_bl, augQ_int, bc_t, bc_f, dr_d, dr_tmp, dr_brw, brwQ_own, brwQ_val, oq_some, dd_int, dd_str, dd_bl, dd_non, dd_tup, dd_lst, dd_scr, esc_d, esc_tf, esc_tt, escs_nil, escs_cons, drs_nil, drs_cons, asgR_d, asgR_t, asgT_n, outR_d, outR_t, op_add, op_addS, op_addT, op_addL, op_sub, op_mul, op_mulL, op_fdiv, op_mod, op_pow, cm_eq, cm_ne, eq_int, eq_str, eq_bl, eq_non, cm_lt, cm_le, cm_gt, cm_ge, cm_in, cm_notin, cm_is, cm_isnot, ix_lst, ix_scr, ix_tup, ix_str, at_0, at_1, at_2, at_3, sl_tup, sl_lst, sl_scr, bi_lenL, bi_lenR, bi_lenT, bi_lenS, bi_abs, bi_max, bi_min, bi_intI, bi_intB, bi_listL, bi_listT, bi_listR, bi_tupL, bi_tupT, bi_all, bi_any, bi_sum, bi_lenset, bi_repr, au_add, au_sub, ixL0, ixL1, ixL2, esc_b, escQ_f, escQ_t, escQ_v, outR_b, outQ_o, outQ_v, modL_b, modQ_o, vq_tmp, vq_tup, vq_lst, vq_scr, vq_str, vq_b, vQ_o, asgR_b, List.length_map, me_app, me_appB, mt_app, mt_pop0, mt_pop1, mt_ins, mt_clear, mt_rev, mt_join, ws_cell, cellQ_o, cellQ_v, mt_index, mt_count, me_index, me_count, me_join, strLst_i, me_clear, me_rev, me_pop1, me_ins, true_and, isTys, isTy, tyN, Option.map_some, String.reduceBEq, Bool.or_false, Bool.false_or, Bool.or_true, Bool.true_or, Bool.and_false, Bool.and_true, Bool.false_and, Bool.true_and, Bool.not_true, Bool.not_false, List.getElem?_cons_zero, List.getElem?_cons_succ, List.set_cons_zero, List.set_cons_succ, List.map_cons, List.map_nil, List.replicate_succ, List.replicate_zero, List.cons_append, List.nil_append, Nat.sub_self]
    exact q (.d (.tup _)) _ (plain _) (s1.mono (by omega)) o1

/-! ### the same -/
/-- plain data, so deep -/
def plainD : Nat → D → Prop
  | _, .non => True
  | _, .bl _ => True
  | _, .int _ => True
  | _, .str _ => True
  | n + 1, .tup ds => ds.length ≤ 1000000 ∧ ∀ d ∈ ds, plainD n d
  | n + 1, .lst ds => ds.length ≤ 1000000 ∧ ∀ d ∈ ds, plainD n d
  | _, _ => False
theorem same_ok (L : Law0 T) : ∀ {n : Nat} {k : Nat} {x : D} {st : PSto} {Q : R → PSto → Prop} {E : Exn → PSto → Prop}, plainD n x → n < k → Q (.d (.bl true)) st → wpC T k "_law_same" [x, x] st Q E := by
  intro n
  induction n with
  | zero =>
    intro k x st Q E hx hk q
    obtain ⟨k, rfl⟩ : ∃ j, k = j + 1 := ⟨k - 1, by omega⟩
    refine wpC_of L.same rfl ?_
    cases x <;> first
      | exact hx.elim
      | (simp only [d__law_same, ws_cons, ws_nil, ws_asg, ws_sub, ws_expr, ws_ret, ws_retn, ws_iff, ws_for, ws_raise, ws_pass, ws_brk, ws_cnt, ws_aug, we_slot, we_const, we_bin, we_neg, we_cmp, we_chain, we_and, we_or, we_not, we_ite, we_tup, we_lst, we_idx, we_slc, we_comp, we_call, we_bi, we_me, we_isi, we_nil, we_cons, wo_none, wo_some, wt_none, wt_some, wr_val, wr_rng1, wr_rng2, slotQ_val, slotQ_own, negQ_int, notQ_bl, blQ_bl, augQ_int, bc_t, bc_f, dr_d, dr_tmp, dr_brw, brwQ_own, brwQ_val, oq_some, dd_int, dd_str, dd_bl, dd_non, dd_tup, dd_lst, dd_scr, esc_d, esc_tf, esc_tt, escs_nil, escs_cons, drs_nil, drs_cons, asgR_d, asgR_t, asgT_n, outR_d, outR_t, op_add, op_addS, op_addT, op_addL, op_sub, op_mul, op_mulL, op_fdiv, op_mod, op_pow, cm_eq, cm_ne, eq_int, eq_str, eq_bl, eq_non, cm_lt, cm_le, cm_gt, cm_ge, cm_in, cm_notin, cm_is, cm_isnot, ix_lst, ix_scr, ix_tup, ix_str, at_0, at_1, at_2, at_3, sl_tup, sl_lst, sl_scr, bi_lenL, bi_lenR, bi_lenT, bi_lenS, bi_abs, bi_max, bi_min, bi_intI, bi_intB, bi_listL, bi_listT, bi_listR, bi_tupL, bi_tupT, bi_all, bi_any, bi_sum, bi_lenset, bi_repr, au_add, au_sub, ixL0, ixL1, ixL2, esc_b, escQ_f, escQ_t, escQ_v, outR_b, outQ_o, outQ_v, modL_b, modQ_o, vq_tmp, vq_tup, vq_lst, vq_scr, vq_str, vq_b, vQ_o, asgR_b, List.length_map, me_app, me_appB, mt_app, mt_pop0, mt_pop1, mt_ins, mt_clear, mt_rev, mt_join, ws_cell, cellQ_o, cellQ_v, mt_index, mt_count, me_index, me_count, me_join, strLst_i, me_clear, me_rev, me_pop1, me_ins, true_and, isTys, isTy, tyN, Option.map_some, String.reduceBEq, Bool.or_false, Bool.false_or, Bool.or_true, Bool.true_or, Bool.and_false, Bool.and_true, Bool.false_and, Bool.true_and, Bool.not_true, Bool.not_false, List.getElem?_cons_zero, List.getElem?_cons_succ, List.set_cons_zero, List.set_cons_succ, List.map_cons, List.map_nil, List.replicate_succ, List.replicate_zero, List.cons_append, List.nil_append, Nat.sub_self, isNon, decide_true]; exact q)
  | succ n ih =>
    intro k x st Q E hx hk q
    obtain ⟨k, rfl⟩ : ∃ j, k = j + 1 := ⟨k - 1, by omega⟩
    have seq : ∀ ds : List D, ds.length ≤ 1000000 → (∀ d ∈ ds, plainD n d) → ∀ x ∈ rngL 0 ds.length, ∀ (f : D → Prop), (∀ d ∈ ds, f d) → ∃ i, x = .int i ∧ ∃ d ∈ ds, L2.atI ds i = some d := fun ds _ _ x hx f _ => by
      obtain ⟨i, hi, rfl⟩ := List.mem_map.mp hx
      have hi := List.mem_range.mp hi
      exact ⟨_, rfl, ds[i], List.getElem_mem hi, by rw [Int.zero_add]; exact L2.atI_nat (List.getElem?_eq_getElem hi)⟩
    have al : ∀ m : Nat, (((List.range m).map fun _ => true).all id) = true := fun m => by rw [List.all_map, List.all_eq_true]; intro _ _; rfl
    have mm : ∀ m : Nat, (rngL 0 m).map (fun _ => D.bl true) = ((List.range m).map fun _ => true).map D.bl := fun m => by
      show List.map _ (List.map _ _) = _
      rw [List.map_map, List.map_map]
      rfl
    refine wpC_of L.same rfl ?_
    cases x with
    | tup ds =>
      obtain ⟨h1, h2⟩ := hx
      simp only [d__law_same, ws_cons, ws_nil, ws_asg, ws_sub, ws_expr, ws_ret, ws_retn, ws_iff, ws_for, ws_raise, ws_pass, ws_brk, ws_cnt, ws_aug, we_slot, we_const, we_bin, we_neg, we_cmp, we_chain, we_and, we_or, we_not, we_ite, we_tup, we_lst, we_idx, we_slc, we_comp, we_call, we_bi, we_me, we_isi, we_nil, we_cons, wo_none, wo_some, wt_none, wt_some, wr_val, wr_rng1, wr_rng2, slotQ_val, slotQ_own, negQ_int, notQ_bl, blQ_bl, augQ_int, bc_t, bc_f, dr_d, dr_tmp, dr_brw, brwQ_own, brwQ_val, oq_some, dd_int, dd_str, dd_bl, dd_non, dd_tup, dd_lst, dd_scr, esc_d, esc_tf, esc_tt, escs_nil, escs_cons, drs_nil, drs_cons, asgR_d, asgR_t, asgT_n, outR_d, outR_t, op_add, op_addS, op_addT, op_addL, op_sub, op_mul, op_mulL, op_fdiv, op_mod, op_pow, cm_eq, cm_ne, eq_int, eq_str, eq_bl, eq_non, cm_lt, cm_le, cm_gt, cm_ge, cm_in, cm_notin, cm_is, cm_isnot, ix_lst, ix_scr, ix_tup, ix_str, at_0, at_1, at_2, at_3, sl_tup, sl_lst, sl_scr, bi_lenL, bi_lenR, bi_lenT, bi_lenS, bi_abs, bi_max, bi_min, bi_intI, bi_intB, bi_listL, bi_listT, bi_listR, bi_tupL, bi_tupT, bi_all, bi_any, bi_sum, bi_lenset, bi_repr, au_add, au_sub, ixL0, ixL1, ixL2, esc_b, escQ_f, escQ_t, escQ_v, outR_b, outQ_o, outQ_v, modL_b, modQ_o, vq_tmp, vq_tup, vq_lst, vq_scr, vq_str, vq_b, vQ_o, asgR_b, List.length_map, me_app, me_appB, mt_app, mt_pop0, mt_pop1, mt_ins, mt_clear, mt_rev, mt_join, ws_cell, cellQ_o, cellQ_v, mt_index, mt_count, me_index, me_count, me_join, strLst_i, me_clear, me_rev, me_pop1, me_ins, true_and, isTys, isTy, tyN, Option.map_some, String.reduceBEq, Bool.or_false, Bool.false_or, Bool.or_true, Bool.true_or, Bool.and_false, Bool.and_true, Bool.false_and, Bool.true_and, Bool.not_true, Bool.not_false, List.getElem?_cons_zero, List.getElem?_cons_succ, List.set_cons_zero, List.set_cons_succ, List.map_cons, List.map_nil, List.replicate_succ, List.replicate_zero, List.cons_append, List.nil_append, Nat.sub_self, decide_true, Int.toNat_natCast]
      refine ⟨⟨by omega, by omega⟩, comp_map (g := fun _ => .bl true) trivial (by unfold rngL; rw [List.length_map, List.length_range, sizeLine_eq]; omega) (fun x hx Q q => ?_) ?_⟩
      · obtain ⟨i, rfl, d, hd, hi⟩ := seq ds h1 h2 x hx (fun _ => True) (fun _ _ => trivial)
        simp only [ws_cons, ws_nil, ws_asg, ws_sub, ws_expr, ws_ret, ws_retn, ws_iff, ws_for, ws_raise, ws_pass, ws_brk, ws_cnt, ws_aug, we_slot, we_const, we_bin, we_neg, we_cmp, we_chain, we_and, we_or, we_not, we_ite, we_tup, we_lst, we_idx, we_slc, we_comp, we_call, we_bi, we_me, we_isi, we_nil, we_cons, wo_none, wo_some, wt_none, wt_some, wr_val, wr_rng1, wr_rng2, slotQ_val, slotQ_own, negQ_int, notQ_bl, blQ_bl, augQ_int, bc_t, bc_f, dr_d, dr_tmp, dr_brw, brwQ_own, brwQ_val, oq_some, dd_int, dd_str, dd_bl, dd_non, dd_tup, dd_lst, dd_scr, esc_d, esc_tf, esc_tt, escs_nil, escs_cons, drs_nil, drs_cons, asgR_d, asgR_t, asgT_n, outR_d, outR_t, op_add, op_addS, op_addT, op_addL, op_sub, op_mul, op_mulL, op_fdiv, op_mod, op_pow, cm_eq, cm_ne, eq_int, eq_str, eq_bl, eq_non, cm_lt, cm_le, cm_gt, cm_ge, cm_in, cm_notin, cm_is, cm_isnot, ix_lst, ix_scr, ix_tup, ix_str, at_0, at_1, at_2, at_3, sl_tup, sl_lst, sl_scr, bi_lenL, bi_lenR, bi_lenT, bi_lenS, bi_abs, bi_max, bi_min, bi_intI, bi_intB, bi_listL, bi_listT, bi_listR, bi_tupL, bi_tupT, bi_all, bi_any, bi_sum, bi_lenset, bi_repr, au_add, au_sub, ixL0, ixL1, ixL2, esc_b, escQ_f, escQ_t, escQ_v, outR_b, outQ_o, outQ_v, modL_b, modQ_o, vq_tmp, vq_tup, vq_lst, vq_scr, vq_str, vq_b, vQ_o, asgR_b, List.length_map, me_app, me_appB, mt_app, mt_pop0, mt_pop1, mt_ins, mt_clear, mt_rev, mt_join, ws_cell, cellQ_o, cellQ_v, mt_index, mt_count, me_index, me_count, me_join, strLst_i, me_clear, me_rev, me_pop1, me_ins, true_and, isTys, isTy, tyN, Option.map_some, String.reduceBEq, Bool.or_false, Bool.false_or, Bool.or_true, Bool.true_or, Bool.and_false, Bool.and_true, Bool.false_and, Bool.true_and, Bool.not_true, Bool.not_false, List.getElem?_cons_zero, List.getElem?_cons_succ, List.set_cons_zero, List.set_cons_succ, List.map_cons, List.map_nil, List.replicate_succ, List.replicate_zero, List.cons_append, List.nil_append, Nat.sub_self, hi] at q ⊢
        exact ih (h2 d hd) (by omega) q
      · rw [mm]
        simp only [ws_cons, ws_nil, ws_asg, ws_sub, ws_expr, ws_ret, ws_retn, ws_iff, ws_for, ws_raise, ws_pass, ws_brk, ws_cnt, ws_aug, we_slot, we_const, we_bin, we_neg, we_cmp, we_chain, we_and, we_or, we_not, we_ite, we_tup, we_lst, we_idx, we_slc, we_comp, we_call, we_bi, we_me, we_isi, we_nil, we_cons, wo_none, wo_some, wt_none, wt_some, wr_val, wr_rng1, wr_rng2, slotQ_val, slotQ_own, negQ_int, notQ_bl, blQ_bl, augQ_int, bc_t, bc_f, dr_d, dr_tmp, dr_brw, brwQ_own, brwQ_val, oq_some, dd_int, dd_str, dd_bl, dd_non, dd_tup, dd_lst, dd_scr, esc_d, esc_tf, esc_tt, escs_nil, escs_cons, drs_nil, drs_cons, asgR_d, asgR_t, asgT_n, outR_d, outR_t, op_add, op_addS, op_addT, op_addL, op_sub, op_mul, op_mulL, op_fdiv, op_mod, op_pow, cm_eq, cm_ne, eq_int, eq_str, eq_bl, eq_non, cm_lt, cm_le, cm_gt, cm_ge, cm_in, cm_notin, cm_is, cm_isnot, ix_lst, ix_scr, ix_tup, ix_str, at_0, at_1, at_2, at_3, sl_tup, sl_lst, sl_scr, bi_lenL, bi_lenR, bi_lenT, bi_lenS, bi_abs, bi_max, bi_min, bi_intI, bi_intB, bi_listL, bi_listT, bi_listR, bi_tupL, bi_tupT, bi_all, bi_any, bi_sum, bi_lenset, bi_repr, au_add, au_sub, ixL0, ixL1, ixL2, esc_b, escQ_f, escQ_t, escQ_v, outR_b, outQ_o, outQ_v, modL_b, modQ_o, vq_tmp, vq_tup, vq_lst, vq_scr, vq_str, vq_b, vQ_o, asgR_b, List.length_map, me_app, me_appB, mt_app, mt_pop0, mt_pop1, mt_ins, mt_clear, mt_rev, mt_join, ws_cell, cellQ_o, cellQ_v, mt_index, mt_count, me_index, me_count, me_join, strLst_i, me_clear, me_rev, me_pop1, me_ins, true_and, isTys, isTy, tyN, Option.map_some, String.reduceBEq, Bool.or_false, Bool.false_or, Bool.or_true, Bool.true_or, Bool.and_false, Bool.and_true, Bool.false_and, Bool.true_and, Bool.not_true, Bool.not_false, List.getElem?_cons_zero, List.getElem?_cons_succ, List.set_cons_zero, List.set_cons_succ, List.map_cons, List.map_nil, List.replicate_succ, List.replicate_zero, List.cons_append, List.nil_append, Nat.sub_self, asBls_map, al]
        exact q
    | lst ds =>
      obtain ⟨h1, h2⟩ := hx
      simp only [d__law_same, ws_cons, ws_nil, ws_asg, ws_sub, ws_expr, ws_ret, ws_retn, ws_iff, ws_for, ws_raise, ws_pass, ws_brk, ws_cnt, ws_aug, we_slot, we_const, we_bin, we_neg, we_cmp, we_chain, we_and, we_or, we_not, we_ite, we_tup, we_lst, we_idx, we_slc, we_comp, we_call, we_bi, we_me, we_isi, we_nil, we_cons, wo_none, wo_some, wt_none, wt_some, wr_val, wr_rng1, wr_rng2, slotQ_val, slotQ_own, negQ_int, notQ_bl, blQ_bl, augQ_int, bc_t, bc_f, dr_d, dr_tmp, dr_brw, brwQ_own, brwQ_val, oq_some, dd_int, dd_str, dd_bl, dd_non, dd_tup, dd_lst, dd_scr, esc_d, esc_tf, esc_tt, escs_nil, escs_cons, drs_nil, drs_cons, asgR_d, asgR_t, asgT_n, outR_d, outR_t, op_add, op_addS, op_addT, op_addL, op_sub, op_mul, op_mulL, op_fdiv, op_mod, op_pow, cm_eq, cm_ne, eq_int, eq_str, eq_bl, eq_non, cm_lt, cm_le, cm_gt, cm_ge, cm_in, cm_notin, cm_is, cm_isnot, ix_lst, ix_scr, ix_tup, ix_str, at_0, at_1, at_2, at_3, sl_tup, sl_lst, sl_scr, bi_lenL, bi_lenR, bi_lenT, bi_lenS, bi_abs, bi_max, bi_min, bi_intI, bi_intB, bi_listL, bi_listT, bi_listR, bi_tupL, bi_tupT, bi_all, bi_any, bi_sum, bi_lenset, bi_repr, au_add, au_sub, ixL0, ixL1, ixL2, esc_b, escQ_f, escQ_t, escQ_v, outR_b, outQ_o, outQ_v, modL_b, modQ_o, vq_tmp, vq_tup, vq_lst, vq_scr, vq_str, vq_b, vQ_o, asgR_b, List.length_map, me_app, me_appB, mt_app, mt_pop0, mt_pop1, mt_ins, mt_clear, mt_rev, mt_join, ws_cell, cellQ_o, cellQ_v, mt_index, mt_count, me_index, me_count, me_join, strLst_i, me_clear, me_rev, me_pop1, me_ins, true_and, isTys, isTy, tyN, Option.map_some, String.reduceBEq, Bool.or_false, Bool.false_or, Bool.or_true, Bool.true_or, Bool.and_false, Bool.and_true, Bool.false_and, Bool.true_and, Bool.not_true, Bool.not_false, List.getElem?_cons_zero, List.getElem?_cons_succ, List.set_cons_zero, List.set_cons_succ, List.map_cons, List.map_nil, List.replicate_succ, List.replicate_zero, List.cons_append, List.nil_append, Nat.sub_self, decide_true, Int.toNat_natCast]
      refine ⟨⟨by omega, by omega⟩, comp_map (g := fun _ => .bl true) trivial (by unfold rngL; rw [List.length_map, List.length_range, sizeLine_eq]; omega) (fun x hx Q q => ?_) ?_⟩
      · obtain ⟨i, rfl, d, hd, hi⟩ := seq ds h1 h2 x hx (fun _ => True) (fun _ _ => trivial)
        simp only [ws_cons, ws_nil, ws_asg, ws_sub, ws_expr, ws_ret, ws_retn, ws_iff, ws_for, ws_raise, ws_pass, ws_brk, ws_cnt, ws_aug, we_slot, we_const, we_bin, we_neg, we_cmp, we_chain, we_and, we_or, we_not, we_ite, we_tup, we_lst, we_idx, we_slc, we_comp, we_call, we_bi, we_me, we_isi, we_nil, we_cons, wo_none, wo_some, wt_none, wt_some, wr_val, wr_rng1, wr_rng2, slotQ_val, slotQ_own, negQ_int, notQ_bl, blQ_bl, augQ_int, bc_t, bc_f, dr_d, dr_tmp, dr_brw, brwQ_own, brwQ_val, oq_some, dd_int, dd_str, dd_bl, dd_non, dd_tup, dd_lst, dd_scr, esc_d, esc_tf, esc_tt, escs_nil, escs_cons, drs_nil, drs_cons, asgR_d, asgR_t, asgT_n, outR_d, outR_t, op_add, op_addS, op_addT, op_addL, op_sub, op_mul, op_mulL, op_fdiv, op_mod, op_pow, cm_eq, cm_ne, eq_int, eq_str, eq_bl, eq_non, cm_lt, cm_le, cm_gt, cm_ge, cm_in, cm_notin, cm_is, cm_isnot, ix_lst, ix_scr, ix_tup, ix_str, at_0, at_1, at_2, at_3, sl_tup, sl_lst, sl_scr, bi_lenL, bi_lenR, bi_lenT, bi_lenS, bi_abs, bi_max, bi_min, bi_intI, bi_intB, bi_listL, bi_listT, bi_listR, bi_tupL, bi_tupT, bi_all, bi_any, bi_sum, bi_lenset, bi_repr, au_add, au_sub, ixL0, ixL1, ixL2, esc_b, escQ_f, escQ_t, escQ_v, outR_b, outQ_o, outQ_v, modL_b, modQ_o, vq_tmp, vq_tup, vq_lst, vq_scr, vq_str, vq_b, vQ_o, asgR_b, List.length_map, me_app, me_appB, mt_app, mt_pop0, mt_pop1, mt_ins, mt_clear, mt_rev, mt_join, ws_cell, cellQ_o, cellQ_v, mt_index, mt_count, me_index, me_count, me_join, strLst_i, me_clear, me_rev, me_pop1, me_ins, true_and, isTys, isTy, tyN, Option.map_some, String.reduceBEq, Bool.or_false, Bool.false_or, Bool.or_true, Bool.true_or, Bool.and_false, Bool.and_true, Bool.false_and, Bool.true_and, Bool.not_true, Bool.not_false, List.getElem?_cons_zero, List.getElem?_cons_succ, List.set_cons_zero, List.set_cons_succ, List.map_cons, List.map_nil, List.replicate_succ, List.replicate_zero, List.cons_append, List.nil_append, Nat.sub_self, hi] at q ⊢
        exact ih (h2 d hd) (by omega) q
      · rw [mm]
        simp only [ws_cons, ws_nil, ws_asg, ws_sub, ws_expr, ws_ret, ws_retn, ws_iff, ws_for, ws_raise, ws_pass, ws_brk, ws_cnt, ws_aug, we_slot, we_const, we_bin, we_neg, we_cmp, we_chain, we_and, we_or, we_not, we_ite, we_tup, we_lst, we_idx, we_slc, we_comp, we_call, we_bi, we_me, we_isi, we_nil, we_cons, wo_none, wo_some, wt_none, wt_some, wr_val, wr_rng1, wr_rng2, slotQ_val, slotQ_own, negQ_int, notQ_bl, blQ_bl, augQ_int, bc_t, bc_f, dr_d, dr_tmp, dr_brw, brwQ_own, brwQ_val, oq_some, dd_int, dd_str, dd_bl, dd_non, dd_tup, dd_lst, dd_scr, esc_d, esc_tf, esc_tt, escs_nil, escs_cons, drs_nil, drs_cons, asgR_d, asgR_t, asgT_n, outR_d, outR_t, op_add, op_addS, op_addT, op_addL, op_sub, op_mul, op_mulL, op_fdiv, op_mod, op_pow, cm_eq, cm_ne, eq_int, eq_str, eq_bl, eq_non, cm_lt, cm_le, cm_gt, cm_ge, cm_in, cm_notin, cm_is, cm_isnot, ix_lst, ix_scr, ix_tup, ix_str, at_0, at_1, at_2, at_3, sl_tup, sl_lst, sl_scr, bi_lenL, bi_lenR, bi_lenT, bi_lenS, bi_abs, bi_max, bi_min, bi_intI, bi_intB, bi_listL, bi_listT, bi_listR, bi_tupL, bi_tupT, bi_all, bi_any, bi_sum, bi_lenset, bi_repr, au_add, au_sub, ixL0, ixL1, ixL2, esc_b, escQ_f, escQ_t, escQ_v, outR_b, outQ_o, outQ_v, modL_b, modQ_o, vq_tmp, vq_tup, vq_lst, vq_scr, vq_str, vq_b, vQ_o, asgR_b, List.length_map, me_app, me_appB, mt_app, mt_pop0, mt_pop1, mt_ins, mt_clear, mt_rev, mt_join, ws_cell, cellQ_o, cellQ_v, mt_index, mt_count, me_index, me_count, me_join, strLst_i, me_clear, me_rev, me_pop1, me_ins, true_and, isTys, isTy, tyN, Option.map_some, String.reduceBEq, Bool.or_false, Bool.false_or, Bool.or_true, Bool.true_or, Bool.and_false, Bool.and_true, Bool.false_and, Bool.true_and, Bool.not_true, Bool.not_false, List.getElem?_cons_zero, List.getElem?_cons_succ, List.set_cons_zero, List.set_cons_succ, List.map_cons, List.map_nil, List.replicate_succ, List.replicate_zero, List.cons_append, List.nil_append, Nat.sub_self, asBls_map, al]
        exact q
    | scr ds => exact hx.elim
    | ref ds => exact hx.elim
    | dic0 => exact hx.elim
    | exc c fs => exact hx.elim
    | _ => simp only [d__law_same, ws_cons, ws_nil, ws_asg, ws_sub, ws_expr, ws_ret, ws_retn, ws_iff, ws_for, ws_raise, ws_pass, ws_brk, ws_cnt, ws_aug, we_slot, we_const, we_bin, we_neg, we_cmp, we_chain, we_and, we_or, we_not, we_ite, we_tup, we_lst, we_idx, we_slc, we_comp, we_call, we_bi, we_me, we_isi, we_nil, we_cons, wo_none, wo_some, wt_none, wt_some, wr_val, wr_rng1, wr_rng2, slotQ_val, slotQ_own, negQ_int, notQ_bl, blQ_bl, augQ_int, bc_t, bc_f, dr_d, dr_tmp, dr_brw, brwQ_own, brwQ_val, oq_some, dd_int, dd_str, dd_bl, dd_non, dd_tup, dd_lst, dd_scr, esc_d, esc_tf, esc_tt, escs_nil, escs_cons, drs_nil, drs_cons, asgR_d, asgR_t, asgT_n, outR_d, outR_t, op_add, op_addS, op_addT, op_addL, op_sub, op_mul, op_mulL, op_fdiv, op_mod, op_pow, cm_eq, cm_ne, eq_int, eq_str, eq_bl, eq_non, cm_lt, cm_le, cm_gt, cm_ge, cm_in, cm_notin, cm_is, cm_isnot, ix_lst, ix_scr, ix_tup, ix_str, at_0, at_1, at_2, at_3, sl_tup, sl_lst, sl_scr, bi_lenL, bi_lenR, bi_lenT, bi_lenS, bi_abs, bi_max, bi_min, bi_intI, bi_intB, bi_listL, bi_listT, bi_listR, bi_tupL, bi_tupT, bi_all, bi_any, bi_sum, bi_lenset, bi_repr, au_add, au_sub, ixL0, ixL1, ixL2, esc_b, escQ_f, escQ_t, escQ_v, outR_b, outQ_o, outQ_v, modL_b, modQ_o, vq_tmp, vq_tup, vq_lst, vq_scr, vq_str, vq_b, vQ_o, asgR_b, List.length_map, me_app, me_appB, mt_app, mt_pop0, mt_pop1, mt_ins, mt_clear, mt_rev, mt_join, ws_cell, cellQ_o, cellQ_v, mt_index, mt_count, me_index, me_count, me_join, strLst_i, me_clear, me_rev, me_pop1, me_ins, true_and, isTys, isTy, tyN, Option.map_some, String.reduceBEq, Bool.or_false, Bool.false_or, Bool.or_true, Bool.true_or, Bool.and_false, Bool.and_true, Bool.false_and, Bool.true_and, Bool.not_true, Bool.not_false, List.getElem?_cons_zero, List.getElem?_cons_succ, List.set_cons_zero, List.set_cons_succ, List.map_cons, List.map_nil, List.replicate_succ, List.replicate_zero, List.cons_append, List.nil_append, Nat.sub_self, isNon, decide_true]; exact q
theorem plain_deck (l : Deck) (hl : l.length ≤ 1000) : plainD 2 (deckD l) := by
  refine ⟨by rw [List.length_map]; omega, fun d hd => ?_⟩
  obtain ⟨p, _, rfl⟩ := List.mem_map.mp hd
  refine ⟨by show 2 ≤ 1000000; decide, fun d hd => ?_⟩
  simp only [List.mem_cons, List.not_mem_nil, or_false] at hd
  rcases hd with rfl | rfl <;> trivial
end LW
set_option maxHeartbeats 4000000
namespace LW
open PySem PI

/-! ### how handed decks are shown -/
theorem showable_short : ∀ (d : PyData), d.showable = true → d.canLay0 = true → d.leavesShort 1921 = true := by
  intro d h1 h2
  refine PyData.leavesShort_of_canLay0 1921 d h2 ?_
  have both : ∀ n, (∀ d : PyData, sizeOf d < n → d.showable = true → d.canLay0 = true → d.intsShort 1921 = true) := by
    intro n
    induction n with
    | zero => intro d h; omega
    | succ n ih =>
      intro d hs h1 h2
      have all : ∀ ds : List PyData, (∀ d ∈ ds, sizeOf d < n) → PyData.showableAll ds = true → PyData.canLayAll0 ds = true → PyData.intsShortAll 1921 ds = true := by
        intro ds
        induction ds with
        | nil => intro _ _ _; rfl
        | cons d ds ihd =>
          intro hd h1 h2
          unfold PyData.showableAll at h1
          unfold PyData.canLayAll0 at h2
          rw [Bool.and_eq_true] at h1 h2
          unfold PyData.intsShortAll
          rw [ih d (hd d List.mem_cons_self) h1.1 h2.1, ihd (fun e he => hd e (List.mem_cons_of_mem _ he)) h1.2 h2.2]
          rfl
      cases d with
      | none => rfl
      | bool b => rfl
      | str x => rfl
      | int i =>
        unfold PyData.showable at h1
        unfold PyData.intsShort
        exact decide_eq_true (PyProof.Rows.int_text_len_1921 (of_decide_eq_true h1))
      | list xs =>
        unfold PyData.showable at h1
        unfold PyData.canLay0 at h2
        unfold PyData.intsShort
        exact all xs (fun e he => by have := List.sizeOf_lt_of_mem he; simp at hs; omega) h1 h2
      | tuple xs =>
        unfold PyData.showable at h1
        unfold PyData.canLay0 at h2
        unfold PyData.intsShort
        exact all xs (fun e he => by have := List.sizeOf_lt_of_mem he; simp at hs; omega) h1 h2
      | dict kvs => unfold PyData.canLay0 at h2; cases h2
  exact both (sizeOf d + 1) d (by omega) h1 h2
def pv (x : D) (p : Str × Int) : PyData := match x with
  | .tup _ => .tuple [.str p.1, .int p.2]
  | _ => .list [.str p.1, .int p.2]
theorem card_view {st : PSto} {x : D} {p : Str × Int} (h : CardH st x p) : D.view st 11 x = some (pv x p) := by
  rcases h with rfl | ⟨i, rfl, h⟩
  · rfl
  · show (match st[i]? with
      | some (.lst ds) => (mapO (D.view st 10) ds).map PyData.list
      | _ => none) = _
    rw [h]
    rfl
theorem cards_view {st : PSto} : ∀ {es : List D} {l : Deck}, Paired (CardH st) es l → mapO (D.view st 11) es = some (List.zipWith pv es l)
  | _, _, .nil => rfl
  | _, _, .cons a t => by
    unfold mapO
    rw [card_view a, cards_view t]
    rfl
/-- what a shown deck keeps -/
structure Shw (p : PyData) : Prop where
  sq : seqD p
  sh : p.showable = true
  dp : p.depth ≤ 12
  ln : p.shown.length ≤ sizeLine
theorem shw_all : ∀ {es : List D} {l : Deck}, es.length = l.length → (∀ p ∈ l, NameOk p.1 ∧ 0 ≤ p.2 ∧ p.2 < 10 ^ 30) → PyData.showableAll (List.zipWith pv es l) = true ∧ PyData.canLayAll0 (List.zipWith pv es l) = true ∧ PyData.depthAll (List.zipWith pv es l) ≤ 1 ∧ PyData.bulkAll (List.zipWith pv es l) ≤ 11 * l.length
  | [], [], _, _ => by
    refine ⟨rfl, rfl, ?_, ?_⟩
    · show (0 : Nat) ≤ 1
      decide
    · show (0 : Nat) ≤ 0
      decide
  | [], _ :: _, h, _ => by cases h
  | _ :: _, [], h, _ => by cases h
  | x :: es, p :: l, h, hp => by
    obtain ⟨h1, h2, h3, h4⟩ := shw_all (es := es) (l := l) (by simpa using h) fun q hq => hp q (List.mem_cons_of_mem _ hq)
    obtain ⟨n1, n2, n3⟩ := hp p List.mem_cons_self
    have l8 : p.1.cps.size ≤ 8 := by have := n1.l8; rw [← sg_len] at this; exact this
    have lg : decide (p.2.natAbs.log2 < 1920) = true := decide_eq_true (Nat.lt_of_lt_of_le (log2_le (n := 100) n2 (Int.lt_trans n3 (by decide)) (by decide)) (by decide))
    have e : (pv x p).showable = true ∧ (pv x p).canLay0 = true ∧ (pv x p).depth ≤ 1 ∧ (pv x p).bulk ≤ 10 := by
      have b : PyData.bulkAll [PyData.str p.1, PyData.int p.2] ≤ 10 := by
        show p.1.cps.size + 1 + (0 + 1 + 0) ≤ 10
        omega
      have s : PyData.showableAll [PyData.str p.1, PyData.int p.2] = true := by
        show (true && (decide (p.2.natAbs.log2 < 1920) && true)) = true
        rw [lg]
        rfl
      have c : PyData.canLayAll0 [PyData.str p.1, PyData.int p.2] = true := by
        show (PyData.strOk p.1 && (true && true)) = true
        rw [n1.ok]
        rfl
      have dd : PyData.depthAll [PyData.str p.1, PyData.int p.2] + 1 ≤ 1 := by
        show max 0 (max 0 0) + 1 ≤ 1
        decide
      unfold pv
      split <;> exact ⟨s, c, dd, b⟩
    obtain ⟨e1, e2, e3, e4⟩ := e
    rw [List.zipWith_cons_cons]
    refine ⟨?_, ?_, ?_, ?_⟩
    · unfold PyData.showableAll
      rw [e1, h1]
      rfl
    · unfold PyData.canLayAll0
      rw [e2, h2]
      rfl
    · unfold PyData.depthAll
      omega
    · unfold PyData.bulkAll
      rw [List.length_cons]
      omega
theorem shw_deck {es : List D} {l : Deck} (h : es.length = l.length) (hl : DeckOk l) : Shw (.list (List.zipWith pv es l)) ∧ Shw (.tuple (List.zipWith pv es l)) := by
  obtain ⟨h1, h2, h3, h4⟩ := shw_all h fun p hp => ⟨hl.nm p hp, hl.dp p hp⟩
  have l40 := hl.l40
  refine ⟨⟨trivial, h1, ?_, ?_⟩, ⟨trivial, h1, ?_, ?_⟩⟩
  · show PyData.depthAll _ + 1 ≤ 12
    omega
  · have q := PyData.shown_le_bulk 1921 (by decide) (.list (List.zipWith pv es l)) (showable_short _ h1 h2)
    have hb : (PyData.list (List.zipWith pv es l)).bulk ≤ 440 := Nat.le_trans h4 (by omega)
    rw [sizeLine_eq]
    omega
  · show PyData.depthAll _ + 1 ≤ 12
    omega
  · have q := PyData.shown_le_bulk 1921 (by decide) (.tuple (List.zipWith pv es l)) (showable_short _ h1 h2)
    have hb : (PyData.tuple (List.zipWith pv es l)).bulk ≤ 440 := Nat.le_trans h4 (by omega)
    rw [sizeLine_eq]
    omega
/-- repr of what is handed on -/
theorem vw_of {st : PSto} {y : D} {p : PyData} {Q : PyData → Prop} (h : D.view st 12 y = some p) (s : Shw p) (q : Q p) : vw st y fun p => seqD p ∧ p.showable = true ∧ p.depth ≤ 12 ∧ p.shown.length ≤ sizeLine ∧ Q p := by
  unfold vw
  rw [h]
  exact ⟨s.sq, s.sh, s.dp, s.ln, q⟩
theorem view_lst {st : PSto} {es : List D} {l : Deck} (h : Paired (CardH st) es l) : D.view st 12 (.lst es) = some (.list (List.zipWith pv es l)) := by
  show (mapO (D.view st 11) es).map PyData.list = _
  rw [cards_view h]
  rfl
theorem view_tup {st : PSto} {es : List D} {l : Deck} (h : Paired (CardH st) es l) : D.view st 12 (.tup es) = some (.tuple (List.zipWith pv es l)) := by
  show (mapO (D.view st 11) es).map PyData.tuple = _
  rw [cards_view h]
  rfl
end LW
namespace LW
open PySem PySem.Spec PyProof.Rows L2 PI
def d_spot_of : FDef := ⟨2, 4, (.cons (.asg (.name 2) (.comp (.idx (.slot 3) (.const (.int 0))) false (.name 3) (.val (.slot 0)) .none [3])) (.cons (.iff (.orv (.notv (.call "is_name" (.cons false (.slot 1) .nil))) (.cmp .notin (.slot 1) (.slot 2))) (.cons (.raise "NoName") .nil) .nil) (.cons (.ret (.me .index (.slot 2) (.cons false (.slot 1) .nil))) .nil)))⟩
def d_laid : FDef := ⟨3, 6, (.cons (.asg (.name 3) (.call "deck_of" (.cons false (.slot 0) .nil))) (.cons (.iff (.notv (.call "is_card" (.cons false (.slot 1) .nil))) (.cons (.raise "NoCard") .nil) .nil) (.cons (.iff (.cmp .isin (.idx (.slot 1) (.const (.int 0))) (.comp (.slot 4) false (.tup [4, 5]) (.val (.slot 3)) .none [4, 5])) (.cons (.raise "Twice") .nil) .nil) (.cons (.iff (.orv (.notv (.call "is_whole" (.cons false (.slot 2) .nil))) (.cmp .gt (.slot 2) (.bi .len (.cons false (.slot 3) .nil)))) (.cons (.raise "NoPlace") .nil) .nil) (.cons (.iff (.cmp .eq (.bi .len (.cons false (.slot 3) .nil)) (.const (.int 40))) (.cons (.raise "Full") .nil) .nil) (.cons (.ret (.bin .add (.bin .add (.slc (.slot 3) .none (.some (.slot 2))) (.tup (.cons false (.tup (.cons false (.idx (.slot 1) (.const (.int 0))) (.cons false (.idx (.slot 1) (.const (.int 1))) .nil))) .nil))) (.slc (.slot 3) (.some (.slot 2)) .none))) .nil))))))⟩
def d_drawn : FDef := ⟨2, 4, (.cons (.asg (.name 2) (.call "deck_of" (.cons false (.slot 0) .nil))) (.cons (.asg (.name 3) (.call "spot_of" (.cons false (.slot 2) (.cons false (.slot 1) .nil)))) (.cons (.iff (.cmp .eq (.bi .len (.cons false (.slot 2) .nil)) (.const (.int 1))) (.cons (.raise "Last") .nil) .nil) (.cons (.ret (.bin .add (.slc (.slot 2) .none (.some (.slot 3))) (.slc (.slot 2) (.some (.bin .add (.slot 3) (.const (.int 1)))) .none))) .nil))))⟩
def d_deepened : FDef := ⟨3, 5, (.cons (.asg (.name 3) (.call "deck_of" (.cons false (.slot 0) .nil))) (.cons (.asg (.name 4) (.call "spot_of" (.cons false (.slot 3) (.cons false (.slot 1) .nil)))) (.cons (.iff (.notv (.call "is_whole" (.cons false (.slot 2) .nil))) (.cons (.raise "NoDepth") .nil) .nil) (.cons (.ret (.bin .add (.bin .add (.slc (.slot 3) .none (.some (.slot 4))) (.tup (.cons false (.tup (.cons false (.idx (.idx (.slot 3) (.slot 4)) (.const (.int 0))) (.cons false (.slot 2) .nil))) .nil))) (.slc (.slot 3) (.some (.bin .add (.slot 4) (.const (.int 1)))) .none))) .nil))))⟩
def d_law : FDef := ⟨1, 18, (.cons (.asg (.name 1) (.call "_law_spring" (.cons false (.slot 0) .nil))) (.cons (.cell 1) (.cons (.forr (.name 2) (.rng1 (.bin .add (.const (.int 2)) (.bi .min2 (.cons false (.bi .len (.cons false (.slot 0) .nil)) (.cons false (.const (.int 8)) .nil))))) (.cons (.asg (.name 3) (.call "_law_deck" (.cons true (.slot 1) (.cons false (.const (.int 40)) .nil)))) (.cons (.asg (.name 4) (.call "_law_handed" (.cons true (.slot 1) (.cons false (.slot 3) .nil)))) (.cons (.cell 4) (.cons (.asg (.name 5) (.bi .repr (.cons false (.slot 4) .nil))) (.cons (.asg (.name 6) (.idx (.lst (.cons false (.call "_law_draw" (.cons true (.slot 1) (.cons false (.const (.int 5)) .nil))) (.cons false (.call "_law_draw" (.cons true (.slot 1) (.cons false (.bin .add (.bi .len (.cons false (.slot 3) .nil)) (.const (.int 2))) .nil))) (.cons false (.bin .sub (.bin .pow (.const (.int 10)) (.const (.int 30))) (.const (.int 1))) (.cons false (.const (.int 0)) .nil))))) (.call "_law_draw" (.cons true (.slot 1) (.cons false (.const (.int 4)) .nil))))) (.cons (.asg (.name 7) (.idx (.lst (.cons false (.const (.str (Str.ofString "zzz"))) (.cons false (.const (.str (Str.ofString "aaaaaaaa"))) (.cons false (.const (.str (Str.ofString "q"))) .nil)))) (.call "_law_draw" (.cons true (.slot 1) (.cons false (.const (.int 3)) .nil))))) (.cons (.asg (.name 8) (.idx (.lst (.cons false (.const (.int 0)) (.cons false (.bi .len (.cons false (.slot 3) .nil)) (.cons false (.call "_law_draw" (.cons true (.slot 1) (.cons false (.bin .add (.bi .len (.cons false (.slot 3) .nil)) (.const (.int 1))) .nil))) .nil)))) (.call "_law_draw" (.cons true (.slot 1) (.cons false (.const (.int 3)) .nil))))) (.cons (.asg (.name 9) (.call "_law_draw" (.cons true (.slot 1) (.cons false (.bi .len (.cons false (.slot 3) .nil)) .nil)))) (.cons (.asg (.name 10) (.idx (.idx (.slot 3) (.slot 9)) (.const (.int 0)))) (.cons (.iff (.andv (.cmp .lt (.bi .len (.cons false (.slot 3) .nil)) (.const (.int 40))) (.cmp .notin (.slot 7) (.comp (.idx (.slot 15) (.const (.int 0))) false (.name 15) (.val (.slot 3)) .none [15]))) (.cons (.asg (.name 15) (.idx (.lst (.cons false (.tup (.cons false (.slot 7) (.cons false (.slot 6) .nil))) (.cons false (.lst (.cons false (.slot 7) (.cons false (.slot 6) .nil))) .nil))) (.call "_law_draw" (.cons true (.slot 1) (.cons false (.const (.int 2)) .nil))))) (.cons (.asg (.name 16) (.bin .add (.bin .add (.slc (.slot 3) .none (.some (.slot 8))) (.tup (.cons false (.tup (.cons false (.slot 7) (.cons false (.slot 6) .nil))) .nil))) (.slc (.slot 3) (.some (.slot 8)) .none))) (.cons (.forr (.name 17) (.rng1 (.const (.int 2))) (.cons (.iff (.notv (.call "_law_same" (.cons false (.call "laid" (.cons true (.slot 4) (.cons false (.slot 15) (.cons false (.slot 8) .nil)))) (.cons false (.slot 16) .nil)))) (.cons (.ret (.const (.bl false))) .nil) .nil) .nil)) .nil))) .nil) (.cons (.asg (.name 11) (.bin .add (.slc (.slot 3) .none (.some (.slot 9))) (.slc (.slot 3) (.some (.bin .add (.slot 9) (.const (.int 1)))) .none))) (.cons (.iff (.andv (.cmp .gt (.bi .len (.cons false (.slot 3) .nil)) (.const (.int 1))) (.notv (.call "_law_same" (.cons false (.call "drawn" (.cons true (.slot 4) (.cons false (.slot 10) .nil))) (.cons false (.slot 11) .nil))))) (.cons (.ret (.const (.bl false))) .nil) .nil) (.cons (.asg (.name 12) (.bin .add (.bin .add (.slc (.slot 3) .none (.some (.slot 9))) (.tup (.cons false (.tup (.cons false (.slot 10) (.cons false (.slot 6) .nil))) .nil))) (.slc (.slot 3) (.some (.bin .add (.slot 9) (.const (.int 1)))) .none))) (.cons (.iff (.orv (.notv (.call "_law_same" (.cons false (.call "deepened" (.cons true (.slot 4) (.cons false (.slot 10) (.cons false (.slot 6) .nil)))) (.cons false (.slot 12) .nil)))) (.cmp .ne (.bi .repr (.cons false (.slot 4) .nil)) (.slot 5))) (.cons (.ret (.const (.bl false))) .nil) .nil) (.cons (.asg (.name 13) (.call "deepened" (.cons false (.call "deepened" (.cons true (.slot 4) (.cons false (.slot 10) (.cons false (.slot 6) .nil)))) (.cons false (.slot 10) (.cons false (.idx (.idx (.slot 3) (.slot 9)) (.const (.int 1))) .nil))))) (.cons (.asg (.name 14) (.call "deepened" (.cons true (.slot 4) (.cons false (.slot 10) (.cons false (.slot 6) .nil))))) (.cons (.forr (.name 15) (.val (.slot 4)) (.cons (.iff (.isi (.slot 15) [.b "list"]) (.cons (.expr (.me .clear (.slot 15) .nil)) .nil) .nil) .nil)) (.cons (.iff (.orv (.notv (.call "_law_same" (.cons false (.slot 13) (.cons false (.slot 3) .nil)))) (.notv (.call "_law_same" (.cons false (.slot 14) (.cons false (.slot 12) .nil))))) (.cons (.ret (.const (.bl false))) .nil) .nil) .nil))))))))))))))))))) (.cons (.ret (.const (.bl true))) .nil))))⟩
def tabF : String → Option FDef
  | "is_whole" => some d_is_whole
  | "is_row" => some d_is_row
  | "is_name" => some d_is_name
  | "is_card" => some d_is_card
  | "deck_of" => some d_deck_of
  | "spot_of" => some d_spot_of
  | "laid" => some d_laid
  | "drawn" => some d_drawn
  | "deepened" => some d_deepened
  | "_law_spring" => some d__law_spring
  | "_law_draw" => some d__law_draw
  | "_law_names" => some d__law_names
  | "_law_deck" => some d__law_deck
  | "_law_lists" => some d__law_lists
  | "_law_handed" => some d__law_handed
  | "_law_same" => some d__law_same
  | "law" => some d_law
  | _ => none
def TT : Tab := ⟨tabF, fun _ _ => false⟩
end LW
namespace LW
open PySem PySem.Spec PyProof.Rows L2 PI
def topS (i : Nat) : Stmt := PySem.Challenge.pw_slideback_k04_decks_told_otherwise.main.body.getD i (.Pass ⟨0, 0, 0, 0⟩)
def cc : CC := { N := [], fns := [(Str.ofString "is_whole", "is_whole"), (Str.ofString "is_row", "is_row"), (Str.ofString "is_name", "is_name"), (Str.ofString "is_card", "is_card"), (Str.ofString "deck_of", "deck_of"), (Str.ofString "spot_of", "spot_of"), (Str.ofString "laid", "laid"), (Str.ofString "drawn", "drawn"), (Str.ofString "deepened", "deepened"), (Str.ofString "_law_spring", "_law_spring"), (Str.ofString "_law_draw", "_law_draw"), (Str.ofString "_law_names", "_law_names"), (Str.ofString "_law_deck", "_law_deck"), (Str.ofString "_law_lists", "_law_lists"), (Str.ofString "_law_handed", "_law_handed"), (Str.ofString "_law_same", "_law_same"), (Str.ofString "law", "law")], bis := [Str.ofString "isinstance", Str.ofString "bool", Str.ofString "int", Str.ofString "len", Str.ofString "list", Str.ofString "tuple", Str.ofString "all", Str.ofString "str", Str.ofString "set", Str.ofString "abs", Str.ofString "range", Str.ofString "max", Str.ofString "min", Str.ofString "repr"], cons := [(Str.ofString "LETTERS", (.str (Str.ofString "abcdefghijklmnopqrstuvwxyz"))), (Str.ofString "MOST_LETTERS", (.int 8)), (Str.ofString "MOST_CARDS", (.int 40))], excs := ["NoDeck", "NoName", "Full", "NoPlace", "Twice", "NoCard", "Last", "NoDepth"] }
def r_is_whole : DefR := ⟨Str.ofString "is_whole", "is_whole", topS 14, [Str.ofString "thing"], [Str.ofString "thing"], d_is_whole⟩
theorem s_is_whole : DefS cc (r_is_whole).sm (r_is_whole).N (r_is_whole).ps (r_is_whole).d := ⟨⟨rfl, rfl, rfl, by decide +kernel, rfl, by decide +kernel, by decide +kernel⟩, rfl, rfl, fun _ _ _ _ _ _ _ _ us hl => match us, hl with | [_], _ => rfl, by decide +kernel⟩
def r_is_row : DefR := ⟨Str.ofString "is_row", "is_row", topS 15, [Str.ofString "thing", Str.ofString "size"], [Str.ofString "thing", Str.ofString "size"], d_is_row⟩
theorem s_is_row : DefS cc (r_is_row).sm (r_is_row).N (r_is_row).ps (r_is_row).d := ⟨⟨rfl, rfl, rfl, by decide +kernel, rfl, by decide +kernel, by decide +kernel⟩, rfl, rfl, fun _ _ _ _ _ _ _ _ us hl => match us, hl with | [_, _], _ => rfl, by decide +kernel⟩
def r_is_name : DefR := ⟨Str.ofString "is_name", "is_name", topS 16, [Str.ofString "thing", Str.ofString "sign"], [Str.ofString "thing"], d_is_name⟩
theorem s_is_name : DefS cc (r_is_name).sm (r_is_name).N (r_is_name).ps (r_is_name).d := ⟨⟨rfl, rfl, rfl, by decide +kernel, rfl, by decide +kernel, by decide +kernel⟩, rfl, rfl, fun _ _ _ _ _ _ _ _ us hl => match us, hl with | [_], _ => rfl, by decide +kernel⟩
def r_is_card : DefR := ⟨Str.ofString "is_card", "is_card", topS 17, [Str.ofString "thing"], [Str.ofString "thing"], d_is_card⟩
theorem s_is_card : DefS cc (r_is_card).sm (r_is_card).N (r_is_card).ps (r_is_card).d := ⟨⟨rfl, rfl, rfl, by decide +kernel, rfl, by decide +kernel, by decide +kernel⟩, rfl, rfl, fun _ _ _ _ _ _ _ _ us hl => match us, hl with | [_], _ => rfl, by decide +kernel⟩
def r_deck_of : DefR := ⟨Str.ofString "deck_of", "deck_of", topS 18, [Str.ofString "cards", Str.ofString "card"], [Str.ofString "cards"], d_deck_of⟩
theorem s_deck_of : DefS cc (r_deck_of).sm (r_deck_of).N (r_deck_of).ps (r_deck_of).d := ⟨⟨rfl, rfl, rfl, by decide +kernel, rfl, by decide +kernel, by decide +kernel⟩, rfl, rfl, fun _ _ _ _ _ _ _ _ us hl => match us, hl with | [_], _ => rfl, by decide +kernel⟩
def r_spot_of : DefR := ⟨Str.ofString "spot_of", "spot_of", topS 19, [Str.ofString "deck", Str.ofString "name", Str.ofString "names", Str.ofString "card"], [Str.ofString "deck", Str.ofString "name"], d_spot_of⟩
theorem s_spot_of : DefS cc (r_spot_of).sm (r_spot_of).N (r_spot_of).ps (r_spot_of).d := ⟨⟨rfl, rfl, rfl, by decide +kernel, rfl, by decide +kernel, by decide +kernel⟩, rfl, rfl, fun _ _ _ _ _ _ _ _ us hl => match us, hl with | [_, _], _ => rfl, by decide +kernel⟩
def r_laid : DefR := ⟨Str.ofString "laid", "laid", topS 20, [Str.ofString "deck", Str.ofString "card", Str.ofString "place", Str.ofString "own", Str.ofString "one", Str.ofString "depth"], [Str.ofString "deck", Str.ofString "card", Str.ofString "place"], d_laid⟩
theorem s_laid : DefS cc (r_laid).sm (r_laid).N (r_laid).ps (r_laid).d := ⟨⟨rfl, rfl, rfl, by decide +kernel, rfl, by decide +kernel, by decide +kernel⟩, rfl, rfl, fun _ _ _ _ _ _ _ _ us hl => match us, hl with | [_, _, _], _ => rfl, by decide +kernel⟩
def r_drawn : DefR := ⟨Str.ofString "drawn", "drawn", topS 21, [Str.ofString "deck", Str.ofString "name", Str.ofString "own", Str.ofString "place"], [Str.ofString "deck", Str.ofString "name"], d_drawn⟩
theorem s_drawn : DefS cc (r_drawn).sm (r_drawn).N (r_drawn).ps (r_drawn).d := ⟨⟨rfl, rfl, rfl, by decide +kernel, rfl, by decide +kernel, by decide +kernel⟩, rfl, rfl, fun _ _ _ _ _ _ _ _ us hl => match us, hl with | [_, _], _ => rfl, by decide +kernel⟩
def r_deepened : DefR := ⟨Str.ofString "deepened", "deepened", topS 22, [Str.ofString "deck", Str.ofString "name", Str.ofString "depth", Str.ofString "own", Str.ofString "place"], [Str.ofString "deck", Str.ofString "name", Str.ofString "depth"], d_deepened⟩
theorem s_deepened : DefS cc (r_deepened).sm (r_deepened).N (r_deepened).ps (r_deepened).d := ⟨⟨rfl, rfl, rfl, by decide +kernel, rfl, by decide +kernel, by decide +kernel⟩, rfl, rfl, fun _ _ _ _ _ _ _ _ us hl => match us, hl with | [_, _, _], _ => rfl, by decide +kernel⟩
def r__law_spring : DefR := ⟨Str.ofString "_law_spring", "_law_spring", topS 24, [Str.ofString "script", Str.ofString "figures", Str.ofString "stir", Str.ofString "cell"], [Str.ofString "script"], d__law_spring⟩
theorem s__law_spring : DefS cc (r__law_spring).sm (r__law_spring).N (r__law_spring).ps (r__law_spring).d := ⟨⟨rfl, rfl, rfl, by decide +kernel, rfl, by decide +kernel, by decide +kernel⟩, rfl, rfl, fun _ _ _ _ _ _ _ _ us hl => match us, hl with | [_], _ => rfl, by decide +kernel⟩
def r__law_draw : DefR := ⟨Str.ofString "_law_draw", "_law_draw", topS 25, [Str.ofString "spring", Str.ofString "many", Str.ofString "stir", Str.ofString "found"], [Str.ofString "spring", Str.ofString "many"], d__law_draw⟩
theorem s__law_draw : DefS cc (r__law_draw).sm (r__law_draw).N (r__law_draw).ps (r__law_draw).d := ⟨⟨rfl, rfl, rfl, by decide +kernel, rfl, by decide +kernel, by decide +kernel⟩, rfl, rfl, fun _ _ _ _ _ _ _ _ us hl => match us, hl with | [_, _], _ => rfl, by decide +kernel⟩
def r__law_names : DefR := ⟨Str.ofString "_law_names", "_law_names", topS 26, [Str.ofString "spring", Str.ofString "many", Str.ofString "spare", Str.ofString "found", Str.ofString "k", Str.ofString "letters", Str.ofString "word", Str.ofString "sign", Str.ofString "one"], [Str.ofString "spring", Str.ofString "many"], d__law_names⟩
theorem s__law_names : DefS cc (r__law_names).sm (r__law_names).N (r__law_names).ps (r__law_names).d := ⟨⟨rfl, rfl, rfl, by decide +kernel, rfl, by decide +kernel, by decide +kernel⟩, rfl, rfl, fun _ _ _ _ _ _ _ _ us hl => match us, hl with | [_, _], _ => rfl, by decide +kernel⟩
def r__law_deck : DefR := ⟨Str.ofString "_law_deck", "_law_deck", topS 27, [Str.ofString "spring", Str.ofString "most", Str.ofString "many", Str.ofString "kind", Str.ofString "alike", Str.ofString "found", Str.ofString "name", Str.ofString "place", Str.ofString "some"], [Str.ofString "spring", Str.ofString "most"], d__law_deck⟩
theorem s__law_deck : DefS cc (r__law_deck).sm (r__law_deck).N (r__law_deck).ps (r__law_deck).d := ⟨⟨rfl, rfl, rfl, by decide +kernel, rfl, by decide +kernel, by decide +kernel⟩, rfl, rfl, fun _ _ _ _ _ _ _ _ us hl => match us, hl with | [_, _], _ => rfl, by decide +kernel⟩
def r__law_lists : DefR := ⟨Str.ofString "_law_lists", "_law_lists", topS 28, [Str.ofString "thing", Str.ofString "inner"], [Str.ofString "thing"], d__law_lists⟩
theorem s__law_lists : DefS cc (r__law_lists).sm (r__law_lists).N (r__law_lists).ps (r__law_lists).d := ⟨⟨rfl, rfl, rfl, by decide +kernel, rfl, by decide +kernel, by decide +kernel⟩, rfl, rfl, fun _ _ _ _ _ _ _ _ us hl => match us, hl with | [_], _ => rfl, by decide +kernel⟩
def r__law_handed : DefR := ⟨Str.ofString "_law_handed", "_law_handed", topS 29, [Str.ofString "spring", Str.ofString "thing", Str.ofString "kind", Str.ofString "one"], [Str.ofString "spring", Str.ofString "thing"], d__law_handed⟩
theorem s__law_handed : DefS cc (r__law_handed).sm (r__law_handed).N (r__law_handed).ps (r__law_handed).d := ⟨⟨rfl, rfl, rfl, by decide +kernel, rfl, by decide +kernel, by decide +kernel⟩, rfl, rfl, fun _ _ _ _ _ _ _ _ us hl => match us, hl with | [_, _], _ => rfl, by decide +kernel⟩
def r__law_same : DefR := ⟨Str.ofString "_law_same", "_law_same", topS 30, [Str.ofString "found", Str.ofString "due", Str.ofString "k"], [Str.ofString "found", Str.ofString "due"], d__law_same⟩
theorem s__law_same : DefS cc (r__law_same).sm (r__law_same).N (r__law_same).ps (r__law_same).d := ⟨⟨rfl, rfl, rfl, by decide +kernel, rfl, by decide +kernel, by decide +kernel⟩, rfl, rfl, fun _ _ _ _ _ _ _ _ us hl => match us, hl with | [_, _], _ => rfl, by decide +kernel⟩
def r_law : DefR := ⟨Str.ofString "law", "law", topS 31, [Str.ofString "script", Str.ofString "spring", Str.ofString "turn", Str.ofString "deck", Str.ofString "handed", Str.ofString "stays", Str.ofString "depth", Str.ofString "name", Str.ofString "place", Str.ofString "at", Str.ofString "there", Str.ofString "fewer", Str.ofString "due", Str.ofString "again_deep", Str.ofString "told", Str.ofString "card", Str.ofString "more", Str.ofString "again"], [Str.ofString "script"], d_law⟩
theorem s_law : DefS cc (r_law).sm (r_law).N (r_law).ps (r_law).d := ⟨⟨rfl, rfl, rfl, by decide +kernel, rfl, by decide +kernel, by decide +kernel⟩, rfl, rfl, fun _ _ _ _ _ _ _ _ us hl => match us, hl with | [_], _ => rfl, by decide +kernel⟩
def defs : List DefR := [r_is_whole, r_is_row, r_is_name, r_is_card, r_deck_of, r_spot_of, r_laid, r_drawn, r_deepened, r__law_spring, r__law_draw, r__law_names, r__law_deck, r__law_lists, r__law_handed, r__law_same, r_law]
theorem st_ok : AllD (fun r => TT.fn r.fn = some r.d ∧ DefS cc r.sm r.N r.ps r.d) defs := ⟨⟨rfl, s_is_whole⟩, ⟨rfl, s_is_row⟩, ⟨rfl, s_is_name⟩, ⟨rfl, s_is_card⟩, ⟨rfl, s_deck_of⟩, ⟨rfl, s_spot_of⟩, ⟨rfl, s_laid⟩, ⟨rfl, s_drawn⟩, ⟨rfl, s_deepened⟩, ⟨rfl, s__law_spring⟩, ⟨rfl, s__law_draw⟩, ⟨rfl, s__law_names⟩, ⟨rfl, s__law_deck⟩, ⟨rfl, s__law_lists⟩, ⟨rfl, s__law_handed⟩, ⟨rfl, s__law_same⟩, ⟨rfl, s_law⟩, trivial⟩
end LW
set_option maxHeartbeats 4000000
namespace LW
open PySem PI
variable {T : Tab} {k : Nat} {st : PSto} {Q : R → PSto → Prop} {E : Exn → PSto → Prop}

/-! ### decks told otherwise -/
theorem deck_sz {l : Deck} (h : DeckOk l) : l.length ≤ sizeLine := by rw [sizeLine_eq]; have := h.l40; omega
theorem deck_pairs {l : Deck} : ∀ x ∈ l.map cardD, ∃ a b, x = .tup [a, b] := fun x hx => by
  obtain ⟨p, _, rfl⟩ := List.mem_map.mp hx
  exact ⟨_, _, rfl⟩
def headD : D → D
  | .tup (a :: _) => a
  | _ => .non
theorem heads (l : Deck) : (l.map cardD).map headD = (l.map (·.1)).map D.str := by
  rw [List.map_map, List.map_map]
  rfl
theorem spot_ok (P : Prog0 T) (hS : T.fn "spot_of" = some d_spot_of) (hk : 2 ≤ k) {l : Deck} {n : Str} {i : Nat} (hl : DeckOk l) (hi : (l.map (·.1))[i]? = some n) (q : Q (.d (.int (i : Nat))) st) : wpC T k "spot_of" [deckD l, .str n] st Q E := by
  obtain ⟨k, rfl⟩ : ∃ j, k = j + 1 := ⟨k - 1, by omega⟩
  have hm : n ∈ l.map (·.1) := List.mem_of_getElem? hi
  have hn : NameOk n := by
    obtain ⟨p, hp, rfl⟩ := List.mem_map.mp hm
    exact hl.nm p hp
  have all : ∀ m ∈ l.map (·.1), PyData.strOk m = true := fun m hm => by
    obtain ⟨p, hp, rfl⟩ := List.mem_map.mp hm
    exact (hl.nm p hp).ok
  refine wpC_of hS rfl ?_
  simp only [d_spot_of, deckD, ws_cons, ws_nil, ws_asg, ws_sub, ws_expr, ws_ret, ws_retn, ws_iff, ws_for, ws_raise, ws_pass, ws_brk, ws_cnt, ws_aug, we_slot, we_const, we_bin, we_neg, we_cmp, we_chain, we_and, we_or, we_not, we_ite, we_tup, we_lst, we_idx, we_slc, we_comp, we_call, we_bi, we_me, we_isi, we_nil, we_cons, wo_none, wo_some, wt_none, wt_some, wr_val, wr_rng1, wr_rng2, slotQ_val, slotQ_own, negQ_int, notQ_bl, blQ_bl, augQ_int, bc_t, bc_f, dr_d, dr_tmp, dr_brw, brwQ_own, brwQ_val, oq_some, dd_int, dd_str, dd_bl, dd_non, dd_tup, dd_lst, dd_scr, esc_d, esc_tf, esc_tt, escs_nil, escs_cons, drs_nil, drs_cons, asgR_d, asgR_t, asgT_n, outR_d, outR_t, op_add, op_addS, op_addT, op_addL, op_sub, op_mul, op_mulL, op_fdiv, op_mod, op_pow, cm_eq, cm_ne, eq_int, eq_str, eq_bl, eq_non, cm_lt, cm_le, cm_gt, cm_ge, cm_in, cm_notin, cm_is, cm_isnot, ix_lst, ix_scr, ix_tup, ix_str, at_0, at_1, at_2, at_3, sl_tup, sl_lst, sl_scr, bi_lenL, bi_lenR, bi_lenT, bi_lenS, bi_abs, bi_max, bi_min, bi_intI, bi_intB, bi_listL, bi_listT, bi_listR, bi_tupL, bi_tupT, bi_all, bi_any, bi_sum, bi_lenset, bi_repr, au_add, au_sub, ixL0, ixL1, ixL2, esc_b, escQ_f, escQ_t, escQ_v, outR_b, outQ_o, outQ_v, modL_b, modQ_o, vq_tmp, vq_tup, vq_lst, vq_scr, vq_str, vq_b, vQ_o, asgR_b, List.length_map, me_app, me_appB, mt_app, mt_pop0, mt_pop1, mt_ins, mt_clear, mt_rev, mt_join, ws_cell, cellQ_o, cellQ_v, mt_index, mt_count, me_index, me_count, me_join, strLst_i, me_clear, me_rev, me_pop1, me_ins, true_and, isTys, isTy, tyN, Option.map_some, String.reduceBEq, Bool.or_false, Bool.false_or, Bool.or_true, Bool.true_or, Bool.and_false, Bool.and_true, Bool.false_and, Bool.true_and, Bool.not_true, Bool.not_false, List.getElem?_cons_zero, List.getElem?_cons_succ, List.set_cons_zero, List.set_cons_succ, List.map_cons, List.map_nil, List.replicate_succ, List.replicate_zero, List.cons_append, List.nil_append, Nat.sub_self]
  refine comp_map (g := headD) trivial (by rw [List.length_map]; exact deck_sz hl) (fun x hx Q q => ?_) ?_
  · obtain ⟨p, _, rfl⟩ := List.mem_map.mp hx
    simp only [cardD, headD, ws_cons, ws_nil, ws_asg, ws_sub, ws_expr, ws_ret, ws_retn, ws_iff, ws_for, ws_raise, ws_pass, ws_brk, ws_cnt, ws_aug, we_slot, we_const, we_bin, we_neg, we_cmp, we_chain, we_and, we_or, we_not, we_ite, we_tup, we_lst, we_idx, we_slc, we_comp, we_call, we_bi, we_me, we_isi, we_nil, we_cons, wo_none, wo_some, wt_none, wt_some, wr_val, wr_rng1, wr_rng2, slotQ_val, slotQ_own, negQ_int, notQ_bl, blQ_bl, augQ_int, bc_t, bc_f, dr_d, dr_tmp, dr_brw, brwQ_own, brwQ_val, oq_some, dd_int, dd_str, dd_bl, dd_non, dd_tup, dd_lst, dd_scr, esc_d, esc_tf, esc_tt, escs_nil, escs_cons, drs_nil, drs_cons, asgR_d, asgR_t, asgT_n, outR_d, outR_t, op_add, op_addS, op_addT, op_addL, op_sub, op_mul, op_mulL, op_fdiv, op_mod, op_pow, cm_eq, cm_ne, eq_int, eq_str, eq_bl, eq_non, cm_lt, cm_le, cm_gt, cm_ge, cm_in, cm_notin, cm_is, cm_isnot, ix_lst, ix_scr, ix_tup, ix_str, at_0, at_1, at_2, at_3, sl_tup, sl_lst, sl_scr, bi_lenL, bi_lenR, bi_lenT, bi_lenS, bi_abs, bi_max, bi_min, bi_intI, bi_intB, bi_listL, bi_listT, bi_listR, bi_tupL, bi_tupT, bi_all, bi_any, bi_sum, bi_lenset, bi_repr, au_add, au_sub, ixL0, ixL1, ixL2, esc_b, escQ_f, escQ_t, escQ_v, outR_b, outQ_o, outQ_v, modL_b, modQ_o, vq_tmp, vq_tup, vq_lst, vq_scr, vq_str, vq_b, vQ_o, asgR_b, List.length_map, me_app, me_appB, mt_app, mt_pop0, mt_pop1, mt_ins, mt_clear, mt_rev, mt_join, ws_cell, cellQ_o, cellQ_v, mt_index, mt_count, me_index, me_count, me_join, strLst_i, me_clear, me_rev, me_pop1, me_ins, true_and, isTys, isTy, tyN, Option.map_some, String.reduceBEq, Bool.or_false, Bool.false_or, Bool.or_true, Bool.true_or, Bool.and_false, Bool.and_true, Bool.false_and, Bool.true_and, Bool.not_true, Bool.not_false, List.getElem?_cons_zero, List.getElem?_cons_succ, List.set_cons_zero, List.set_cons_succ, List.map_cons, List.map_nil, List.replicate_succ, List.replicate_zero, List.cons_append, List.nil_append, Nat.sub_self] at q ⊢
    exact q
  · rw [heads]
    simp only [ws_cons, ws_nil, ws_asg, ws_sub, ws_expr, ws_ret, ws_retn, ws_iff, ws_for, ws_raise, ws_pass, ws_brk, ws_cnt, ws_aug, we_slot, we_const, we_bin, we_neg, we_cmp, we_chain, we_and, we_or, we_not, we_ite, we_tup, we_lst, we_idx, we_slc, we_comp, we_call, we_bi, we_me, we_isi, we_nil, we_cons, wo_none, wo_some, wt_none, wt_some, wr_val, wr_rng1, wr_rng2, slotQ_val, slotQ_own, negQ_int, notQ_bl, blQ_bl, augQ_int, bc_t, bc_f, dr_d, dr_tmp, dr_brw, brwQ_own, brwQ_val, oq_some, dd_int, dd_str, dd_bl, dd_non, dd_tup, dd_lst, dd_scr, esc_d, esc_tf, esc_tt, escs_nil, escs_cons, drs_nil, drs_cons, asgR_d, asgR_t, asgT_n, outR_d, outR_t, op_add, op_addS, op_addT, op_addL, op_sub, op_mul, op_mulL, op_fdiv, op_mod, op_pow, cm_eq, cm_ne, eq_int, eq_str, eq_bl, eq_non, cm_lt, cm_le, cm_gt, cm_ge, cm_in, cm_notin, cm_is, cm_isnot, ix_lst, ix_scr, ix_tup, ix_str, at_0, at_1, at_2, at_3, sl_tup, sl_lst, sl_scr, bi_lenL, bi_lenR, bi_lenT, bi_lenS, bi_abs, bi_max, bi_min, bi_intI, bi_intB, bi_listL, bi_listT, bi_listR, bi_tupL, bi_tupT, bi_all, bi_any, bi_sum, bi_lenset, bi_repr, au_add, au_sub, ixL0, ixL1, ixL2, esc_b, escQ_f, escQ_t, escQ_v, outR_b, outQ_o, outQ_v, modL_b, modQ_o, vq_tmp, vq_tup, vq_lst, vq_scr, vq_str, vq_b, vQ_o, asgR_b, List.length_map, me_app, me_appB, mt_app, mt_pop0, mt_pop1, mt_ins, mt_clear, mt_rev, mt_join, ws_cell, cellQ_o, cellQ_v, mt_index, mt_count, me_index, me_count, me_join, strLst_i, me_clear, me_rev, me_pop1, me_ins, true_and, isTys, isTy, tyN, Option.map_some, String.reduceBEq, Bool.or_false, Bool.false_or, Bool.or_true, Bool.true_or, Bool.and_false, Bool.and_true, Bool.false_and, Bool.true_and, Bool.not_true, Bool.not_false, List.getElem?_cons_zero, List.getElem?_cons_succ, List.set_cons_zero, List.set_cons_succ, List.map_cons, List.map_nil, List.replicate_succ, List.replicate_zero, List.cons_append, List.nil_append, Nat.sub_self]
    refine is_name_ok P.is_name (by omega) hn ?_
    simp only [ws_cons, ws_nil, ws_asg, ws_sub, ws_expr, ws_ret, ws_retn, ws_iff, ws_for, ws_raise, ws_pass, ws_brk, ws_cnt, ws_aug, we_slot, we_const, we_bin, we_neg, we_cmp, we_chain, we_and, we_or, we_not, we_ite, we_tup, we_lst, we_idx, we_slc, we_comp, we_call, we_bi, we_me, we_isi, we_nil, we_cons, wo_none, wo_some, wt_none, wt_some, wr_val, wr_rng1, wr_rng2, slotQ_val, slotQ_own, negQ_int, notQ_bl, blQ_bl, augQ_int, bc_t, bc_f, dr_d, dr_tmp, dr_brw, brwQ_own, brwQ_val, oq_some, dd_int, dd_str, dd_bl, dd_non, dd_tup, dd_lst, dd_scr, esc_d, esc_tf, esc_tt, escs_nil, escs_cons, drs_nil, drs_cons, asgR_d, asgR_t, asgT_n, outR_d, outR_t, op_add, op_addS, op_addT, op_addL, op_sub, op_mul, op_mulL, op_fdiv, op_mod, op_pow, cm_eq, cm_ne, eq_int, eq_str, eq_bl, eq_non, cm_lt, cm_le, cm_gt, cm_ge, cm_in, cm_notin, cm_is, cm_isnot, ix_lst, ix_scr, ix_tup, ix_str, at_0, at_1, at_2, at_3, sl_tup, sl_lst, sl_scr, bi_lenL, bi_lenR, bi_lenT, bi_lenS, bi_abs, bi_max, bi_min, bi_intI, bi_intB, bi_listL, bi_listT, bi_listR, bi_tupL, bi_tupT, bi_all, bi_any, bi_sum, bi_lenset, bi_repr, au_add, au_sub, ixL0, ixL1, ixL2, esc_b, escQ_f, escQ_t, escQ_v, outR_b, outQ_o, outQ_v, modL_b, modQ_o, vq_tmp, vq_tup, vq_lst, vq_scr, vq_str, vq_b, vQ_o, asgR_b, List.length_map, me_app, me_appB, mt_app, mt_pop0, mt_pop1, mt_ins, mt_clear, mt_rev, mt_join, ws_cell, cellQ_o, cellQ_v, mt_index, mt_count, me_index, me_count, me_join, strLst_i, me_clear, me_rev, me_pop1, me_ins, true_and, isTys, isTy, tyN, Option.map_some, String.reduceBEq, Bool.or_false, Bool.false_or, Bool.or_true, Bool.true_or, Bool.and_false, Bool.and_true, Bool.false_and, Bool.true_and, Bool.not_true, Bool.not_false, List.getElem?_cons_zero, List.getElem?_cons_succ, List.set_cons_zero, List.set_cons_succ, List.map_cons, List.map_nil, List.replicate_succ, List.replicate_zero, List.cons_append, List.nil_append, Nat.sub_self]
    refine in_strs hn.ok all ?_
    rw [decide_eq_true hm]
    simp only [ws_cons, ws_nil, ws_asg, ws_sub, ws_expr, ws_ret, ws_retn, ws_iff, ws_for, ws_raise, ws_pass, ws_brk, ws_cnt, ws_aug, we_slot, we_const, we_bin, we_neg, we_cmp, we_chain, we_and, we_or, we_not, we_ite, we_tup, we_lst, we_idx, we_slc, we_comp, we_call, we_bi, we_me, we_isi, we_nil, we_cons, wo_none, wo_some, wt_none, wt_some, wr_val, wr_rng1, wr_rng2, slotQ_val, slotQ_own, negQ_int, notQ_bl, blQ_bl, augQ_int, bc_t, bc_f, dr_d, dr_tmp, dr_brw, brwQ_own, brwQ_val, oq_some, dd_int, dd_str, dd_bl, dd_non, dd_tup, dd_lst, dd_scr, esc_d, esc_tf, esc_tt, escs_nil, escs_cons, drs_nil, drs_cons, asgR_d, asgR_t, asgT_n, outR_d, outR_t, op_add, op_addS, op_addT, op_addL, op_sub, op_mul, op_mulL, op_fdiv, op_mod, op_pow, cm_eq, cm_ne, eq_int, eq_str, eq_bl, eq_non, cm_lt, cm_le, cm_gt, cm_ge, cm_in, cm_notin, cm_is, cm_isnot, ix_lst, ix_scr, ix_tup, ix_str, at_0, at_1, at_2, at_3, sl_tup, sl_lst, sl_scr, bi_lenL, bi_lenR, bi_lenT, bi_lenS, bi_abs, bi_max, bi_min, bi_intI, bi_intB, bi_listL, bi_listT, bi_listR, bi_tupL, bi_tupT, bi_all, bi_any, bi_sum, bi_lenset, bi_repr, au_add, au_sub, ixL0, ixL1, ixL2, esc_b, escQ_f, escQ_t, escQ_v, outR_b, outQ_o, outQ_v, modL_b, modQ_o, vq_tmp, vq_tup, vq_lst, vq_scr, vq_str, vq_b, vQ_o, asgR_b, List.length_map, me_app, me_appB, mt_app, mt_pop0, mt_pop1, mt_ins, mt_clear, mt_rev, mt_join, ws_cell, cellQ_o, cellQ_v, mt_index, mt_count, me_index, me_count, me_join, strLst_i, me_clear, me_rev, me_pop1, me_ins, true_and, isTys, isTy, tyN, Option.map_some, String.reduceBEq, Bool.or_false, Bool.false_or, Bool.or_true, Bool.true_or, Bool.and_false, Bool.and_true, Bool.false_and, Bool.true_and, Bool.not_true, Bool.not_false, List.getElem?_cons_zero, List.getElem?_cons_succ, List.set_cons_zero, List.set_cons_succ, List.map_cons, List.map_nil, List.replicate_succ, List.replicate_zero, List.cons_append, List.nil_append, Nat.sub_self]
    exact ixOf_strs hi hl.nd q
theorem drawn_ok (P : Prog0 T) (hS : T.fn "spot_of" = some d_spot_of) (hT : T.fn "drawn" = some d_drawn) (hk : 4 ≤ k) {x : D} {l : Deck} {n : Str} {i : Nat} (h : DeckR st x l) (hl : DeckOk l) (hi : (l.map (·.1))[i]? = some n) (h2 : 1 < l.length)
    (q : Q (.d (deckD (l.take i ++ l.drop (i + 1)))) st) : wpC T k "drawn" [x, .str n] st Q E := by
  obtain ⟨k, rfl⟩ : ∃ j, k = j + 1 := ⟨k - 1, by omega⟩
  have sz := deck_sz hl
  have l40 := hl.l40
  refine wpC_of hT rfl ?_
  simp only [d_drawn, ws_cons, ws_nil, ws_asg, ws_sub, ws_expr, ws_ret, ws_retn, ws_iff, ws_for, ws_raise, ws_pass, ws_brk, ws_cnt, ws_aug, we_slot, we_const, we_bin, we_neg, we_cmp, we_chain, we_and, we_or, we_not, we_ite, we_tup, we_lst, we_idx, we_slc, we_comp, we_call, we_bi, we_me, we_isi, we_nil, we_cons, wo_none, wo_some, wt_none, wt_some, wr_val, wr_rng1, wr_rng2, slotQ_val, slotQ_own, negQ_int, notQ_bl, blQ_bl, augQ_int, bc_t, bc_f, dr_d, dr_tmp, dr_brw, brwQ_own, brwQ_val, oq_some, dd_int, dd_str, dd_bl, dd_non, dd_tup, dd_lst, dd_scr, esc_d, esc_tf, esc_tt, escs_nil, escs_cons, drs_nil, drs_cons, asgR_d, asgR_t, asgT_n, outR_d, outR_t, op_add, op_addS, op_addT, op_addL, op_sub, op_mul, op_mulL, op_fdiv, op_mod, op_pow, cm_eq, cm_ne, eq_int, eq_str, eq_bl, eq_non, cm_lt, cm_le, cm_gt, cm_ge, cm_in, cm_notin, cm_is, cm_isnot, ix_lst, ix_scr, ix_tup, ix_str, at_0, at_1, at_2, at_3, sl_tup, sl_lst, sl_scr, bi_lenL, bi_lenR, bi_lenT, bi_lenS, bi_abs, bi_max, bi_min, bi_intI, bi_intB, bi_listL, bi_listT, bi_listR, bi_tupL, bi_tupT, bi_all, bi_any, bi_sum, bi_lenset, bi_repr, au_add, au_sub, ixL0, ixL1, ixL2, esc_b, escQ_f, escQ_t, escQ_v, outR_b, outQ_o, outQ_v, modL_b, modQ_o, vq_tmp, vq_tup, vq_lst, vq_scr, vq_str, vq_b, vQ_o, asgR_b, List.length_map, me_app, me_appB, mt_app, mt_pop0, mt_pop1, mt_ins, mt_clear, mt_rev, mt_join, ws_cell, cellQ_o, cellQ_v, mt_index, mt_count, me_index, me_count, me_join, strLst_i, me_clear, me_rev, me_pop1, me_ins, true_and, isTys, isTy, tyN, Option.map_some, String.reduceBEq, Bool.or_false, Bool.false_or, Bool.or_true, Bool.true_or, Bool.and_false, Bool.and_true, Bool.false_and, Bool.true_and, Bool.not_true, Bool.not_false, List.getElem?_cons_zero, List.getElem?_cons_succ, List.set_cons_zero, List.set_cons_succ, List.map_cons, List.map_nil, List.replicate_succ, List.replicate_zero, List.cons_append, List.nil_append, Nat.sub_self]
  refine deck_of_ok P (by omega) h hl ?_
  simp only [ws_cons, ws_nil, ws_asg, ws_sub, ws_expr, ws_ret, ws_retn, ws_iff, ws_for, ws_raise, ws_pass, ws_brk, ws_cnt, ws_aug, we_slot, we_const, we_bin, we_neg, we_cmp, we_chain, we_and, we_or, we_not, we_ite, we_tup, we_lst, we_idx, we_slc, we_comp, we_call, we_bi, we_me, we_isi, we_nil, we_cons, wo_none, wo_some, wt_none, wt_some, wr_val, wr_rng1, wr_rng2, slotQ_val, slotQ_own, negQ_int, notQ_bl, blQ_bl, augQ_int, bc_t, bc_f, dr_d, dr_tmp, dr_brw, brwQ_own, brwQ_val, oq_some, dd_int, dd_str, dd_bl, dd_non, dd_tup, dd_lst, dd_scr, esc_d, esc_tf, esc_tt, escs_nil, escs_cons, drs_nil, drs_cons, asgR_d, asgR_t, asgT_n, outR_d, outR_t, op_add, op_addS, op_addT, op_addL, op_sub, op_mul, op_mulL, op_fdiv, op_mod, op_pow, cm_eq, cm_ne, eq_int, eq_str, eq_bl, eq_non, cm_lt, cm_le, cm_gt, cm_ge, cm_in, cm_notin, cm_is, cm_isnot, ix_lst, ix_scr, ix_tup, ix_str, at_0, at_1, at_2, at_3, sl_tup, sl_lst, sl_scr, bi_lenL, bi_lenR, bi_lenT, bi_lenS, bi_abs, bi_max, bi_min, bi_intI, bi_intB, bi_listL, bi_listT, bi_listR, bi_tupL, bi_tupT, bi_all, bi_any, bi_sum, bi_lenset, bi_repr, au_add, au_sub, ixL0, ixL1, ixL2, esc_b, escQ_f, escQ_t, escQ_v, outR_b, outQ_o, outQ_v, modL_b, modQ_o, vq_tmp, vq_tup, vq_lst, vq_scr, vq_str, vq_b, vQ_o, asgR_b, List.length_map, me_app, me_appB, mt_app, mt_pop0, mt_pop1, mt_ins, mt_clear, mt_rev, mt_join, ws_cell, cellQ_o, cellQ_v, mt_index, mt_count, me_index, me_count, me_join, strLst_i, me_clear, me_rev, me_pop1, me_ins, true_and, isTys, isTy, tyN, Option.map_some, String.reduceBEq, Bool.or_false, Bool.false_or, Bool.or_true, Bool.true_or, Bool.and_false, Bool.and_true, Bool.false_and, Bool.true_and, Bool.not_true, Bool.not_false, List.getElem?_cons_zero, List.getElem?_cons_succ, List.set_cons_zero, List.set_cons_succ, List.map_cons, List.map_nil, List.replicate_succ, List.replicate_zero, List.cons_append, List.nil_append, Nat.sub_self]
  refine spot_ok P hS (by omega) hl hi ?_
  have e1 : decide ((l.length : Int) = 1) = false := decide_eq_false (by omega)
  have e2 : ∀ xs : List D, cutD xs none (some (i : Int)) = xs.take i := fun xs => cut_to
  have e3 : ∀ xs : List D, cutD xs (some ((i : Int) + 1)) none = xs.drop (i + 1) := fun xs => by rw [show ((i : Int) + 1) = ((i + 1 : Nat) : Int) by omega, cut_from]
  simp only [deckD] at q
  simp only [deckD, e1, ws_cons, ws_nil, ws_asg, ws_sub, ws_expr, ws_ret, ws_retn, ws_iff, ws_for, ws_raise, ws_pass, ws_brk, ws_cnt, ws_aug, we_slot, we_const, we_bin, we_neg, we_cmp, we_chain, we_and, we_or, we_not, we_ite, we_tup, we_lst, we_idx, we_slc, we_comp, we_call, we_bi, we_me, we_isi, we_nil, we_cons, wo_none, wo_some, wt_none, wt_some, wr_val, wr_rng1, wr_rng2, slotQ_val, slotQ_own, negQ_int, notQ_bl, blQ_bl, augQ_int, bc_t, bc_f, dr_d, dr_tmp, dr_brw, brwQ_own, brwQ_val, oq_some, dd_int, dd_str, dd_bl, dd_non, dd_tup, dd_lst, dd_scr, esc_d, esc_tf, esc_tt, escs_nil, escs_cons, drs_nil, drs_cons, asgR_d, asgR_t, asgT_n, outR_d, outR_t, op_add, op_addS, op_addT, op_addL, op_sub, op_mul, op_mulL, op_fdiv, op_mod, op_pow, cm_eq, cm_ne, eq_int, eq_str, eq_bl, eq_non, cm_lt, cm_le, cm_gt, cm_ge, cm_in, cm_notin, cm_is, cm_isnot, ix_lst, ix_scr, ix_tup, ix_str, at_0, at_1, at_2, at_3, sl_tup, sl_lst, sl_scr, bi_lenL, bi_lenR, bi_lenT, bi_lenS, bi_abs, bi_max, bi_min, bi_intI, bi_intB, bi_listL, bi_listT, bi_listR, bi_tupL, bi_tupT, bi_all, bi_any, bi_sum, bi_lenset, bi_repr, au_add, au_sub, ixL0, ixL1, ixL2, esc_b, escQ_f, escQ_t, escQ_v, outR_b, outQ_o, outQ_v, modL_b, modQ_o, vq_tmp, vq_tup, vq_lst, vq_scr, vq_str, vq_b, vQ_o, asgR_b, List.length_map, me_app, me_appB, mt_app, mt_pop0, mt_pop1, mt_ins, mt_clear, mt_rev, mt_join, ws_cell, cellQ_o, cellQ_v, mt_index, mt_count, me_index, me_count, me_join, strLst_i, me_clear, me_rev, me_pop1, me_ins, true_and, isTys, isTy, tyN, Option.map_some, String.reduceBEq, Bool.or_false, Bool.false_or, Bool.or_true, Bool.true_or, Bool.and_false, Bool.and_true, Bool.false_and, Bool.true_and, Bool.not_true, Bool.not_false, List.getElem?_cons_zero, List.getElem?_cons_succ, List.set_cons_zero, List.set_cons_succ, List.map_cons, List.map_nil, List.replicate_succ, List.replicate_zero, List.cons_append, List.nil_append, Nat.sub_self, e2, e3, ← List.map_take, ← List.map_drop, ← List.map_append] at q ⊢
  exact ⟨by rw [List.length_take, List.length_drop, sizeLine_eq]; omega, q⟩
theorem deepened_ok (P : Prog0 T) (hS : T.fn "spot_of" = some d_spot_of) (hT : T.fn "deepened" = some d_deepened) (hk : 4 ≤ k) {x : D} {l : Deck} {n : Str} {d : Int} {i : Nat} (h : DeckR st x l) (hl : DeckOk l) (hi : (l.map (·.1))[i]? = some n) (hd : 0 ≤ d)
    (q : Q (.d (deckD (l.take i ++ (n, d) :: l.drop (i + 1)))) st) : wpC T k "deepened" [x, .str n, .int d] st Q E := by
  obtain ⟨k, rfl⟩ : ∃ j, k = j + 1 := ⟨k - 1, by omega⟩
  have sz := deck_sz hl
  have l40 := hl.l40
  refine wpC_of hT rfl ?_
  simp only [d_deepened, ws_cons, ws_nil, ws_asg, ws_sub, ws_expr, ws_ret, ws_retn, ws_iff, ws_for, ws_raise, ws_pass, ws_brk, ws_cnt, ws_aug, we_slot, we_const, we_bin, we_neg, we_cmp, we_chain, we_and, we_or, we_not, we_ite, we_tup, we_lst, we_idx, we_slc, we_comp, we_call, we_bi, we_me, we_isi, we_nil, we_cons, wo_none, wo_some, wt_none, wt_some, wr_val, wr_rng1, wr_rng2, slotQ_val, slotQ_own, negQ_int, notQ_bl, blQ_bl, augQ_int, bc_t, bc_f, dr_d, dr_tmp, dr_brw, brwQ_own, brwQ_val, oq_some, dd_int, dd_str, dd_bl, dd_non, dd_tup, dd_lst, dd_scr, esc_d, esc_tf, esc_tt, escs_nil, escs_cons, drs_nil, drs_cons, asgR_d, asgR_t, asgT_n, outR_d, outR_t, op_add, op_addS, op_addT, op_addL, op_sub, op_mul, op_mulL, op_fdiv, op_mod, op_pow, cm_eq, cm_ne, eq_int, eq_str, eq_bl, eq_non, cm_lt, cm_le, cm_gt, cm_ge, cm_in, cm_notin, cm_is, cm_isnot, ix_lst, ix_scr, ix_tup, ix_str, at_0, at_1, at_2, at_3, sl_tup, sl_lst, sl_scr, bi_lenL, bi_lenR, bi_lenT, bi_lenS, bi_abs, bi_max, bi_min, bi_intI, bi_intB, bi_listL, bi_listT, bi_listR, bi_tupL, bi_tupT, bi_all, bi_any, bi_sum, bi_lenset, bi_repr, au_add, au_sub, ixL0, ixL1, ixL2, esc_b, escQ_f, escQ_t, escQ_v, outR_b, outQ_o, outQ_v, modL_b, modQ_o, vq_tmp, vq_tup, vq_lst, vq_scr, vq_str, vq_b, vQ_o, asgR_b, List.length_map, me_app, me_appB, mt_app, mt_pop0, mt_pop1, mt_ins, mt_clear, mt_rev, mt_join, ws_cell, cellQ_o, cellQ_v, mt_index, mt_count, me_index, me_count, me_join, strLst_i, me_clear, me_rev, me_pop1, me_ins, true_and, isTys, isTy, tyN, Option.map_some, String.reduceBEq, Bool.or_false, Bool.false_or, Bool.or_true, Bool.true_or, Bool.and_false, Bool.and_true, Bool.false_and, Bool.true_and, Bool.not_true, Bool.not_false, List.getElem?_cons_zero, List.getElem?_cons_succ, List.set_cons_zero, List.set_cons_succ, List.map_cons, List.map_nil, List.replicate_succ, List.replicate_zero, List.cons_append, List.nil_append, Nat.sub_self]
  refine deck_of_ok P (by omega) h hl ?_
  simp only [ws_cons, ws_nil, ws_asg, ws_sub, ws_expr, ws_ret, ws_retn, ws_iff, ws_for, ws_raise, ws_pass, ws_brk, ws_cnt, ws_aug, we_slot, we_const, we_bin, we_neg, we_cmp, we_chain, we_and, we_or, we_not, we_ite, we_tup, we_lst, we_idx, we_slc, we_comp, we_call, we_bi, we_me, we_isi, we_nil, we_cons, wo_none, wo_some, wt_none, wt_some, wr_val, wr_rng1, wr_rng2, slotQ_val, slotQ_own, negQ_int, notQ_bl, blQ_bl, augQ_int, bc_t, bc_f, dr_d, dr_tmp, dr_brw, brwQ_own, brwQ_val, oq_some, dd_int, dd_str, dd_bl, dd_non, dd_tup, dd_lst, dd_scr, esc_d, esc_tf, esc_tt, escs_nil, escs_cons, drs_nil, drs_cons, asgR_d, asgR_t, asgT_n, outR_d, outR_t, op_add, op_addS, op_addT, op_addL, op_sub, op_mul, op_mulL, op_fdiv, op_mod, op_pow, cm_eq, cm_ne, eq_int, eq_str, eq_bl, eq_non, cm_lt, cm_le, cm_gt, cm_ge, cm_in, cm_notin, cm_is, cm_isnot, ix_lst, ix_scr, ix_tup, ix_str, at_0, at_1, at_2, at_3, sl_tup, sl_lst, sl_scr, bi_lenL, bi_lenR, bi_lenT, bi_lenS, bi_abs, bi_max, bi_min, bi_intI, bi_intB, bi_listL, bi_listT, bi_listR, bi_tupL, bi_tupT, bi_all, bi_any, bi_sum, bi_lenset, bi_repr, au_add, au_sub, ixL0, ixL1, ixL2, esc_b, escQ_f, escQ_t, escQ_v, outR_b, outQ_o, outQ_v, modL_b, modQ_o, vq_tmp, vq_tup, vq_lst, vq_scr, vq_str, vq_b, vQ_o, asgR_b, List.length_map, me_app, me_appB, mt_app, mt_pop0, mt_pop1, mt_ins, mt_clear, mt_rev, mt_join, ws_cell, cellQ_o, cellQ_v, mt_index, mt_count, me_index, me_count, me_join, strLst_i, me_clear, me_rev, me_pop1, me_ins, true_and, isTys, isTy, tyN, Option.map_some, String.reduceBEq, Bool.or_false, Bool.false_or, Bool.or_true, Bool.true_or, Bool.and_false, Bool.and_true, Bool.false_and, Bool.true_and, Bool.not_true, Bool.not_false, List.getElem?_cons_zero, List.getElem?_cons_succ, List.set_cons_zero, List.set_cons_succ, List.map_cons, List.map_nil, List.replicate_succ, List.replicate_zero, List.cons_append, List.nil_append, Nat.sub_self]
  refine spot_ok P hS (by omega) hl hi ?_
  have e2 : ∀ xs : List D, cutD xs none (some (i : Int)) = xs.take i := fun xs => cut_to
  have e3 : ∀ xs : List D, cutD xs (some ((i : Int) + 1)) none = xs.drop (i + 1) := fun xs => by rw [show ((i : Int) + 1) = ((i + 1 : Nat) : Int) by omega, cut_from]
  obtain ⟨p, hp, rfl⟩ : ∃ p, l[i]? = some p ∧ p.1 = n := by
    rw [List.getElem?_map] at hi
    obtain ⟨p, h1, h2⟩ := Option.map_eq_some_iff.mp hi
    exact ⟨p, h1, h2⟩
  have e4 : L2.atI (l.map cardD) (i : Int) = some (cardD p) := L2.atI_nat (by rw [List.getElem?_map, hp]; rfl)
  simp only [ws_cons, ws_nil, ws_asg, ws_sub, ws_expr, ws_ret, ws_retn, ws_iff, ws_for, ws_raise, ws_pass, ws_brk, ws_cnt, ws_aug, we_slot, we_const, we_bin, we_neg, we_cmp, we_chain, we_and, we_or, we_not, we_ite, we_tup, we_lst, we_idx, we_slc, we_comp, we_call, we_bi, we_me, we_isi, we_nil, we_cons, wo_none, wo_some, wt_none, wt_some, wr_val, wr_rng1, wr_rng2, slotQ_val, slotQ_own, negQ_int, notQ_bl, blQ_bl, augQ_int, bc_t, bc_f, dr_d, dr_tmp, dr_brw, brwQ_own, brwQ_val, oq_some, dd_int, dd_str, dd_bl, dd_non, dd_tup, dd_lst, dd_scr, esc_d, esc_tf, esc_tt, escs_nil, escs_cons, drs_nil, drs_cons, asgR_d, asgR_t, asgT_n, outR_d, outR_t, op_add, op_addS, op_addT, op_addL, op_sub, op_mul, op_mulL, op_fdiv, op_mod, op_pow, cm_eq, cm_ne, eq_int, eq_str, eq_bl, eq_non, cm_lt, cm_le, cm_gt, cm_ge, cm_in, cm_notin, cm_is, cm_isnot, ix_lst, ix_scr, ix_tup, ix_str, at_0, at_1, at_2, at_3, sl_tup, sl_lst, sl_scr, bi_lenL, bi_lenR, bi_lenT, bi_lenS, bi_abs, bi_max, bi_min, bi_intI, bi_intB, bi_listL, bi_listT, bi_listR, bi_tupL, bi_tupT, bi_all, bi_any, bi_sum, bi_lenset, bi_repr, au_add, au_sub, ixL0, ixL1, ixL2, esc_b, escQ_f, escQ_t, escQ_v, outR_b, outQ_o, outQ_v, modL_b, modQ_o, vq_tmp, vq_tup, vq_lst, vq_scr, vq_str, vq_b, vQ_o, asgR_b, List.length_map, me_app, me_appB, mt_app, mt_pop0, mt_pop1, mt_ins, mt_clear, mt_rev, mt_join, ws_cell, cellQ_o, cellQ_v, mt_index, mt_count, me_index, me_count, me_join, strLst_i, me_clear, me_rev, me_pop1, me_ins, true_and, isTys, isTy, tyN, Option.map_some, String.reduceBEq, Bool.or_false, Bool.false_or, Bool.or_true, Bool.true_or, Bool.and_false, Bool.and_true, Bool.false_and, Bool.true_and, Bool.not_true, Bool.not_false, List.getElem?_cons_zero, List.getElem?_cons_succ, List.set_cons_zero, List.set_cons_succ, List.map_cons, List.map_nil, List.replicate_succ, List.replicate_zero, List.cons_append, List.nil_append, Nat.sub_self]
  refine is_whole_ok P.is_whole (by omega) ?_
  simp only [deckD] at q
  simp only [deckD, decide_eq_true hd, ws_cons, ws_nil, ws_asg, ws_sub, ws_expr, ws_ret, ws_retn, ws_iff, ws_for, ws_raise, ws_pass, ws_brk, ws_cnt, ws_aug, we_slot, we_const, we_bin, we_neg, we_cmp, we_chain, we_and, we_or, we_not, we_ite, we_tup, we_lst, we_idx, we_slc, we_comp, we_call, we_bi, we_me, we_isi, we_nil, we_cons, wo_none, wo_some, wt_none, wt_some, wr_val, wr_rng1, wr_rng2, slotQ_val, slotQ_own, negQ_int, notQ_bl, blQ_bl, augQ_int, bc_t, bc_f, dr_d, dr_tmp, dr_brw, brwQ_own, brwQ_val, oq_some, dd_int, dd_str, dd_bl, dd_non, dd_tup, dd_lst, dd_scr, esc_d, esc_tf, esc_tt, escs_nil, escs_cons, drs_nil, drs_cons, asgR_d, asgR_t, asgT_n, outR_d, outR_t, op_add, op_addS, op_addT, op_addL, op_sub, op_mul, op_mulL, op_fdiv, op_mod, op_pow, cm_eq, cm_ne, eq_int, eq_str, eq_bl, eq_non, cm_lt, cm_le, cm_gt, cm_ge, cm_in, cm_notin, cm_is, cm_isnot, ix_lst, ix_scr, ix_tup, ix_str, at_0, at_1, at_2, at_3, sl_tup, sl_lst, sl_scr, bi_lenL, bi_lenR, bi_lenT, bi_lenS, bi_abs, bi_max, bi_min, bi_intI, bi_intB, bi_listL, bi_listT, bi_listR, bi_tupL, bi_tupT, bi_all, bi_any, bi_sum, bi_lenset, bi_repr, au_add, au_sub, ixL0, ixL1, ixL2, esc_b, escQ_f, escQ_t, escQ_v, outR_b, outQ_o, outQ_v, modL_b, modQ_o, vq_tmp, vq_tup, vq_lst, vq_scr, vq_str, vq_b, vQ_o, asgR_b, List.length_map, me_app, me_appB, mt_app, mt_pop0, mt_pop1, mt_ins, mt_clear, mt_rev, mt_join, ws_cell, cellQ_o, cellQ_v, mt_index, mt_count, me_index, me_count, me_join, strLst_i, me_clear, me_rev, me_pop1, me_ins, true_and, isTys, isTy, tyN, Option.map_some, String.reduceBEq, Bool.or_false, Bool.false_or, Bool.or_true, Bool.true_or, Bool.and_false, Bool.and_true, Bool.false_and, Bool.true_and, Bool.not_true, Bool.not_false, List.getElem?_cons_zero, List.getElem?_cons_succ, List.set_cons_zero, List.set_cons_succ, List.map_cons, List.map_nil, List.replicate_succ, List.replicate_zero, List.cons_append, List.nil_append, Nat.sub_self, e2, e3, e4, ← List.map_take, ← List.map_drop]
  have ec : ∀ p : Str × Int, cardD p = .tup [.str p.1, .int p.2] := fun _ => rfl
  simp only [ec p, ws_cons, ws_nil, ws_asg, ws_sub, ws_expr, ws_ret, ws_retn, ws_iff, ws_for, ws_raise, ws_pass, ws_brk, ws_cnt, ws_aug, we_slot, we_const, we_bin, we_neg, we_cmp, we_chain, we_and, we_or, we_not, we_ite, we_tup, we_lst, we_idx, we_slc, we_comp, we_call, we_bi, we_me, we_isi, we_nil, we_cons, wo_none, wo_some, wt_none, wt_some, wr_val, wr_rng1, wr_rng2, slotQ_val, slotQ_own, negQ_int, notQ_bl, blQ_bl, augQ_int, bc_t, bc_f, dr_d, dr_tmp, dr_brw, brwQ_own, brwQ_val, oq_some, dd_int, dd_str, dd_bl, dd_non, dd_tup, dd_lst, dd_scr, esc_d, esc_tf, esc_tt, escs_nil, escs_cons, drs_nil, drs_cons, asgR_d, asgR_t, asgT_n, outR_d, outR_t, op_add, op_addS, op_addT, op_addL, op_sub, op_mul, op_mulL, op_fdiv, op_mod, op_pow, cm_eq, cm_ne, eq_int, eq_str, eq_bl, eq_non, cm_lt, cm_le, cm_gt, cm_ge, cm_in, cm_notin, cm_is, cm_isnot, ix_lst, ix_scr, ix_tup, ix_str, at_0, at_1, at_2, at_3, sl_tup, sl_lst, sl_scr, bi_lenL, bi_lenR, bi_lenT, bi_lenS, bi_abs, bi_max, bi_min, bi_intI, bi_intB, bi_listL, bi_listT, bi_listR, bi_tupL, bi_tupT, bi_all, bi_any, bi_sum, bi_lenset, bi_repr, au_add, au_sub, ixL0, ixL1, ixL2, esc_b, escQ_f, escQ_t, escQ_v, outR_b, outQ_o, outQ_v, modL_b, modQ_o, vq_tmp, vq_tup, vq_lst, vq_scr, vq_str, vq_b, vQ_o, asgR_b, List.length_map, me_app, me_appB, mt_app, mt_pop0, mt_pop1, mt_ins, mt_clear, mt_rev, mt_join, ws_cell, cellQ_o, cellQ_v, mt_index, mt_count, me_index, me_count, me_join, strLst_i, me_clear, me_rev, me_pop1, me_ins, true_and, isTys, isTy, tyN, Option.map_some, String.reduceBEq, Bool.or_false, Bool.false_or, Bool.or_true, Bool.true_or, Bool.and_false, Bool.and_true, Bool.false_and, Bool.true_and, Bool.not_true, Bool.not_false, List.getElem?_cons_zero, List.getElem?_cons_succ, List.set_cons_zero, List.set_cons_succ, List.map_cons, List.map_nil, List.replicate_succ, List.replicate_zero, List.cons_append, List.nil_append, Nat.sub_self, e2, e3, ← List.map_take, ← List.map_drop]
  refine ⟨by show 2 ≤ sizeLine; decide, by show 1 ≤ sizeLine; decide, ?_, ?_, ?_⟩
  · simp only [List.length_map, List.length_take, List.length_cons, List.length_nil, sizeLine_eq]; omega
  · simp only [List.length_map, List.length_take, List.length_append, List.length_cons, List.length_nil, List.length_drop, sizeLine_eq]; omega
  · have e : List.map cardD (l.take i ++ (p.1, d) :: l.drop (i + 1)) = (List.map cardD (l.take i) ++ [D.tup [D.str p.1, D.int d]]) ++ List.map cardD (l.drop (i + 1)) := by
      rw [List.map_append, List.map_cons, List.append_assoc]
      rfl
    rw [e] at q
    exact q
theorem laid_ok (P : Prog0 T) (hT : T.fn "laid" = some d_laid) (hk : 4 ≤ k) {x y : D} {l : Deck} {n : Str} {d : Int} {i : Nat} (h : DeckR st x l) (hl : DeckOk l) (hy : CardR st y (n, d)) (hn : NameOk n) (hd : 0 ≤ d) (hnew : n ∉ l.map (·.1)) (hi : i ≤ l.length) (h40 : l.length < 40)
    (q : Q (.d (deckD (l.take i ++ (n, d) :: l.drop i))) st) : wpC T k "laid" [x, y, .int (i : Nat)] st Q E := by
  obtain ⟨k, rfl⟩ : ∃ j, k = j + 1 := ⟨k - 1, by omega⟩
  have sz := deck_sz hl
  have all : ∀ m ∈ l.map (·.1), PyData.strOk m = true := fun m hm => by
    obtain ⟨p, hp, rfl⟩ := List.mem_map.mp hm
    exact (hl.nm p hp).ok
  refine wpC_of hT rfl ?_
  simp only [d_laid, ws_cons, ws_nil, ws_asg, ws_sub, ws_expr, ws_ret, ws_retn, ws_iff, ws_for, ws_raise, ws_pass, ws_brk, ws_cnt, ws_aug, we_slot, we_const, we_bin, we_neg, we_cmp, we_chain, we_and, we_or, we_not, we_ite, we_tup, we_lst, we_idx, we_slc, we_comp, we_call, we_bi, we_me, we_isi, we_nil, we_cons, wo_none, wo_some, wt_none, wt_some, wr_val, wr_rng1, wr_rng2, slotQ_val, slotQ_own, negQ_int, notQ_bl, blQ_bl, augQ_int, bc_t, bc_f, dr_d, dr_tmp, dr_brw, brwQ_own, brwQ_val, oq_some, dd_int, dd_str, dd_bl, dd_non, dd_tup, dd_lst, dd_scr, esc_d, esc_tf, esc_tt, escs_nil, escs_cons, drs_nil, drs_cons, asgR_d, asgR_t, asgT_n, outR_d, outR_t, op_add, op_addS, op_addT, op_addL, op_sub, op_mul, op_mulL, op_fdiv, op_mod, op_pow, cm_eq, cm_ne, eq_int, eq_str, eq_bl, eq_non, cm_lt, cm_le, cm_gt, cm_ge, cm_in, cm_notin, cm_is, cm_isnot, ix_lst, ix_scr, ix_tup, ix_str, at_0, at_1, at_2, at_3, sl_tup, sl_lst, sl_scr, bi_lenL, bi_lenR, bi_lenT, bi_lenS, bi_abs, bi_max, bi_min, bi_intI, bi_intB, bi_listL, bi_listT, bi_listR, bi_tupL, bi_tupT, bi_all, bi_any, bi_sum, bi_lenset, bi_repr, au_add, au_sub, ixL0, ixL1, ixL2, esc_b, escQ_f, escQ_t, escQ_v, outR_b, outQ_o, outQ_v, modL_b, modQ_o, vq_tmp, vq_tup, vq_lst, vq_scr, vq_str, vq_b, vQ_o, asgR_b, List.length_map, me_app, me_appB, mt_app, mt_pop0, mt_pop1, mt_ins, mt_clear, mt_rev, mt_join, ws_cell, cellQ_o, cellQ_v, mt_index, mt_count, me_index, me_count, me_join, strLst_i, me_clear, me_rev, me_pop1, me_ins, true_and, isTys, isTy, tyN, Option.map_some, String.reduceBEq, Bool.or_false, Bool.false_or, Bool.or_true, Bool.true_or, Bool.and_false, Bool.and_true, Bool.false_and, Bool.true_and, Bool.not_true, Bool.not_false, List.getElem?_cons_zero, List.getElem?_cons_succ, List.set_cons_zero, List.set_cons_succ, List.map_cons, List.map_nil, List.replicate_succ, List.replicate_zero, List.cons_append, List.nil_append, Nat.sub_self]
  refine deck_of_ok P (by omega) h hl ?_
  simp only [ws_cons, ws_nil, ws_asg, ws_sub, ws_expr, ws_ret, ws_retn, ws_iff, ws_for, ws_raise, ws_pass, ws_brk, ws_cnt, ws_aug, we_slot, we_const, we_bin, we_neg, we_cmp, we_chain, we_and, we_or, we_not, we_ite, we_tup, we_lst, we_idx, we_slc, we_comp, we_call, we_bi, we_me, we_isi, we_nil, we_cons, wo_none, wo_some, wt_none, wt_some, wr_val, wr_rng1, wr_rng2, slotQ_val, slotQ_own, negQ_int, notQ_bl, blQ_bl, augQ_int, bc_t, bc_f, dr_d, dr_tmp, dr_brw, brwQ_own, brwQ_val, oq_some, dd_int, dd_str, dd_bl, dd_non, dd_tup, dd_lst, dd_scr, esc_d, esc_tf, esc_tt, escs_nil, escs_cons, drs_nil, drs_cons, asgR_d, asgR_t, asgT_n, outR_d, outR_t, op_add, op_addS, op_addT, op_addL, op_sub, op_mul, op_mulL, op_fdiv, op_mod, op_pow, cm_eq, cm_ne, eq_int, eq_str, eq_bl, eq_non, cm_lt, cm_le, cm_gt, cm_ge, cm_in, cm_notin, cm_is, cm_isnot, ix_lst, ix_scr, ix_tup, ix_str, at_0, at_1, at_2, at_3, sl_tup, sl_lst, sl_scr, bi_lenL, bi_lenR, bi_lenT, bi_lenS, bi_abs, bi_max, bi_min, bi_intI, bi_intB, bi_listL, bi_listT, bi_listR, bi_tupL, bi_tupT, bi_all, bi_any, bi_sum, bi_lenset, bi_repr, au_add, au_sub, ixL0, ixL1, ixL2, esc_b, escQ_f, escQ_t, escQ_v, outR_b, outQ_o, outQ_v, modL_b, modQ_o, vq_tmp, vq_tup, vq_lst, vq_scr, vq_str, vq_b, vQ_o, asgR_b, List.length_map, me_app, me_appB, mt_app, mt_pop0, mt_pop1, mt_ins, mt_clear, mt_rev, mt_join, ws_cell, cellQ_o, cellQ_v, mt_index, mt_count, me_index, me_count, me_join, strLst_i, me_clear, me_rev, me_pop1, me_ins, true_and, isTys, isTy, tyN, Option.map_some, String.reduceBEq, Bool.or_false, Bool.false_or, Bool.or_true, Bool.true_or, Bool.and_false, Bool.and_true, Bool.false_and, Bool.true_and, Bool.not_true, Bool.not_false, List.getElem?_cons_zero, List.getElem?_cons_succ, List.set_cons_zero, List.set_cons_succ, List.map_cons, List.map_nil, List.replicate_succ, List.replicate_zero, List.cons_append, List.nil_append, Nat.sub_self]
  refine is_card_ok P (by omega) hy hn hd ?_
  have e2 : ∀ xs : List D, cutD xs none (some (i : Int)) = xs.take i := fun xs => cut_to
  have e3 : ∀ xs : List D, cutD xs (some (i : Int)) none = xs.drop i := fun xs => cut_from
  have e5 : decide ((l.length : Int) < i) = false := decide_eq_false (by omega)
  have e6 : decide ((l.length : Int) = 40) = false := decide_eq_false (by omega)
  have hy : seqOf st y = some [.str n, .int d] := hy
  simp only [deckD] at q
  rcases seq_cases hy with hz | hz <;>
  · simp only [deckD, ws_cons, ws_nil, ws_asg, ws_sub, ws_expr, ws_ret, ws_retn, ws_iff, ws_for, ws_raise, ws_pass, ws_brk, ws_cnt, ws_aug, we_slot, we_const, we_bin, we_neg, we_cmp, we_chain, we_and, we_or, we_not, we_ite, we_tup, we_lst, we_idx, we_slc, we_comp, we_call, we_bi, we_me, we_isi, we_nil, we_cons, wo_none, wo_some, wt_none, wt_some, wr_val, wr_rng1, wr_rng2, slotQ_val, slotQ_own, negQ_int, notQ_bl, blQ_bl, augQ_int, bc_t, bc_f, dr_d, dr_tmp, dr_brw, brwQ_own, brwQ_val, oq_some, dd_int, dd_str, dd_bl, dd_non, dd_tup, dd_lst, dd_scr, esc_d, esc_tf, esc_tt, escs_nil, escs_cons, drs_nil, drs_cons, asgR_d, asgR_t, asgT_n, outR_d, outR_t, op_add, op_addS, op_addT, op_addL, op_sub, op_mul, op_mulL, op_fdiv, op_mod, op_pow, cm_eq, cm_ne, eq_int, eq_str, eq_bl, eq_non, cm_lt, cm_le, cm_gt, cm_ge, cm_in, cm_notin, cm_is, cm_isnot, ix_lst, ix_scr, ix_tup, ix_str, at_0, at_1, at_2, at_3, sl_tup, sl_lst, sl_scr, bi_lenL, bi_lenR, bi_lenT, bi_lenS, bi_abs, bi_max, bi_min, bi_intI, bi_intB, bi_listL, bi_listT, bi_listR, bi_tupL, bi_tupT, bi_all, bi_any, bi_sum, bi_lenset, bi_repr, au_add, au_sub, ixL0, ixL1, ixL2, esc_b, escQ_f, escQ_t, escQ_v, outR_b, outQ_o, outQ_v, modL_b, modQ_o, vq_tmp, vq_tup, vq_lst, vq_scr, vq_str, vq_b, vQ_o, asgR_b, List.length_map, me_app, me_appB, mt_app, mt_pop0, mt_pop1, mt_ins, mt_clear, mt_rev, mt_join, ws_cell, cellQ_o, cellQ_v, mt_index, mt_count, me_index, me_count, me_join, strLst_i, me_clear, me_rev, me_pop1, me_ins, true_and, isTys, isTy, tyN, Option.map_some, String.reduceBEq, Bool.or_false, Bool.false_or, Bool.or_true, Bool.true_or, Bool.and_false, Bool.and_true, Bool.false_and, Bool.true_and, Bool.not_true, Bool.not_false, List.getElem?_cons_zero, List.getElem?_cons_succ, List.set_cons_zero, List.set_cons_succ, List.map_cons, List.map_nil, List.replicate_succ, List.replicate_zero, List.cons_append, List.nil_append, Nat.sub_self, hz]
    refine comp_map2 (g := headD) trivial (by rw [List.length_map]; exact sz) deck_pairs (fun a b hab Q q => ?_) ?_
    · simp only [env2, wipeE, headD, ws_cons, ws_nil, ws_asg, ws_sub, ws_expr, ws_ret, ws_retn, ws_iff, ws_for, ws_raise, ws_pass, ws_brk, ws_cnt, ws_aug, we_slot, we_const, we_bin, we_neg, we_cmp, we_chain, we_and, we_or, we_not, we_ite, we_tup, we_lst, we_idx, we_slc, we_comp, we_call, we_bi, we_me, we_isi, we_nil, we_cons, wo_none, wo_some, wt_none, wt_some, wr_val, wr_rng1, wr_rng2, slotQ_val, slotQ_own, negQ_int, notQ_bl, blQ_bl, augQ_int, bc_t, bc_f, dr_d, dr_tmp, dr_brw, brwQ_own, brwQ_val, oq_some, dd_int, dd_str, dd_bl, dd_non, dd_tup, dd_lst, dd_scr, esc_d, esc_tf, esc_tt, escs_nil, escs_cons, drs_nil, drs_cons, asgR_d, asgR_t, asgT_n, outR_d, outR_t, op_add, op_addS, op_addT, op_addL, op_sub, op_mul, op_mulL, op_fdiv, op_mod, op_pow, cm_eq, cm_ne, eq_int, eq_str, eq_bl, eq_non, cm_lt, cm_le, cm_gt, cm_ge, cm_in, cm_notin, cm_is, cm_isnot, ix_lst, ix_scr, ix_tup, ix_str, at_0, at_1, at_2, at_3, sl_tup, sl_lst, sl_scr, bi_lenL, bi_lenR, bi_lenT, bi_lenS, bi_abs, bi_max, bi_min, bi_intI, bi_intB, bi_listL, bi_listT, bi_listR, bi_tupL, bi_tupT, bi_all, bi_any, bi_sum, bi_lenset, bi_repr, au_add, au_sub, ixL0, ixL1, ixL2, esc_b, escQ_f, escQ_t, escQ_v, outR_b, outQ_o, outQ_v, modL_b, modQ_o, vq_tmp, vq_tup, vq_lst, vq_scr, vq_str, vq_b, vQ_o, asgR_b, List.length_map, me_app, me_appB, mt_app, mt_pop0, mt_pop1, mt_ins, mt_clear, mt_rev, mt_join, ws_cell, cellQ_o, cellQ_v, mt_index, mt_count, me_index, me_count, me_join, strLst_i, me_clear, me_rev, me_pop1, me_ins, true_and, isTys, isTy, tyN, Option.map_some, String.reduceBEq, Bool.or_false, Bool.false_or, Bool.or_true, Bool.true_or, Bool.and_false, Bool.and_true, Bool.false_and, Bool.true_and, Bool.not_true, Bool.not_false, List.getElem?_cons_zero, List.getElem?_cons_succ, List.set_cons_zero, List.set_cons_succ, List.map_cons, List.map_nil, List.replicate_succ, List.replicate_zero, List.cons_append, List.nil_append, Nat.sub_self] at q ⊢
      exact q
    · rw [heads]
      simp only [ws_cons, ws_nil, ws_asg, ws_sub, ws_expr, ws_ret, ws_retn, ws_iff, ws_for, ws_raise, ws_pass, ws_brk, ws_cnt, ws_aug, we_slot, we_const, we_bin, we_neg, we_cmp, we_chain, we_and, we_or, we_not, we_ite, we_tup, we_lst, we_idx, we_slc, we_comp, we_call, we_bi, we_me, we_isi, we_nil, we_cons, wo_none, wo_some, wt_none, wt_some, wr_val, wr_rng1, wr_rng2, slotQ_val, slotQ_own, negQ_int, notQ_bl, blQ_bl, augQ_int, bc_t, bc_f, dr_d, dr_tmp, dr_brw, brwQ_own, brwQ_val, oq_some, dd_int, dd_str, dd_bl, dd_non, dd_tup, dd_lst, dd_scr, esc_d, esc_tf, esc_tt, escs_nil, escs_cons, drs_nil, drs_cons, asgR_d, asgR_t, asgT_n, outR_d, outR_t, op_add, op_addS, op_addT, op_addL, op_sub, op_mul, op_mulL, op_fdiv, op_mod, op_pow, cm_eq, cm_ne, eq_int, eq_str, eq_bl, eq_non, cm_lt, cm_le, cm_gt, cm_ge, cm_in, cm_notin, cm_is, cm_isnot, ix_lst, ix_scr, ix_tup, ix_str, at_0, at_1, at_2, at_3, sl_tup, sl_lst, sl_scr, bi_lenL, bi_lenR, bi_lenT, bi_lenS, bi_abs, bi_max, bi_min, bi_intI, bi_intB, bi_listL, bi_listT, bi_listR, bi_tupL, bi_tupT, bi_all, bi_any, bi_sum, bi_lenset, bi_repr, au_add, au_sub, ixL0, ixL1, ixL2, esc_b, escQ_f, escQ_t, escQ_v, outR_b, outQ_o, outQ_v, modL_b, modQ_o, vq_tmp, vq_tup, vq_lst, vq_scr, vq_str, vq_b, vQ_o, asgR_b, List.length_map, me_app, me_appB, mt_app, mt_pop0, mt_pop1, mt_ins, mt_clear, mt_rev, mt_join, ws_cell, cellQ_o, cellQ_v, mt_index, mt_count, me_index, me_count, me_join, strLst_i, me_clear, me_rev, me_pop1, me_ins, true_and, isTys, isTy, tyN, Option.map_some, String.reduceBEq, Bool.or_false, Bool.false_or, Bool.or_true, Bool.true_or, Bool.and_false, Bool.and_true, Bool.false_and, Bool.true_and, Bool.not_true, Bool.not_false, List.getElem?_cons_zero, List.getElem?_cons_succ, List.set_cons_zero, List.set_cons_succ, List.map_cons, List.map_nil, List.replicate_succ, List.replicate_zero, List.cons_append, List.nil_append, Nat.sub_self, hz]
      refine in_strs hn.ok all ?_
      rw [decide_eq_false hnew]
      simp only [ws_cons, ws_nil, ws_asg, ws_sub, ws_expr, ws_ret, ws_retn, ws_iff, ws_for, ws_raise, ws_pass, ws_brk, ws_cnt, ws_aug, we_slot, we_const, we_bin, we_neg, we_cmp, we_chain, we_and, we_or, we_not, we_ite, we_tup, we_lst, we_idx, we_slc, we_comp, we_call, we_bi, we_me, we_isi, we_nil, we_cons, wo_none, wo_some, wt_none, wt_some, wr_val, wr_rng1, wr_rng2, slotQ_val, slotQ_own, negQ_int, notQ_bl, blQ_bl, augQ_int, bc_t, bc_f, dr_d, dr_tmp, dr_brw, brwQ_own, brwQ_val, oq_some, dd_int, dd_str, dd_bl, dd_non, dd_tup, dd_lst, dd_scr, esc_d, esc_tf, esc_tt, escs_nil, escs_cons, drs_nil, drs_cons, asgR_d, asgR_t, asgT_n, outR_d, outR_t, op_add, op_addS, op_addT, op_addL, op_sub, op_mul, op_mulL, op_fdiv, op_mod, op_pow, cm_eq, cm_ne, eq_int, eq_str, eq_bl, eq_non, cm_lt, cm_le, cm_gt, cm_ge, cm_in, cm_notin, cm_is, cm_isnot, ix_lst, ix_scr, ix_tup, ix_str, at_0, at_1, at_2, at_3, sl_tup, sl_lst, sl_scr, bi_lenL, bi_lenR, bi_lenT, bi_lenS, bi_abs, bi_max, bi_min, bi_intI, bi_intB, bi_listL, bi_listT, bi_listR, bi_tupL, bi_tupT, bi_all, bi_any, bi_sum, bi_lenset, bi_repr, au_add, au_sub, ixL0, ixL1, ixL2, esc_b, escQ_f, escQ_t, escQ_v, outR_b, outQ_o, outQ_v, modL_b, modQ_o, vq_tmp, vq_tup, vq_lst, vq_scr, vq_str, vq_b, vQ_o, asgR_b, List.length_map, me_app, me_appB, mt_app, mt_pop0, mt_pop1, mt_ins, mt_clear, mt_rev, mt_join, ws_cell, cellQ_o, cellQ_v, mt_index, mt_count, me_index, me_count, me_join, strLst_i, me_clear, me_rev, me_pop1, me_ins, true_and, isTys, isTy, tyN, Option.map_some, String.reduceBEq, Bool.or_false, Bool.false_or, Bool.or_true, Bool.true_or, Bool.and_false, Bool.and_true, Bool.false_and, Bool.true_and, Bool.not_true, Bool.not_false, List.getElem?_cons_zero, List.getElem?_cons_succ, List.set_cons_zero, List.set_cons_succ, List.map_cons, List.map_nil, List.replicate_succ, List.replicate_zero, List.cons_append, List.nil_append, Nat.sub_self]
      refine is_whole_ok P.is_whole (by omega) ?_
      simp only [decide_eq_true (show (0 : Int) ≤ i by omega), ws_cons, ws_nil, ws_asg, ws_sub, ws_expr, ws_ret, ws_retn, ws_iff, ws_for, ws_raise, ws_pass, ws_brk, ws_cnt, ws_aug, we_slot, we_const, we_bin, we_neg, we_cmp, we_chain, we_and, we_or, we_not, we_ite, we_tup, we_lst, we_idx, we_slc, we_comp, we_call, we_bi, we_me, we_isi, we_nil, we_cons, wo_none, wo_some, wt_none, wt_some, wr_val, wr_rng1, wr_rng2, slotQ_val, slotQ_own, negQ_int, notQ_bl, blQ_bl, augQ_int, bc_t, bc_f, dr_d, dr_tmp, dr_brw, brwQ_own, brwQ_val, oq_some, dd_int, dd_str, dd_bl, dd_non, dd_tup, dd_lst, dd_scr, esc_d, esc_tf, esc_tt, escs_nil, escs_cons, drs_nil, drs_cons, asgR_d, asgR_t, asgT_n, outR_d, outR_t, op_add, op_addS, op_addT, op_addL, op_sub, op_mul, op_mulL, op_fdiv, op_mod, op_pow, cm_eq, cm_ne, eq_int, eq_str, eq_bl, eq_non, cm_lt, cm_le, cm_gt, cm_ge, cm_in, cm_notin, cm_is, cm_isnot, ix_lst, ix_scr, ix_tup, ix_str, at_0, at_1, at_2, at_3, sl_tup, sl_lst, sl_scr, bi_lenL, bi_lenR, bi_lenT, bi_lenS, bi_abs, bi_max, bi_min, bi_intI, bi_intB, bi_listL, bi_listT, bi_listR, bi_tupL, bi_tupT, bi_all, bi_any, bi_sum, bi_lenset, bi_repr, au_add, au_sub, ixL0, ixL1, ixL2, esc_b, escQ_f, escQ_t, escQ_v, outR_b, outQ_o, outQ_v, modL_b, modQ_o, vq_tmp, vq_tup, vq_lst, vq_scr, vq_str, vq_b, vQ_o, asgR_b, List.length_map, me_app, me_appB, mt_app, mt_pop0, mt_pop1, mt_ins, mt_clear, mt_rev, mt_join, ws_cell, cellQ_o, cellQ_v, mt_index, mt_count, me_index, me_count, me_join, strLst_i, me_clear, me_rev, me_pop1, me_ins, true_and, isTys, isTy, tyN, Option.map_some, String.reduceBEq, Bool.or_false, Bool.false_or, Bool.or_true, Bool.true_or, Bool.and_false, Bool.and_true, Bool.false_and, Bool.true_and, Bool.not_true, Bool.not_false, List.getElem?_cons_zero, List.getElem?_cons_succ, List.set_cons_zero, List.set_cons_succ, List.map_cons, List.map_nil, List.replicate_succ, List.replicate_zero, List.cons_append, List.nil_append, Nat.sub_self, e5, e6, e2, e3, hz, ← List.map_take, ← List.map_drop]
      refine ⟨by show 2 ≤ sizeLine; decide, by show 1 ≤ sizeLine; decide, ?_, ?_, ?_⟩
      · simp only [List.length_map, List.length_take, List.length_cons, List.length_nil, sizeLine_eq]; omega
      · simp only [List.length_map, List.length_take, List.length_append, List.length_cons, List.length_nil, List.length_drop, sizeLine_eq]; omega
      · have e : List.map cardD (l.take i ++ (n, d) :: l.drop i) = (List.map cardD (l.take i) ++ [D.tup [D.str n, D.int d]]) ++ List.map cardD (l.drop i) := by
          rw [List.map_append, List.map_cons, List.append_assoc]
          rfl
        rw [e] at q
        exact q
end LW
set_option maxHeartbeats 4000000
namespace LW
open PySem PI
variable {T : Tab} {k : Nat} {Q : R → PSto → Prop} {E : Exn → PSto → Prop}

/-! ### a deck as it was handed on -/
inductive HandV (st : PSto) (l : Deck) : D → PyData → Prop
  | tup {es : List D} (hp : Paired (CardH st) es l) : HandV st l (.tup es) (.tuple (List.zipWith pv es l))
  | ref {es : List D} {r : Nat} (hr : st[r]? = some (.lst es)) (h0 : r ≠ 0) (hp : Paired (CardH st) es l) : HandV st l (.ref r) (.list (List.zipWith pv es l))
section
variable {st st' : PSto} {l : Deck} {h : D} {p : PyData} {c : Nat}
theorem HandV.deckR (v : HandV st l h p) : DeckR st h l := by
  cases v with
  | tup hp => exact ⟨_, rfl, paired_imp hp fun _ _ h => h.r⟩
  | ref hr h0 hp =>
    refine ⟨_, ?_, paired_imp hp fun _ _ h => h.r⟩
    unfold seqOf
    rw [dd_ref hr]
theorem HandV.old (v : HandV st l h p) (s : Spr c 0 st) (o : Old 0 st st') : HandV st' l h p := by
  cases v with
  | tup hp => exact .tup (paired_imp hp fun _ _ h => h.old s o)
  | ref hr h0 hp => exact .ref (o _ _ h0 hr) h0 (paired_imp hp fun _ _ h => h.old s o)
theorem HandV.repr (v : HandV st l h p) (hl : DeckOk l) {Q : PyData → Prop} (q : Q p) : oq (derefD st h) fun x => vw st x fun p => seqD p ∧ p.showable = true ∧ p.depth ≤ 12 ∧ p.shown.length ≤ sizeLine ∧ Q p := by
  cases v with
  | tup hp => exact vw_of (view_tup hp) (shw_deck hp.length hl).2 q
  | ref hr h0 hp =>
    rw [dd_ref hr]
    exact vw_of (view_lst hp) (shw_deck hp.length hl).1 q
theorem spr_pos (s : Spr c 0 st) : st.length ≠ 0 := fun z => by
  obtain ⟨F, S, N, g, _⟩ := s.ex
  have := (List.getElem?_eq_some_iff.mp g).1
  omega
/-- what comes of handing on: at once a cell -/
theorem hand_cell {x : R} (s : Spr c 0 st) (h : HandR st x l) : (∃ es, x = .d (.tup es) ∧ HandV st l (.tup es) (.tuple (List.zipWith pv es l))) ∨ ∃ es, x = .tmp es ∧ HandV (st ++ [.lst es]) l (.ref st.length) (.list (List.zipWith pv es l)) := by
  cases x with
  | brw i => exact h.elim
  | tmp es => exact .inr ⟨es, rfl, .ref (by simp) (spr_pos s) (paired_imp h fun x y h => h.old s .app)⟩
  | d y => cases y <;> first | exact h.elim | exact .inl ⟨_, rfl, .tup h⟩
/-- the same, as a frozen list or a tuple -/
theorem hand_froz {x : R} (h : HandR st x l) : (∃ es, x = .d (.tup es) ∧ DeckR st (.tup es) l) ∨ ∃ es, x = .tmp es ∧ DeckR st (.lst es) l := by
  cases x with
  | brw i => exact h.elim
  | tmp es => exact .inr ⟨es, rfl, _, rfl, paired_imp h fun _ _ h => h.r⟩
  | d y => cases y <;> first | exact h.elim | exact .inl ⟨_, rfl, _, rfl, paired_imp h fun _ _ h => h.r⟩
/-- the cards' lists emptied -/
theorem clear_ok {i : Nat} {env : PEnv} {C : CallT} {X : QX} {Dn : Ends} (s : Spr c 0 st) (v : HandV st l h p) (hi : i < env.length)
    (nx : ∀ st' z, Spr c 0 st' → (∀ r es, h = .ref r → st[r]? = some (.lst es) → st'[r]? = some (.lst es)) → Dn.nx (env.set i z) st') (nx0 : Dn.nx env st) :
    valQ (.d h) env st fun ds chk env st => forLoop (.name i) (wpSs T C (.cons (.iff (.isi (.slot i) [.b "list"]) (.cons (.expr (.me .clear (.slot i) .nil)) .nil) .nil) .nil) X) chk Dn ds env st := by
  have main : ∀ (es : List D) (chk : PSto → Prop), Paired (CardH st) es l → (∀ st', (∀ r es, h = .ref r → st[r]? = some (.lst es) → st'[r]? = some (.lst es)) → chk st') → (∀ j, h = .ref j → st[j]? = some (.lst es)) →
      forLoop (.name i) (wpSs T C (.cons (.iff (.isi (.slot i) [.b "list"]) (.cons (.expr (.me .clear (.slot i) .nil)) .nil) .nil) .nil) X) chk Dn es env st := by
    intro es chk hp hc hh
    refine for_ind (fun xs env' st' => (∀ x ∈ xs, x ∈ es) ∧ Spr c 0 st' ∧ (∀ r es, h = .ref r → st[r]? = some (.lst es) → st'[r]? = some (.lst es)) ∧ (∀ x ∈ es, (∃ p, x = cardD p) ∨ ∃ j ds, x = .ref j ∧ st'[j]? = some (.lst ds) ∧ j ≠ 0 ∧ h ≠ .ref j) ∧
      ((env' = env ∧ st' = st) ∨ ∃ z, env' = env.set i z)) ?_ ?_ _ _ _ ⟨fun x hx => hx, s, fun _ _ _ h => h, fun x hx => ?_, .inl ⟨rfl, rfl⟩⟩
    · rintro env' st' ⟨_, h2, h3, _, h5⟩
      refine ⟨hc st' h3, ?_⟩
      rcases h5 with ⟨rfl, rfl⟩ | ⟨z, rfl⟩
      · exact nx0
      · exact nx st' z h2 h3
    · rintro x xs ih env' st' ⟨h1, h2, h3, h4, h5⟩
      refine ⟨hc st' h3, ?_⟩
      have he : env'.set i (.val x) = env.set i (.val x) := by
        rcases h5 with ⟨rfl, _⟩ | ⟨z, rfl⟩
        · rfl
        · rw [List.set_set]
      rw [asgT_n, he]
      have hg : (env.set i (.val x))[i]? = some (.val x) := List.getElem?_set_self hi
      rcases h4 x (h1 x List.mem_cons_self) with ⟨p, rfl⟩ | ⟨j, ds, rfl, hj, j0, jh⟩
      · have ec : cardD p = .tup [.str p.1, .int p.2] := rfl
        rw [ec] at hg ⊢
        simp only [ws_cons, ws_nil, ws_asg, ws_sub, ws_expr, ws_ret, ws_retn, ws_iff, ws_for, ws_raise, ws_pass, ws_brk, ws_cnt, ws_aug, we_slot, we_const, we_bin, we_neg, we_cmp, we_chain, we_and, we_or, we_not, we_ite, we_tup, we_lst, we_idx, we_slc, we_comp, we_call, we_bi, we_me, we_isi, we_nil, we_cons, wo_none, wo_some, wt_none, wt_some, wr_val, wr_rng1, wr_rng2, slotQ_val, slotQ_own, negQ_int, notQ_bl, blQ_bl, augQ_int, bc_t, bc_f, dr_d, dr_tmp, dr_brw, brwQ_own, brwQ_val, oq_some, dd_int, dd_str, dd_bl, dd_non, dd_tup, dd_lst, dd_scr, esc_d, esc_tf, esc_tt, escs_nil, escs_cons, drs_nil, drs_cons, asgR_d, asgR_t, asgT_n, outR_d, outR_t, op_add, op_addS, op_addT, op_addL, op_sub, op_mul, op_mulL, op_fdiv, op_mod, op_pow, cm_eq, cm_ne, eq_int, eq_str, eq_bl, eq_non, cm_lt, cm_le, cm_gt, cm_ge, cm_in, cm_notin, cm_is, cm_isnot, ix_lst, ix_scr, ix_tup, ix_str, at_0, at_1, at_2, at_3, sl_tup, sl_lst, sl_scr, bi_lenL, bi_lenR, bi_lenT, bi_lenS, bi_abs, bi_max, bi_min, bi_intI, bi_intB, bi_listL, bi_listT, bi_listR, bi_tupL, bi_tupT, bi_all, bi_any, bi_sum, bi_lenset, bi_repr, au_add, au_sub, ixL0, ixL1, ixL2, esc_b, escQ_f, escQ_t, escQ_v, outR_b, outQ_o, outQ_v, modL_b, modQ_o, vq_tmp, vq_tup, vq_lst, vq_scr, vq_str, vq_b, vQ_o, asgR_b, List.length_map, me_app, me_appB, mt_app, mt_pop0, mt_pop1, mt_ins, mt_clear, mt_rev, mt_join, ws_cell, cellQ_o, cellQ_v, mt_index, mt_count, me_index, me_count, me_join, strLst_i, me_clear, me_rev, me_pop1, me_ins, true_and, isTys, isTy, tyN, Option.map_some, String.reduceBEq, Bool.or_false, Bool.false_or, Bool.or_true, Bool.true_or, Bool.and_false, Bool.and_true, Bool.false_and, Bool.true_and, Bool.not_true, Bool.not_false, List.getElem?_cons_zero, List.getElem?_cons_succ, List.set_cons_zero, List.set_cons_succ, List.map_cons, List.map_nil, List.replicate_succ, List.replicate_zero, List.cons_append, List.nil_append, Nat.sub_self, hg]
        exact ih _ _ ⟨fun y hy => h1 y (List.mem_cons_of_mem _ hy), h2, h3, h4, .inr ⟨_, rfl⟩⟩
      · simp only [ws_cons, ws_nil, ws_asg, ws_sub, ws_expr, ws_ret, ws_retn, ws_iff, ws_for, ws_raise, ws_pass, ws_brk, ws_cnt, ws_aug, we_slot, we_const, we_bin, we_neg, we_cmp, we_chain, we_and, we_or, we_not, we_ite, we_tup, we_lst, we_idx, we_slc, we_comp, we_call, we_bi, we_me, we_isi, we_nil, we_cons, wo_none, wo_some, wt_none, wt_some, wr_val, wr_rng1, wr_rng2, slotQ_val, slotQ_own, negQ_int, notQ_bl, blQ_bl, augQ_int, bc_t, bc_f, dr_d, dr_tmp, dr_brw, brwQ_own, brwQ_val, oq_some, dd_int, dd_str, dd_bl, dd_non, dd_tup, dd_lst, dd_scr, esc_d, esc_tf, esc_tt, escs_nil, escs_cons, drs_nil, drs_cons, asgR_d, asgR_t, asgT_n, outR_d, outR_t, op_add, op_addS, op_addT, op_addL, op_sub, op_mul, op_mulL, op_fdiv, op_mod, op_pow, cm_eq, cm_ne, eq_int, eq_str, eq_bl, eq_non, cm_lt, cm_le, cm_gt, cm_ge, cm_in, cm_notin, cm_is, cm_isnot, ix_lst, ix_scr, ix_tup, ix_str, at_0, at_1, at_2, at_3, sl_tup, sl_lst, sl_scr, bi_lenL, bi_lenR, bi_lenT, bi_lenS, bi_abs, bi_max, bi_min, bi_intI, bi_intB, bi_listL, bi_listT, bi_listR, bi_tupL, bi_tupT, bi_all, bi_any, bi_sum, bi_lenset, bi_repr, au_add, au_sub, ixL0, ixL1, ixL2, esc_b, escQ_f, escQ_t, escQ_v, outR_b, outQ_o, outQ_v, modL_b, modQ_o, vq_tmp, vq_tup, vq_lst, vq_scr, vq_str, vq_b, vQ_o, asgR_b, List.length_map, me_app, me_appB, mt_app, mt_pop0, mt_pop1, mt_ins, mt_clear, mt_rev, mt_join, ws_cell, cellQ_o, cellQ_v, mt_index, mt_count, me_index, me_count, me_join, strLst_i, me_clear, me_rev, me_pop1, me_ins, true_and, isTys, isTy, tyN, Option.map_some, String.reduceBEq, Bool.or_false, Bool.false_or, Bool.or_true, Bool.true_or, Bool.and_false, Bool.and_true, Bool.false_and, Bool.true_and, Bool.not_true, Bool.not_false, List.getElem?_cons_zero, List.getElem?_cons_succ, List.set_cons_zero, List.set_cons_succ, List.map_cons, List.map_nil, List.replicate_succ, List.replicate_zero, List.cons_append, List.nil_append, Nat.sub_self, hg, dd_ref hj, modL_ref hj]
        refine ih _ _ ⟨fun y hy => h1 y (List.mem_cons_of_mem _ hy), ?_, fun r es' e1 e2 => ?_, fun y hy => ?_, .inr ⟨_, rfl⟩⟩
        · obtain ⟨F, S, N, g1, g2⟩ := h2.ex
          exact ⟨F, S, N, by rw [List.getElem?_set_ne j0]; exact g1, g2⟩
        · have : j ≠ r := fun z => jh (by rw [e1, z])
          rw [List.getElem?_set_ne this]
          exact h3 r es' e1 e2
        · rcases h4 y hy with hq | ⟨m, ds', rfl, hm, m0, mh⟩
          · exact .inl hq
          · by_cases e : j = m
            · subst e
              exact .inr ⟨j, [], rfl, st_set hj, j0, jh⟩
            · exact .inr ⟨m, ds', rfl, by rw [List.getElem?_set_ne e]; exact hm, m0, mh⟩
    · obtain ⟨q, _, hq⟩ := paired_mem hp x hx
      rcases hq with hq | ⟨j, hq, hj⟩
      · exact .inl ⟨q, hq⟩
      · refine .inr ⟨j, _, hq, hj, fun z => ?_, fun z => ?_⟩
        · subst z
          obtain ⟨F, S, N, g1, _⟩ := s.ex
          rw [g1] at hj
          cases hj
        · have := hh j z
          rw [hj] at this
          injection this with this
          injection this with this
          rw [← this] at hp
          cases hp with
          | cons a _ => rcases a with a | ⟨_, a, _⟩ <;> cases a
  cases v with
  | tup hp =>
    rw [vq_tup]
    exact main _ _ hp (fun _ _ => trivial) fun j z => (by cases z)
  | ref hr h0 hp =>
    rw [vq_ref hr]
    exact main _ _ hp (fun st' z => ⟨_, z _ _ rfl hr, rfl⟩) fun j z => (by cases z; exact hr)
end
end LW
set_option maxHeartbeats 4000000
namespace LW
open PySem PI

theorem draw_v {T : Tab} {k : Nat} (hT : T.fn "_law_draw" = some d__law_draw) (hk : 1 ≤ k) {c : Nat} {st : PSto} {m : Int} {l : Deck} {h : D} {p : PyData} {Q : R → PSto → Prop} {E : Exn → PSto → Prop} (s : Spr c 0 st) (hc : c < 2 ^ 64) (h1 : 0 < m) (h2 : m < 2 ^ 64) (v : HandV st l h p)
    (kk : ∀ (x : Int) (st' : PSto), 0 ≤ x → x < m → Spr (c + 1) 0 st' → HandV st' l h p → Q (.d (.int x)) st') : wpC T k "_law_draw" [.ref 0, .int m] st Q E :=
  draw_ok hT hk s hc h1 h2 fun x cell a b s' => kk x _ a b s' (v.old s .set)
def lawBody : Ss := match d_law.body with
  | .cons _ (.cons _ (.cons (.forr _ _ b) _)) => b
  | _ => .nil
def dropS : Nat → Ss → Ss
  | 0, s => s
  | n + 1, .cons _ s => dropS n s
  | _ + 1, .nil => .nil
theorem lawT : Law0 TT := ⟨rfl, rfl, rfl, rfl, rfl, rfl, rfl⟩
theorem progT : Prog0 TT := ⟨rfl, rfl, rfl, rfl, rfl⟩
theorem name_w : NameOk (Str.ofString "zzz") ∧ NameOk (Str.ofString "aaaaaaaa") ∧ NameOk (Str.ofString "q") := by
  have e1 : sg (Str.ofString "zzz") = [122, 122, 122] := by decide +kernel
  have e2 : sg (Str.ofString "aaaaaaaa") = [97, 97, 97, 97, 97, 97, 97, 97] := by decide +kernel
  have e3 : sg (Str.ofString "q") = [113] := by decide +kernel
  exact ⟨⟨by rw [e1]; decide, by rw [e1]; decide, by rw [e1]; decide⟩, ⟨by rw [e2]; decide, by rw [e2]; decide, by rw [e2]; decide⟩, ⟨by rw [e3]; decide, by rw [e3]; decide, by rw [e3]; decide⟩⟩
theorem cut_at {α : Type} {A B : List α} {x : α} {n : Nat} (h : A.length = n) : (A ++ x :: B).take n = A ∧ (A ++ x :: B).drop (n + 1) = B := by
  subst h
  simp
theorem turn_b {k : Nat} (hk : 9 ≤ k) {X : QX} {Dn : Ends} {st : PSto} {c : Nat} {l : Deck} {h : D} {p : PyData} {sc tn : D} {z5 z6 z7 z8 z9 z10 z11 z12 z13 z14 z15 z16 z17 : Sl} (s : Spr c 0 st) (hc : c + 100 < 2 ^ 60) (hl : DeckOk l) (v : HandV st l h p)
    (nx : ∀ z3 z4 z5 z6 z7 z8 z9 z10 z11 z12 z13 z14 z15 z16 z17 st', Spr (c + 100) 0 st' → Dn.nx [.val sc, .val (.ref 0), .val tn, z3, z4, z5, z6, z7, z8, z9, z10, z11, z12, z13, z14, z15, z16, z17] st') :
    wpSs TT (wpC TT k) (dropS 3 lawBody) X Dn [.val sc, .val (.ref 0), .val tn, .val (deckD l), .val h, z5, z6, z7, z8, z9, z10, z11, z12, z13, z14, z15, z16, z17] st := by
  have l1 := hl.l1
  have l40 := hl.l40
  have sz := deck_sz hl
  simp only [lawBody, d_law, dropS, ws_cons, ws_nil, ws_asg, ws_sub, ws_expr, ws_ret, ws_retn, ws_iff, ws_for, ws_raise, ws_pass, ws_brk, ws_cnt, ws_aug, we_slot, we_const, we_bin, we_neg, we_cmp, we_chain, we_and, we_or, we_not, we_ite, we_tup, we_lst, we_idx, we_slc, we_comp, we_call, we_bi, we_me, we_isi, we_nil, we_cons, wo_none, wo_some, wt_none, wt_some, wr_val, wr_rng1, wr_rng2, slotQ_val, slotQ_own, negQ_int, notQ_bl, blQ_bl, augQ_int, bc_t, bc_f, dr_d, dr_tmp, dr_brw, brwQ_own, brwQ_val, oq_some, dd_int, dd_str, dd_bl, dd_non, dd_tup, dd_lst, dd_scr, esc_d, esc_tf, esc_tt, escs_nil, escs_cons, drs_nil, drs_cons, asgR_d, asgR_t, asgT_n, outR_d, outR_t, op_add, op_addS, op_addT, op_addL, op_sub, op_mul, op_mulL, op_fdiv, op_mod, op_pow, cm_eq, cm_ne, eq_int, eq_str, eq_bl, eq_non, cm_lt, cm_le, cm_gt, cm_ge, cm_in, cm_notin, cm_is, cm_isnot, ix_lst, ix_scr, ix_tup, ix_str, at_0, at_1, at_2, at_3, sl_tup, sl_lst, sl_scr, bi_lenL, bi_lenR, bi_lenT, bi_lenS, bi_abs, bi_max, bi_min, bi_intI, bi_intB, bi_listL, bi_listT, bi_listR, bi_tupL, bi_tupT, bi_all, bi_any, bi_sum, bi_lenset, bi_repr, au_add, au_sub, ixL0, ixL1, ixL2, esc_b, escQ_f, escQ_t, escQ_v, outR_b, outQ_o, outQ_v, modL_b, modQ_o, vq_tmp, vq_tup, vq_lst, vq_scr, vq_str, vq_b, vQ_o, asgR_b, List.length_map, me_app, me_appB, mt_app, mt_pop0, mt_pop1, mt_ins, mt_clear, mt_rev, mt_join, ws_cell, cellQ_o, cellQ_v, mt_index, mt_count, me_index, me_count, me_join, strLst_i, me_clear, me_rev, me_pop1, me_ins, true_and, isTys, isTy, tyN, Option.map_some, String.reduceBEq, Bool.or_false, Bool.false_or, Bool.or_true, Bool.true_or, Bool.and_false, Bool.and_true, Bool.false_and, Bool.true_and, Bool.not_true, Bool.not_false, List.getElem?_cons_zero, List.getElem?_cons_succ, List.set_cons_zero, List.set_cons_succ, List.map_cons, List.map_nil, List.replicate_succ, List.replicate_zero, List.cons_append, List.nil_append, Nat.sub_self]
  refine v.repr hl ?_
  refine draw_v lawT.draw (by omega) s (by omega) (by decide) (by decide) v fun a1 st1 u1 w1 s1 v1 => ?_
  simp only [deckD, ws_cons, ws_nil, ws_asg, ws_sub, ws_expr, ws_ret, ws_retn, ws_iff, ws_for, ws_raise, ws_pass, ws_brk, ws_cnt, ws_aug, we_slot, we_const, we_bin, we_neg, we_cmp, we_chain, we_and, we_or, we_not, we_ite, we_tup, we_lst, we_idx, we_slc, we_comp, we_call, we_bi, we_me, we_isi, we_nil, we_cons, wo_none, wo_some, wt_none, wt_some, wr_val, wr_rng1, wr_rng2, slotQ_val, slotQ_own, negQ_int, notQ_bl, blQ_bl, augQ_int, bc_t, bc_f, dr_d, dr_tmp, dr_brw, brwQ_own, brwQ_val, oq_some, dd_int, dd_str, dd_bl, dd_non, dd_tup, dd_lst, dd_scr, esc_d, esc_tf, esc_tt, escs_nil, escs_cons, drs_nil, drs_cons, asgR_d, asgR_t, asgT_n, outR_d, outR_t, op_add, op_addS, op_addT, op_addL, op_sub, op_mul, op_mulL, op_fdiv, op_mod, op_pow, cm_eq, cm_ne, eq_int, eq_str, eq_bl, eq_non, cm_lt, cm_le, cm_gt, cm_ge, cm_in, cm_notin, cm_is, cm_isnot, ix_lst, ix_scr, ix_tup, ix_str, at_0, at_1, at_2, at_3, sl_tup, sl_lst, sl_scr, bi_lenL, bi_lenR, bi_lenT, bi_lenS, bi_abs, bi_max, bi_min, bi_intI, bi_intB, bi_listL, bi_listT, bi_listR, bi_tupL, bi_tupT, bi_all, bi_any, bi_sum, bi_lenset, bi_repr, au_add, au_sub, ixL0, ixL1, ixL2, esc_b, escQ_f, escQ_t, escQ_v, outR_b, outQ_o, outQ_v, modL_b, modQ_o, vq_tmp, vq_tup, vq_lst, vq_scr, vq_str, vq_b, vQ_o, asgR_b, List.length_map, me_app, me_appB, mt_app, mt_pop0, mt_pop1, mt_ins, mt_clear, mt_rev, mt_join, ws_cell, cellQ_o, cellQ_v, mt_index, mt_count, me_index, me_count, me_join, strLst_i, me_clear, me_rev, me_pop1, me_ins, true_and, isTys, isTy, tyN, Option.map_some, String.reduceBEq, Bool.or_false, Bool.false_or, Bool.or_true, Bool.true_or, Bool.and_false, Bool.and_true, Bool.false_and, Bool.true_and, Bool.not_true, Bool.not_false, List.getElem?_cons_zero, List.getElem?_cons_succ, List.set_cons_zero, List.set_cons_succ, List.map_cons, List.map_nil, List.replicate_succ, List.replicate_zero, List.cons_append, List.nil_append, Nat.sub_self]
  refine draw_v lawT.draw (by omega) s1 (by omega) (by omega) (by omega) v1 fun a2 st2 u2 w2 s2 v2 => ?_
  simp only [ws_cons, ws_nil, ws_asg, ws_sub, ws_expr, ws_ret, ws_retn, ws_iff, ws_for, ws_raise, ws_pass, ws_brk, ws_cnt, ws_aug, we_slot, we_const, we_bin, we_neg, we_cmp, we_chain, we_and, we_or, we_not, we_ite, we_tup, we_lst, we_idx, we_slc, we_comp, we_call, we_bi, we_me, we_isi, we_nil, we_cons, wo_none, wo_some, wt_none, wt_some, wr_val, wr_rng1, wr_rng2, slotQ_val, slotQ_own, negQ_int, notQ_bl, blQ_bl, augQ_int, bc_t, bc_f, dr_d, dr_tmp, dr_brw, brwQ_own, brwQ_val, oq_some, dd_int, dd_str, dd_bl, dd_non, dd_tup, dd_lst, dd_scr, esc_d, esc_tf, esc_tt, escs_nil, escs_cons, drs_nil, drs_cons, asgR_d, asgR_t, asgT_n, outR_d, outR_t, op_add, op_addS, op_addT, op_addL, op_sub, op_mul, op_mulL, op_fdiv, op_mod, op_pow, cm_eq, cm_ne, eq_int, eq_str, eq_bl, eq_non, cm_lt, cm_le, cm_gt, cm_ge, cm_in, cm_notin, cm_is, cm_isnot, ix_lst, ix_scr, ix_tup, ix_str, at_0, at_1, at_2, at_3, sl_tup, sl_lst, sl_scr, bi_lenL, bi_lenR, bi_lenT, bi_lenS, bi_abs, bi_max, bi_min, bi_intI, bi_intB, bi_listL, bi_listT, bi_listR, bi_tupL, bi_tupT, bi_all, bi_any, bi_sum, bi_lenset, bi_repr, au_add, au_sub, ixL0, ixL1, ixL2, esc_b, escQ_f, escQ_t, escQ_v, outR_b, outQ_o, outQ_v, modL_b, modQ_o, vq_tmp, vq_tup, vq_lst, vq_scr, vq_str, vq_b, vQ_o, asgR_b, List.length_map, me_app, me_appB, mt_app, mt_pop0, mt_pop1, mt_ins, mt_clear, mt_rev, mt_join, ws_cell, cellQ_o, cellQ_v, mt_index, mt_count, me_index, me_count, me_join, strLst_i, me_clear, me_rev, me_pop1, me_ins, true_and, isTys, isTy, tyN, Option.map_some, String.reduceBEq, Bool.or_false, Bool.false_or, Bool.or_true, Bool.true_or, Bool.and_false, Bool.and_true, Bool.false_and, Bool.true_and, Bool.not_true, Bool.not_false, List.getElem?_cons_zero, List.getElem?_cons_succ, List.set_cons_zero, List.set_cons_succ, List.map_cons, List.map_nil, List.replicate_succ, List.replicate_zero, List.cons_append, List.nil_append, Nat.sub_self]
  refine ⟨⟨by decide, by decide, by decide⟩, by show 4 ≤ sizeLine; decide, ?_⟩
  refine draw_v lawT.draw (by omega) s2 (by omega) (by omega) (by omega) v2 fun a3 st3 u3 w3 s3 v3 => ?_
  have p30 : (10 : Int) ^ (30 : Int).toNat = 1000000000000000000000000000000 := by decide
  have hV : ∃ V : Int, L2.atI [D.int a1, D.int a2, D.int (10 ^ (30 : Int).toNat - 1), D.int 0] a3 = some (.int V) ∧ 0 ≤ V ∧ V < 10 ^ 30 := by
    have e30 : (10 : Int) ^ 30 = 1000000000000000000000000000000 := by decide
    have : a3 = 0 ∨ a3 = 1 ∨ a3 = 2 ∨ a3 = 3 := by omega
    rw [p30, e30]
    rcases this with rfl | rfl | rfl | rfl
    · exact ⟨_, at_0, by omega, by omega⟩
    · exact ⟨_, at_1, by omega, by omega⟩
    · exact ⟨_, at_2, by omega, by omega⟩
    · exact ⟨_, at_3, by omega, by omega⟩
  obtain ⟨V, hV, V0, V1⟩ := hV
  simp only [ws_cons, ws_nil, ws_asg, ws_sub, ws_expr, ws_ret, ws_retn, ws_iff, ws_for, ws_raise, ws_pass, ws_brk, ws_cnt, ws_aug, we_slot, we_const, we_bin, we_neg, we_cmp, we_chain, we_and, we_or, we_not, we_ite, we_tup, we_lst, we_idx, we_slc, we_comp, we_call, we_bi, we_me, we_isi, we_nil, we_cons, wo_none, wo_some, wt_none, wt_some, wr_val, wr_rng1, wr_rng2, slotQ_val, slotQ_own, negQ_int, notQ_bl, blQ_bl, augQ_int, bc_t, bc_f, dr_d, dr_tmp, dr_brw, brwQ_own, brwQ_val, oq_some, dd_int, dd_str, dd_bl, dd_non, dd_tup, dd_lst, dd_scr, esc_d, esc_tf, esc_tt, escs_nil, escs_cons, drs_nil, drs_cons, asgR_d, asgR_t, asgT_n, outR_d, outR_t, op_add, op_addS, op_addT, op_addL, op_sub, op_mul, op_mulL, op_fdiv, op_mod, op_pow, cm_eq, cm_ne, eq_int, eq_str, eq_bl, eq_non, cm_lt, cm_le, cm_gt, cm_ge, cm_in, cm_notin, cm_is, cm_isnot, ix_lst, ix_scr, ix_tup, ix_str, at_0, at_1, at_2, at_3, sl_tup, sl_lst, sl_scr, bi_lenL, bi_lenR, bi_lenT, bi_lenS, bi_abs, bi_max, bi_min, bi_intI, bi_intB, bi_listL, bi_listT, bi_listR, bi_tupL, bi_tupT, bi_all, bi_any, bi_sum, bi_lenset, bi_repr, au_add, au_sub, ixL0, ixL1, ixL2, esc_b, escQ_f, escQ_t, escQ_v, outR_b, outQ_o, outQ_v, modL_b, modQ_o, vq_tmp, vq_tup, vq_lst, vq_scr, vq_str, vq_b, vQ_o, asgR_b, List.length_map, me_app, me_appB, mt_app, mt_pop0, mt_pop1, mt_ins, mt_clear, mt_rev, mt_join, ws_cell, cellQ_o, cellQ_v, mt_index, mt_count, me_index, me_count, me_join, strLst_i, me_clear, me_rev, me_pop1, me_ins, true_and, isTys, isTy, tyN, Option.map_some, String.reduceBEq, Bool.or_false, Bool.false_or, Bool.or_true, Bool.true_or, Bool.and_false, Bool.and_true, Bool.false_and, Bool.true_and, Bool.not_true, Bool.not_false, List.getElem?_cons_zero, List.getElem?_cons_succ, List.set_cons_zero, List.set_cons_succ, List.map_cons, List.map_nil, List.replicate_succ, List.replicate_zero, List.cons_append, List.nil_append, Nat.sub_self, hV]
  refine ⟨by show 3 ≤ sizeLine; decide, ?_⟩
  refine draw_v lawT.draw (by omega) s3 (by omega) (by omega) (by omega) v3 fun a4 st4 u4 w4 s4 v4 => ?_
  have hN : ∃ n : Str, L2.atI [D.str (Str.ofString "zzz"), D.str (Str.ofString "aaaaaaaa"), D.str (Str.ofString "q")] a4 = some (.str n) ∧ NameOk n := by
    have : a4 = 0 ∨ a4 = 1 ∨ a4 = 2 := by omega
    obtain ⟨n1, n2, n3⟩ := name_w
    rcases this with rfl | rfl | rfl
    · exact ⟨_, at_0, n1⟩
    · exact ⟨_, at_1, n2⟩
    · exact ⟨_, at_2, n3⟩
  obtain ⟨n, hN, nm⟩ := hN
  simp only [ws_cons, ws_nil, ws_asg, ws_sub, ws_expr, ws_ret, ws_retn, ws_iff, ws_for, ws_raise, ws_pass, ws_brk, ws_cnt, ws_aug, we_slot, we_const, we_bin, we_neg, we_cmp, we_chain, we_and, we_or, we_not, we_ite, we_tup, we_lst, we_idx, we_slc, we_comp, we_call, we_bi, we_me, we_isi, we_nil, we_cons, wo_none, wo_some, wt_none, wt_some, wr_val, wr_rng1, wr_rng2, slotQ_val, slotQ_own, negQ_int, notQ_bl, blQ_bl, augQ_int, bc_t, bc_f, dr_d, dr_tmp, dr_brw, brwQ_own, brwQ_val, oq_some, dd_int, dd_str, dd_bl, dd_non, dd_tup, dd_lst, dd_scr, esc_d, esc_tf, esc_tt, escs_nil, escs_cons, drs_nil, drs_cons, asgR_d, asgR_t, asgT_n, outR_d, outR_t, op_add, op_addS, op_addT, op_addL, op_sub, op_mul, op_mulL, op_fdiv, op_mod, op_pow, cm_eq, cm_ne, eq_int, eq_str, eq_bl, eq_non, cm_lt, cm_le, cm_gt, cm_ge, cm_in, cm_notin, cm_is, cm_isnot, ix_lst, ix_scr, ix_tup, ix_str, at_0, at_1, at_2, at_3, sl_tup, sl_lst, sl_scr, bi_lenL, bi_lenR, bi_lenT, bi_lenS, bi_abs, bi_max, bi_min, bi_intI, bi_intB, bi_listL, bi_listT, bi_listR, bi_tupL, bi_tupT, bi_all, bi_any, bi_sum, bi_lenset, bi_repr, au_add, au_sub, ixL0, ixL1, ixL2, esc_b, escQ_f, escQ_t, escQ_v, outR_b, outQ_o, outQ_v, modL_b, modQ_o, vq_tmp, vq_tup, vq_lst, vq_scr, vq_str, vq_b, vQ_o, asgR_b, List.length_map, me_app, me_appB, mt_app, mt_pop0, mt_pop1, mt_ins, mt_clear, mt_rev, mt_join, ws_cell, cellQ_o, cellQ_v, mt_index, mt_count, me_index, me_count, me_join, strLst_i, me_clear, me_rev, me_pop1, me_ins, true_and, isTys, isTy, tyN, Option.map_some, String.reduceBEq, Bool.or_false, Bool.false_or, Bool.or_true, Bool.true_or, Bool.and_false, Bool.and_true, Bool.false_and, Bool.true_and, Bool.not_true, Bool.not_false, List.getElem?_cons_zero, List.getElem?_cons_succ, List.set_cons_zero, List.set_cons_succ, List.map_cons, List.map_nil, List.replicate_succ, List.replicate_zero, List.cons_append, List.nil_append, Nat.sub_self, hN]
  refine draw_v lawT.draw (by omega) s4 (by omega) (by omega) (by omega) v4 fun a5 st5 u5 w5 s5 v5 => ?_
  simp only [ws_cons, ws_nil, ws_asg, ws_sub, ws_expr, ws_ret, ws_retn, ws_iff, ws_for, ws_raise, ws_pass, ws_brk, ws_cnt, ws_aug, we_slot, we_const, we_bin, we_neg, we_cmp, we_chain, we_and, we_or, we_not, we_ite, we_tup, we_lst, we_idx, we_slc, we_comp, we_call, we_bi, we_me, we_isi, we_nil, we_cons, wo_none, wo_some, wt_none, wt_some, wr_val, wr_rng1, wr_rng2, slotQ_val, slotQ_own, negQ_int, notQ_bl, blQ_bl, augQ_int, bc_t, bc_f, dr_d, dr_tmp, dr_brw, brwQ_own, brwQ_val, oq_some, dd_int, dd_str, dd_bl, dd_non, dd_tup, dd_lst, dd_scr, esc_d, esc_tf, esc_tt, escs_nil, escs_cons, drs_nil, drs_cons, asgR_d, asgR_t, asgT_n, outR_d, outR_t, op_add, op_addS, op_addT, op_addL, op_sub, op_mul, op_mulL, op_fdiv, op_mod, op_pow, cm_eq, cm_ne, eq_int, eq_str, eq_bl, eq_non, cm_lt, cm_le, cm_gt, cm_ge, cm_in, cm_notin, cm_is, cm_isnot, ix_lst, ix_scr, ix_tup, ix_str, at_0, at_1, at_2, at_3, sl_tup, sl_lst, sl_scr, bi_lenL, bi_lenR, bi_lenT, bi_lenS, bi_abs, bi_max, bi_min, bi_intI, bi_intB, bi_listL, bi_listT, bi_listR, bi_tupL, bi_tupT, bi_all, bi_any, bi_sum, bi_lenset, bi_repr, au_add, au_sub, ixL0, ixL1, ixL2, esc_b, escQ_f, escQ_t, escQ_v, outR_b, outQ_o, outQ_v, modL_b, modQ_o, vq_tmp, vq_tup, vq_lst, vq_scr, vq_str, vq_b, vQ_o, asgR_b, List.length_map, me_app, me_appB, mt_app, mt_pop0, mt_pop1, mt_ins, mt_clear, mt_rev, mt_join, ws_cell, cellQ_o, cellQ_v, mt_index, mt_count, me_index, me_count, me_join, strLst_i, me_clear, me_rev, me_pop1, me_ins, true_and, isTys, isTy, tyN, Option.map_some, String.reduceBEq, Bool.or_false, Bool.false_or, Bool.or_true, Bool.true_or, Bool.and_false, Bool.and_true, Bool.false_and, Bool.true_and, Bool.not_true, Bool.not_false, List.getElem?_cons_zero, List.getElem?_cons_succ, List.set_cons_zero, List.set_cons_succ, List.map_cons, List.map_nil, List.replicate_succ, List.replicate_zero, List.cons_append, List.nil_append, Nat.sub_self]
  refine ⟨by show 3 ≤ sizeLine; decide, ?_⟩
  refine draw_v lawT.draw (by omega) s5 (by omega) (by omega) (by omega) v5 fun a6 st6 u6 w6 s6 v6 => ?_
  have hP : ∃ P : Nat, L2.atI [D.int 0, D.int (l.length : Nat), D.int a5] a6 = some (.int (P : Nat)) ∧ P ≤ l.length := by
    have : a6 = 0 ∨ a6 = 1 ∨ a6 = 2 := by omega
    rcases this with rfl | rfl | rfl
    · exact ⟨0, at_0, by omega⟩
    · exact ⟨l.length, at_1, by omega⟩
    · refine ⟨a5.toNat, ?_, by omega⟩
      rw [at_2, Int.toNat_of_nonneg u5]
  obtain ⟨P, hP, P1⟩ := hP
  simp only [ws_cons, ws_nil, ws_asg, ws_sub, ws_expr, ws_ret, ws_retn, ws_iff, ws_for, ws_raise, ws_pass, ws_brk, ws_cnt, ws_aug, we_slot, we_const, we_bin, we_neg, we_cmp, we_chain, we_and, we_or, we_not, we_ite, we_tup, we_lst, we_idx, we_slc, we_comp, we_call, we_bi, we_me, we_isi, we_nil, we_cons, wo_none, wo_some, wt_none, wt_some, wr_val, wr_rng1, wr_rng2, slotQ_val, slotQ_own, negQ_int, notQ_bl, blQ_bl, augQ_int, bc_t, bc_f, dr_d, dr_tmp, dr_brw, brwQ_own, brwQ_val, oq_some, dd_int, dd_str, dd_bl, dd_non, dd_tup, dd_lst, dd_scr, esc_d, esc_tf, esc_tt, escs_nil, escs_cons, drs_nil, drs_cons, asgR_d, asgR_t, asgT_n, outR_d, outR_t, op_add, op_addS, op_addT, op_addL, op_sub, op_mul, op_mulL, op_fdiv, op_mod, op_pow, cm_eq, cm_ne, eq_int, eq_str, eq_bl, eq_non, cm_lt, cm_le, cm_gt, cm_ge, cm_in, cm_notin, cm_is, cm_isnot, ix_lst, ix_scr, ix_tup, ix_str, at_0, at_1, at_2, at_3, sl_tup, sl_lst, sl_scr, bi_lenL, bi_lenR, bi_lenT, bi_lenS, bi_abs, bi_max, bi_min, bi_intI, bi_intB, bi_listL, bi_listT, bi_listR, bi_tupL, bi_tupT, bi_all, bi_any, bi_sum, bi_lenset, bi_repr, au_add, au_sub, ixL0, ixL1, ixL2, esc_b, escQ_f, escQ_t, escQ_v, outR_b, outQ_o, outQ_v, modL_b, modQ_o, vq_tmp, vq_tup, vq_lst, vq_scr, vq_str, vq_b, vQ_o, asgR_b, List.length_map, me_app, me_appB, mt_app, mt_pop0, mt_pop1, mt_ins, mt_clear, mt_rev, mt_join, ws_cell, cellQ_o, cellQ_v, mt_index, mt_count, me_index, me_count, me_join, strLst_i, me_clear, me_rev, me_pop1, me_ins, true_and, isTys, isTy, tyN, Option.map_some, String.reduceBEq, Bool.or_false, Bool.false_or, Bool.or_true, Bool.true_or, Bool.and_false, Bool.and_true, Bool.false_and, Bool.true_and, Bool.not_true, Bool.not_false, List.getElem?_cons_zero, List.getElem?_cons_succ, List.set_cons_zero, List.set_cons_succ, List.map_cons, List.map_nil, List.replicate_succ, List.replicate_zero, List.cons_append, List.nil_append, Nat.sub_self, hP]
  refine draw_v lawT.draw (by omega) s6 (by omega) (by omega) (by omega) v6 fun a7 st7 u7 w7 s7 v7 => ?_
  obtain ⟨at', rfl⟩ := Int.eq_ofNat_of_zero_le u7
  have hat : at' < l.length := by omega
  obtain ⟨cd, hcd⟩ : ∃ cd, l[at']? = some cd := ⟨_, List.getElem?_eq_getElem hat⟩
  have e4 : L2.atI (l.map cardD) (at' : Int) = some (cardD cd) := L2.atI_nat (by rw [List.getElem?_map, hcd]; rfl)
  have ec : ∀ p : Str × Int, cardD p = .tup [.str p.1, .int p.2] := fun _ => rfl
  simp only [ws_asg, ws_sub, ws_expr, ws_ret, ws_retn, ws_iff, ws_for, ws_raise, ws_pass, ws_brk, ws_cnt, ws_aug, we_slot, we_const, we_bin, we_neg, we_cmp, we_chain, we_and, we_or, we_not, we_ite, we_tup, we_lst, we_idx, we_slc, we_comp, we_call, we_bi, we_me, we_isi, we_nil, we_cons, wo_none, wo_some, wt_none, wt_some, wr_val, wr_rng1, wr_rng2, slotQ_val, slotQ_own, negQ_int, notQ_bl, blQ_bl, augQ_int, bc_t, bc_f, dr_d, dr_tmp, dr_brw, brwQ_own, brwQ_val, oq_some, dd_int, dd_str, dd_bl, dd_non, dd_tup, dd_lst, dd_scr, esc_d, esc_tf, esc_tt, escs_nil, escs_cons, drs_nil, drs_cons, asgR_d, asgR_t, asgT_n, outR_d, outR_t, op_add, op_addS, op_addT, op_addL, op_sub, op_mul, op_mulL, op_fdiv, op_mod, op_pow, cm_eq, cm_ne, eq_int, eq_str, eq_bl, eq_non, cm_lt, cm_le, cm_gt, cm_ge, cm_in, cm_notin, cm_is, cm_isnot, ix_lst, ix_scr, ix_tup, ix_str, at_0, at_1, at_2, at_3, sl_tup, sl_lst, sl_scr, bi_lenL, bi_lenR, bi_lenT, bi_lenS, bi_abs, bi_max, bi_min, bi_intI, bi_intB, bi_listL, bi_listT, bi_listR, bi_tupL, bi_tupT, bi_all, bi_any, bi_sum, bi_lenset, bi_repr, au_add, au_sub, ixL0, ixL1, ixL2, esc_b, escQ_f, escQ_t, escQ_v, outR_b, outQ_o, outQ_v, modL_b, modQ_o, vq_tmp, vq_tup, vq_lst, vq_scr, vq_str, vq_b, vQ_o, asgR_b, List.length_map, me_app, me_appB, mt_app, mt_pop0, mt_pop1, mt_ins, mt_clear, mt_rev, mt_join, ws_cell, cellQ_o, cellQ_v, mt_index, mt_count, me_index, me_count, me_join, strLst_i, me_clear, me_rev, me_pop1, me_ins, true_and, isTys, isTy, tyN, Option.map_some, String.reduceBEq, Bool.or_false, Bool.false_or, Bool.or_true, Bool.true_or, Bool.and_false, Bool.and_true, Bool.false_and, Bool.true_and, Bool.not_true, Bool.not_false, List.getElem?_cons_zero, List.getElem?_cons_succ, List.set_cons_zero, List.set_cons_succ, List.map_cons, List.map_nil, List.replicate_succ, List.replicate_zero, List.cons_append, List.nil_append, Nat.sub_self]
  rw [ws_cons]
  simp only [ws_asg, ws_sub, ws_expr, ws_ret, ws_retn, ws_iff, ws_for, ws_raise, ws_pass, ws_brk, ws_cnt, ws_aug, we_slot, we_const, we_bin, we_neg, we_cmp, we_chain, we_and, we_or, we_not, we_ite, we_tup, we_lst, we_idx, we_slc, we_comp, we_call, we_bi, we_me, we_isi, we_nil, we_cons, wo_none, wo_some, wt_none, wt_some, wr_val, wr_rng1, wr_rng2, slotQ_val, slotQ_own, negQ_int, notQ_bl, blQ_bl, augQ_int, bc_t, bc_f, dr_d, dr_tmp, dr_brw, brwQ_own, brwQ_val, oq_some, dd_int, dd_str, dd_bl, dd_non, dd_tup, dd_lst, dd_scr, esc_d, esc_tf, esc_tt, escs_nil, escs_cons, drs_nil, drs_cons, asgR_d, asgR_t, asgT_n, outR_d, outR_t, op_add, op_addS, op_addT, op_addL, op_sub, op_mul, op_mulL, op_fdiv, op_mod, op_pow, cm_eq, cm_ne, eq_int, eq_str, eq_bl, eq_non, cm_lt, cm_le, cm_gt, cm_ge, cm_in, cm_notin, cm_is, cm_isnot, ix_lst, ix_scr, ix_tup, ix_str, at_0, at_1, at_2, at_3, sl_tup, sl_lst, sl_scr, bi_lenL, bi_lenR, bi_lenT, bi_lenS, bi_abs, bi_max, bi_min, bi_intI, bi_intB, bi_listL, bi_listT, bi_listR, bi_tupL, bi_tupT, bi_all, bi_any, bi_sum, bi_lenset, bi_repr, au_add, au_sub, ixL0, ixL1, ixL2, esc_b, escQ_f, escQ_t, escQ_v, outR_b, outQ_o, outQ_v, modL_b, modQ_o, vq_tmp, vq_tup, vq_lst, vq_scr, vq_str, vq_b, vQ_o, asgR_b, List.length_map, me_app, me_appB, mt_app, mt_pop0, mt_pop1, mt_ins, mt_clear, mt_rev, mt_join, ws_cell, cellQ_o, cellQ_v, mt_index, mt_count, me_index, me_count, me_join, strLst_i, me_clear, me_rev, me_pop1, me_ins, true_and, isTys, isTy, tyN, Option.map_some, String.reduceBEq, Bool.or_false, Bool.false_or, Bool.or_true, Bool.true_or, Bool.and_false, Bool.and_true, Bool.false_and, Bool.true_and, Bool.not_true, Bool.not_false, List.getElem?_cons_zero, List.getElem?_cons_succ, List.set_cons_zero, List.set_cons_succ, List.map_cons, List.map_nil, List.replicate_succ, List.replicate_zero, List.cons_append, List.nil_append, Nat.sub_self, e4, ec cd]
  rw [ws_cons]
  simp only [ws_asg, ws_sub, ws_expr, ws_ret, ws_retn, ws_iff, ws_for, ws_raise, ws_pass, ws_brk, ws_cnt, ws_aug, we_slot, we_const, we_bin, we_neg, we_cmp, we_chain, we_and, we_or, we_not, we_ite, we_tup, we_lst, we_idx, we_slc, we_comp, we_call, we_bi, we_me, we_isi, we_nil, we_cons, wo_none, wo_some, wt_none, wt_some, wr_val, wr_rng1, wr_rng2, slotQ_val, slotQ_own, negQ_int, notQ_bl, blQ_bl, augQ_int, bc_t, bc_f, dr_d, dr_tmp, dr_brw, brwQ_own, brwQ_val, oq_some, dd_int, dd_str, dd_bl, dd_non, dd_tup, dd_lst, dd_scr, esc_d, esc_tf, esc_tt, escs_nil, escs_cons, drs_nil, drs_cons, asgR_d, asgR_t, asgT_n, outR_d, outR_t, op_add, op_addS, op_addT, op_addL, op_sub, op_mul, op_mulL, op_fdiv, op_mod, op_pow, cm_eq, cm_ne, eq_int, eq_str, eq_bl, eq_non, cm_lt, cm_le, cm_gt, cm_ge, cm_in, cm_notin, cm_is, cm_isnot, ix_lst, ix_scr, ix_tup, ix_str, at_0, at_1, at_2, at_3, sl_tup, sl_lst, sl_scr, bi_lenL, bi_lenR, bi_lenT, bi_lenS, bi_abs, bi_max, bi_min, bi_intI, bi_intB, bi_listL, bi_listT, bi_listR, bi_tupL, bi_tupT, bi_all, bi_any, bi_sum, bi_lenset, bi_repr, au_add, au_sub, ixL0, ixL1, ixL2, esc_b, escQ_f, escQ_t, escQ_v, outR_b, outQ_o, outQ_v, modL_b, modQ_o, vq_tmp, vq_tup, vq_lst, vq_scr, vq_str, vq_b, vQ_o, asgR_b, List.length_map, me_app, me_appB, mt_app, mt_pop0, mt_pop1, mt_ins, mt_clear, mt_rev, mt_join, ws_cell, cellQ_o, cellQ_v, mt_index, mt_count, me_index, me_count, me_join, strLst_i, me_clear, me_rev, me_pop1, me_ins, true_and, isTys, isTy, tyN, Option.map_some, String.reduceBEq, Bool.or_false, Bool.false_or, Bool.or_true, Bool.true_or, Bool.and_false, Bool.and_true, Bool.false_and, Bool.true_and, Bool.not_true, Bool.not_false, List.getElem?_cons_zero, List.getElem?_cons_succ, List.set_cons_zero, List.set_cons_succ, List.map_cons, List.map_nil, List.replicate_succ, List.replicate_zero, List.cons_append, List.nil_append, Nat.sub_self]
  have all : ∀ m ∈ l.map (·.1), PyData.strOk m = true := fun m hm => by
    obtain ⟨p, hp, rfl⟩ := List.mem_map.mp hm
    exact (hl.nm p hp).ok
  have hi : (l.map (·.1))[at']? = some cd.1 := by rw [List.getElem?_map, hcd]; rfl
  have tailOk : ∀ (st : PSto) (c' : Nat) (z11 z12 z13 z14 z15 z16 z17 : Sl) (z5 z8 : Sl), Spr c' 0 st → c' ≤ c + 20 → HandV st l h p →
      wpSs TT (wpC TT k) (dropS 10 lawBody) X Dn [.val sc, .val (.ref 0), .val tn, .val (deckD l), .val h, .val (.str p.shown), .val (.int V), .val (.str n), z8, .val (.int (at' : Nat)), .val (.str cd.1), z11, z12, z13, z14, z15, z16, z17] st := by
    intro st c' z11 z12 z13 z14 z15 z16 z17 z5 z8 s hc' v
    have hsp : l = l.take at' ++ cd :: l.drop (at' + 1) := by
      obtain ⟨h1, h2⟩ := List.getElem?_eq_some_iff.mp hcd
      rw [← h2]
      simp
    have dOk : ∀ d : Int, 0 ≤ d → d < 10 ^ 30 → DeckOk (l.take at' ++ (cd.1, d) :: l.drop (at' + 1)) := fun d d0 d1 => by
      have hm : (l.take at' ++ (cd.1, d) :: l.drop (at' + 1)).map (·.1) = l.map (·.1) := by
        conv => rhs; rw [hsp]
        simp
      have hlen : (l.take at' ++ (cd.1, d) :: l.drop (at' + 1)).length = l.length := by
        have := congrArg List.length hm
        simpa using this
      have hin : ∀ q ∈ l.take at' ++ (cd.1, d) :: l.drop (at' + 1), q = (cd.1, d) ∨ q ∈ l := fun q hq => by
        rcases List.mem_append.mp hq with hq | hq
        · exact .inr (List.mem_of_mem_take hq)
        · cases hq with
          | head => exact .inl rfl
          | tail _ hq => exact .inr (List.mem_of_mem_drop hq)
      refine ⟨by omega, by omega, fun q hq => ?_, by rw [hm]; exact hl.nd, fun q hq => ?_⟩
      · rcases hin q hq with rfl | hq
        · exact hl.nm cd (List.mem_of_getElem? hcd)
        · exact hl.nm q hq
      · rcases hin q hq with rfl | hq
        · exact ⟨d0, d1⟩
        · exact hl.dp q hq
    have q1 : ∀ xs : List D, cutD xs none (some (at' : Int)) = xs.take at' := fun xs => cut_to
    have q2 : ∀ xs : List D, cutD xs (some ((at' : Int) + 1)) none = xs.drop (at' + 1) := fun xs => by rw [show ((at' : Int) + 1) = ((at' + 1 : Nat) : Int) by omega, cut_from]
    have tl : (l.take at').length + (l.drop (at' + 1)).length ≤ sizeLine := by rw [List.length_take, List.length_drop, sizeLine_eq]; omega
    have ap : ∀ a b : Deck, D.tup (List.map cardD a ++ List.map cardD b) = deckD (a ++ b) := fun a b => by
      rw [← List.map_append]
      rfl
    have hdue : D.tup (List.map cardD (l.take at') ++ [D.tup [D.str cd.1, D.int V]] ++ List.map cardD (l.drop (at' + 1))) = deckD (l.take at' ++ (cd.1, V) :: l.drop (at' + 1)) := by
      show _ = D.tup (List.map cardD (_ ++ _ :: _))
      rw [List.map_append, List.map_cons, List.append_assoc]
      rfl
    have o1 := dOk V V0 V1
    have dp := hl.dp cd (List.mem_of_getElem? hcd)
    generalize hdu : l.take at' ++ (cd.1, V) :: l.drop (at' + 1) = due at hdue o1
    have du40 := o1.l40
    have hi2 : (due.map (·.1))[at']? = some cd.1 := by
      have : due.map (·.1) = l.map (·.1) := by
        rw [← hdu]
        conv => rhs; rw [hsp]
        simp
      rw [this]
      exact hi
    have hback : due.take at' ++ (cd.1, cd.2) :: due.drop (at' + 1) = l := by
      have h1 : (l.take at').length = at' := by rw [List.length_take]; omega
      obtain ⟨r1, r2⟩ := cut_at (x := (cd.1, V)) (B := l.drop (at' + 1)) h1
      rw [← hdu, r1, r2]
      exact hsp.symm
    simp only [lawBody, d_law, dropS]
    rw [ws_cons]
    simp only [deckD, ws_asg, ws_sub, ws_expr, ws_ret, ws_retn, ws_iff, ws_for, ws_raise, ws_pass, ws_brk, ws_cnt, ws_aug, we_slot, we_const, we_bin, we_neg, we_cmp, we_chain, we_and, we_or, we_not, we_ite, we_tup, we_lst, we_idx, we_slc, we_comp, we_call, we_bi, we_me, we_isi, we_nil, we_cons, wo_none, wo_some, wt_none, wt_some, wr_val, wr_rng1, wr_rng2, slotQ_val, slotQ_own, negQ_int, notQ_bl, blQ_bl, augQ_int, bc_t, bc_f, dr_d, dr_tmp, dr_brw, brwQ_own, brwQ_val, oq_some, dd_int, dd_str, dd_bl, dd_non, dd_tup, dd_lst, dd_scr, esc_d, esc_tf, esc_tt, escs_nil, escs_cons, drs_nil, drs_cons, asgR_d, asgR_t, asgT_n, outR_d, outR_t, op_add, op_addS, op_addT, op_addL, op_sub, op_mul, op_mulL, op_fdiv, op_mod, op_pow, cm_eq, cm_ne, eq_int, eq_str, eq_bl, eq_non, cm_lt, cm_le, cm_gt, cm_ge, cm_in, cm_notin, cm_is, cm_isnot, ix_lst, ix_scr, ix_tup, ix_str, at_0, at_1, at_2, at_3, sl_tup, sl_lst, sl_scr, bi_lenL, bi_lenR, bi_lenT, bi_lenS, bi_abs, bi_max, bi_min, bi_intI, bi_intB, bi_listL, bi_listT, bi_listR, bi_tupL, bi_tupT, bi_all, bi_any, bi_sum, bi_lenset, bi_repr, au_add, au_sub, ixL0, ixL1, ixL2, esc_b, escQ_f, escQ_t, escQ_v, outR_b, outQ_o, outQ_v, modL_b, modQ_o, vq_tmp, vq_tup, vq_lst, vq_scr, vq_str, vq_b, vQ_o, asgR_b, List.length_map, me_app, me_appB, mt_app, mt_pop0, mt_pop1, mt_ins, mt_clear, mt_rev, mt_join, ws_cell, cellQ_o, cellQ_v, mt_index, mt_count, me_index, me_count, me_join, strLst_i, me_clear, me_rev, me_pop1, me_ins, true_and, isTys, isTy, tyN, Option.map_some, String.reduceBEq, Bool.or_false, Bool.false_or, Bool.or_true, Bool.true_or, Bool.and_false, Bool.and_true, Bool.false_and, Bool.true_and, Bool.not_true, Bool.not_false, List.getElem?_cons_zero, List.getElem?_cons_succ, List.set_cons_zero, List.set_cons_succ, List.map_cons, List.map_nil, List.replicate_succ, List.replicate_zero, List.cons_append, List.nil_append, Nat.sub_self, q1, q2, ← List.map_take, ← List.map_drop]
    refine ⟨tl, ?_⟩
    rw [ap, ws_cons]
    simp only [ws_asg, ws_sub, ws_expr, ws_ret, ws_retn, ws_iff, ws_for, ws_raise, ws_pass, ws_brk, ws_cnt, ws_aug, we_slot, we_const, we_bin, we_neg, we_cmp, we_chain, we_and, we_or, we_not, we_ite, we_tup, we_lst, we_idx, we_slc, we_comp, we_call, we_bi, we_me, we_isi, we_nil, we_cons, wo_none, wo_some, wt_none, wt_some, wr_val, wr_rng1, wr_rng2, slotQ_val, slotQ_own, negQ_int, notQ_bl, blQ_bl, augQ_int, bc_t, bc_f, dr_d, dr_tmp, dr_brw, brwQ_own, brwQ_val, oq_some, dd_int, dd_str, dd_bl, dd_non, dd_tup, dd_lst, dd_scr, esc_d, esc_tf, esc_tt, escs_nil, escs_cons, drs_nil, drs_cons, asgR_d, asgR_t, asgT_n, outR_d, outR_t, op_add, op_addS, op_addT, op_addL, op_sub, op_mul, op_mulL, op_fdiv, op_mod, op_pow, cm_eq, cm_ne, eq_int, eq_str, eq_bl, eq_non, cm_lt, cm_le, cm_gt, cm_ge, cm_in, cm_notin, cm_is, cm_isnot, ix_lst, ix_scr, ix_tup, ix_str, at_0, at_1, at_2, at_3, sl_tup, sl_lst, sl_scr, bi_lenL, bi_lenR, bi_lenT, bi_lenS, bi_abs, bi_max, bi_min, bi_intI, bi_intB, bi_listL, bi_listT, bi_listR, bi_tupL, bi_tupT, bi_all, bi_any, bi_sum, bi_lenset, bi_repr, au_add, au_sub, ixL0, ixL1, ixL2, esc_b, escQ_f, escQ_t, escQ_v, outR_b, outQ_o, outQ_v, modL_b, modQ_o, vq_tmp, vq_tup, vq_lst, vq_scr, vq_str, vq_b, vQ_o, asgR_b, List.length_map, me_app, me_appB, mt_app, mt_pop0, mt_pop1, mt_ins, mt_clear, mt_rev, mt_join, ws_cell, cellQ_o, cellQ_v, mt_index, mt_count, me_index, me_count, me_join, strLst_i, me_clear, me_rev, me_pop1, me_ins, true_and, isTys, isTy, tyN, Option.map_some, String.reduceBEq, Bool.or_false, Bool.false_or, Bool.or_true, Bool.true_or, Bool.and_false, Bool.and_true, Bool.false_and, Bool.true_and, Bool.not_true, Bool.not_false, List.getElem?_cons_zero, List.getElem?_cons_succ, List.set_cons_zero, List.set_cons_succ, List.map_cons, List.map_nil, List.replicate_succ, List.replicate_zero, List.cons_append, List.nil_append, Nat.sub_self]
    have next : ∀ z11 z12 z13 z14 z15 z16 z17, wpSs TT (wpC TT k) (dropS 12 lawBody) X Dn [.val sc, .val (.ref 0), .val tn, .val (deckD l), .val h, .val (.str p.shown), .val (.int V), .val (.str n), z8, .val (.int (at' : Nat)), .val (.str cd.1), z11, z12, z13, z14, z15, z16, z17] st := by
      intro z11 z12 z13 z14 z15 z16 z17
      simp only [lawBody, d_law, dropS]
      rw [ws_cons]
      simp only [deckD, ws_asg, ws_sub, ws_expr, ws_ret, ws_retn, ws_iff, ws_for, ws_raise, ws_pass, ws_brk, ws_cnt, ws_aug, we_slot, we_const, we_bin, we_neg, we_cmp, we_chain, we_and, we_or, we_not, we_ite, we_tup, we_lst, we_idx, we_slc, we_comp, we_call, we_bi, we_me, we_isi, we_nil, we_cons, wo_none, wo_some, wt_none, wt_some, wr_val, wr_rng1, wr_rng2, slotQ_val, slotQ_own, negQ_int, notQ_bl, blQ_bl, augQ_int, bc_t, bc_f, dr_d, dr_tmp, dr_brw, brwQ_own, brwQ_val, oq_some, dd_int, dd_str, dd_bl, dd_non, dd_tup, dd_lst, dd_scr, esc_d, esc_tf, esc_tt, escs_nil, escs_cons, drs_nil, drs_cons, asgR_d, asgR_t, asgT_n, outR_d, outR_t, op_add, op_addS, op_addT, op_addL, op_sub, op_mul, op_mulL, op_fdiv, op_mod, op_pow, cm_eq, cm_ne, eq_int, eq_str, eq_bl, eq_non, cm_lt, cm_le, cm_gt, cm_ge, cm_in, cm_notin, cm_is, cm_isnot, ix_lst, ix_scr, ix_tup, ix_str, at_0, at_1, at_2, at_3, sl_tup, sl_lst, sl_scr, bi_lenL, bi_lenR, bi_lenT, bi_lenS, bi_abs, bi_max, bi_min, bi_intI, bi_intB, bi_listL, bi_listT, bi_listR, bi_tupL, bi_tupT, bi_all, bi_any, bi_sum, bi_lenset, bi_repr, au_add, au_sub, ixL0, ixL1, ixL2, esc_b, escQ_f, escQ_t, escQ_v, outR_b, outQ_o, outQ_v, modL_b, modQ_o, vq_tmp, vq_tup, vq_lst, vq_scr, vq_str, vq_b, vQ_o, asgR_b, List.length_map, me_app, me_appB, mt_app, mt_pop0, mt_pop1, mt_ins, mt_clear, mt_rev, mt_join, ws_cell, cellQ_o, cellQ_v, mt_index, mt_count, me_index, me_count, me_join, strLst_i, me_clear, me_rev, me_pop1, me_ins, true_and, isTys, isTy, tyN, Option.map_some, String.reduceBEq, Bool.or_false, Bool.false_or, Bool.or_true, Bool.true_or, Bool.and_false, Bool.and_true, Bool.false_and, Bool.true_and, Bool.not_true, Bool.not_false, List.getElem?_cons_zero, List.getElem?_cons_succ, List.set_cons_zero, List.set_cons_succ, List.map_cons, List.map_nil, List.replicate_succ, List.replicate_zero, List.cons_append, List.nil_append, Nat.sub_self, q1, q2, ← List.map_take, ← List.map_drop]
      have ln : (List.map cardD (l.take at') ++ [D.tup [D.str cd.1, D.int V]]).length + (l.drop (at' + 1)).length ≤ sizeLine := by
        simp only [List.length_map, List.length_take, List.length_append, List.length_cons, List.length_nil, List.length_drop, sizeLine_eq]; omega
      refine ⟨by show 2 ≤ sizeLine; decide, by show 1 ≤ sizeLine; decide, by simp only [List.length_take, List.length_cons, List.length_nil, sizeLine_eq]; omega, ln, ?_⟩
      rw [hdue, ws_cons]
      simp only [ws_asg, ws_sub, ws_expr, ws_ret, ws_retn, ws_iff, ws_for, ws_raise, ws_pass, ws_brk, ws_cnt, ws_aug, we_slot, we_const, we_bin, we_neg, we_cmp, we_chain, we_and, we_or, we_not, we_ite, we_tup, we_lst, we_idx, we_slc, we_comp, we_call, we_bi, we_me, we_isi, we_nil, we_cons, wo_none, wo_some, wt_none, wt_some, wr_val, wr_rng1, wr_rng2, slotQ_val, slotQ_own, negQ_int, notQ_bl, blQ_bl, augQ_int, bc_t, bc_f, dr_d, dr_tmp, dr_brw, brwQ_own, brwQ_val, oq_some, dd_int, dd_str, dd_bl, dd_non, dd_tup, dd_lst, dd_scr, esc_d, esc_tf, esc_tt, escs_nil, escs_cons, drs_nil, drs_cons, asgR_d, asgR_t, asgT_n, outR_d, outR_t, op_add, op_addS, op_addT, op_addL, op_sub, op_mul, op_mulL, op_fdiv, op_mod, op_pow, cm_eq, cm_ne, eq_int, eq_str, eq_bl, eq_non, cm_lt, cm_le, cm_gt, cm_ge, cm_in, cm_notin, cm_is, cm_isnot, ix_lst, ix_scr, ix_tup, ix_str, at_0, at_1, at_2, at_3, sl_tup, sl_lst, sl_scr, bi_lenL, bi_lenR, bi_lenT, bi_lenS, bi_abs, bi_max, bi_min, bi_intI, bi_intB, bi_listL, bi_listT, bi_listR, bi_tupL, bi_tupT, bi_all, bi_any, bi_sum, bi_lenset, bi_repr, au_add, au_sub, ixL0, ixL1, ixL2, esc_b, escQ_f, escQ_t, escQ_v, outR_b, outQ_o, outQ_v, modL_b, modQ_o, vq_tmp, vq_tup, vq_lst, vq_scr, vq_str, vq_b, vQ_o, asgR_b, List.length_map, me_app, me_appB, mt_app, mt_pop0, mt_pop1, mt_ins, mt_clear, mt_rev, mt_join, ws_cell, cellQ_o, cellQ_v, mt_index, mt_count, me_index, me_count, me_join, strLst_i, me_clear, me_rev, me_pop1, me_ins, true_and, isTys, isTy, tyN, Option.map_some, String.reduceBEq, Bool.or_false, Bool.false_or, Bool.or_true, Bool.true_or, Bool.and_false, Bool.and_true, Bool.false_and, Bool.true_and, Bool.not_true, Bool.not_false, List.getElem?_cons_zero, List.getElem?_cons_succ, List.set_cons_zero, List.set_cons_succ, List.map_cons, List.map_nil, List.replicate_succ, List.replicate_zero, List.cons_append, List.nil_append, Nat.sub_self]
      refine deepened_ok progT rfl rfl (by omega) v.deckR hl hi V0 ?_
      rw [hdu]
      simp only [ws_asg, ws_sub, ws_expr, ws_ret, ws_retn, ws_iff, ws_for, ws_raise, ws_pass, ws_brk, ws_cnt, ws_aug, we_slot, we_const, we_bin, we_neg, we_cmp, we_chain, we_and, we_or, we_not, we_ite, we_tup, we_lst, we_idx, we_slc, we_comp, we_call, we_bi, we_me, we_isi, we_nil, we_cons, wo_none, wo_some, wt_none, wt_some, wr_val, wr_rng1, wr_rng2, slotQ_val, slotQ_own, negQ_int, notQ_bl, blQ_bl, augQ_int, bc_t, bc_f, dr_d, dr_tmp, dr_brw, brwQ_own, brwQ_val, oq_some, dd_int, dd_str, dd_bl, dd_non, dd_tup, dd_lst, dd_scr, esc_d, esc_tf, esc_tt, escs_nil, escs_cons, drs_nil, drs_cons, asgR_d, asgR_t, asgT_n, outR_d, outR_t, op_add, op_addS, op_addT, op_addL, op_sub, op_mul, op_mulL, op_fdiv, op_mod, op_pow, cm_eq, cm_ne, eq_int, eq_str, eq_bl, eq_non, cm_lt, cm_le, cm_gt, cm_ge, cm_in, cm_notin, cm_is, cm_isnot, ix_lst, ix_scr, ix_tup, ix_str, at_0, at_1, at_2, at_3, sl_tup, sl_lst, sl_scr, bi_lenL, bi_lenR, bi_lenT, bi_lenS, bi_abs, bi_max, bi_min, bi_intI, bi_intB, bi_listL, bi_listT, bi_listR, bi_tupL, bi_tupT, bi_all, bi_any, bi_sum, bi_lenset, bi_repr, au_add, au_sub, ixL0, ixL1, ixL2, esc_b, escQ_f, escQ_t, escQ_v, outR_b, outQ_o, outQ_v, modL_b, modQ_o, vq_tmp, vq_tup, vq_lst, vq_scr, vq_str, vq_b, vQ_o, asgR_b, List.length_map, me_app, me_appB, mt_app, mt_pop0, mt_pop1, mt_ins, mt_clear, mt_rev, mt_join, ws_cell, cellQ_o, cellQ_v, mt_index, mt_count, me_index, me_count, me_join, strLst_i, me_clear, me_rev, me_pop1, me_ins, true_and, isTys, isTy, tyN, Option.map_some, String.reduceBEq, Bool.or_false, Bool.false_or, Bool.or_true, Bool.true_or, Bool.and_false, Bool.and_true, Bool.false_and, Bool.true_and, Bool.not_true, Bool.not_false, List.getElem?_cons_zero, List.getElem?_cons_succ, List.set_cons_zero, List.set_cons_succ, List.map_cons, List.map_nil, List.replicate_succ, List.replicate_zero, List.cons_append, List.nil_append, Nat.sub_self]
      refine same_ok lawT (plain_deck _ (by omega)) (by omega) ?_
      simp only [ws_asg, ws_sub, ws_expr, ws_ret, ws_retn, ws_iff, ws_for, ws_raise, ws_pass, ws_brk, ws_cnt, ws_aug, we_slot, we_const, we_bin, we_neg, we_cmp, we_chain, we_and, we_or, we_not, we_ite, we_tup, we_lst, we_idx, we_slc, we_comp, we_call, we_bi, we_me, we_isi, we_nil, we_cons, wo_none, wo_some, wt_none, wt_some, wr_val, wr_rng1, wr_rng2, slotQ_val, slotQ_own, negQ_int, notQ_bl, blQ_bl, augQ_int, bc_t, bc_f, dr_d, dr_tmp, dr_brw, brwQ_own, brwQ_val, oq_some, dd_int, dd_str, dd_bl, dd_non, dd_tup, dd_lst, dd_scr, esc_d, esc_tf, esc_tt, escs_nil, escs_cons, drs_nil, drs_cons, asgR_d, asgR_t, asgT_n, outR_d, outR_t, op_add, op_addS, op_addT, op_addL, op_sub, op_mul, op_mulL, op_fdiv, op_mod, op_pow, cm_eq, cm_ne, eq_int, eq_str, eq_bl, eq_non, cm_lt, cm_le, cm_gt, cm_ge, cm_in, cm_notin, cm_is, cm_isnot, ix_lst, ix_scr, ix_tup, ix_str, at_0, at_1, at_2, at_3, sl_tup, sl_lst, sl_scr, bi_lenL, bi_lenR, bi_lenT, bi_lenS, bi_abs, bi_max, bi_min, bi_intI, bi_intB, bi_listL, bi_listT, bi_listR, bi_tupL, bi_tupT, bi_all, bi_any, bi_sum, bi_lenset, bi_repr, au_add, au_sub, ixL0, ixL1, ixL2, esc_b, escQ_f, escQ_t, escQ_v, outR_b, outQ_o, outQ_v, modL_b, modQ_o, vq_tmp, vq_tup, vq_lst, vq_scr, vq_str, vq_b, vQ_o, asgR_b, List.length_map, me_app, me_appB, mt_app, mt_pop0, mt_pop1, mt_ins, mt_clear, mt_rev, mt_join, ws_cell, cellQ_o, cellQ_v, mt_index, mt_count, me_index, me_count, me_join, strLst_i, me_clear, me_rev, me_pop1, me_ins, true_and, isTys, isTy, tyN, Option.map_some, String.reduceBEq, Bool.or_false, Bool.false_or, Bool.or_true, Bool.true_or, Bool.and_false, Bool.and_true, Bool.false_and, Bool.true_and, Bool.not_true, Bool.not_false, List.getElem?_cons_zero, List.getElem?_cons_succ, List.set_cons_zero, List.set_cons_succ, List.map_cons, List.map_nil, List.replicate_succ, List.replicate_zero, List.cons_append, List.nil_append, Nat.sub_self]
      refine v.repr hl ?_
      simp only [ws_asg, ws_sub, ws_expr, ws_ret, ws_retn, ws_iff, ws_for, ws_raise, ws_pass, ws_brk, ws_cnt, ws_aug, we_slot, we_const, we_bin, we_neg, we_cmp, we_chain, we_and, we_or, we_not, we_ite, we_tup, we_lst, we_idx, we_slc, we_comp, we_call, we_bi, we_me, we_isi, we_nil, we_cons, wo_none, wo_some, wt_none, wt_some, wr_val, wr_rng1, wr_rng2, slotQ_val, slotQ_own, negQ_int, notQ_bl, blQ_bl, augQ_int, bc_t, bc_f, dr_d, dr_tmp, dr_brw, brwQ_own, brwQ_val, oq_some, dd_int, dd_str, dd_bl, dd_non, dd_tup, dd_lst, dd_scr, esc_d, esc_tf, esc_tt, escs_nil, escs_cons, drs_nil, drs_cons, asgR_d, asgR_t, asgT_n, outR_d, outR_t, op_add, op_addS, op_addT, op_addL, op_sub, op_mul, op_mulL, op_fdiv, op_mod, op_pow, cm_eq, cm_ne, eq_int, eq_str, eq_bl, eq_non, cm_lt, cm_le, cm_gt, cm_ge, cm_in, cm_notin, cm_is, cm_isnot, ix_lst, ix_scr, ix_tup, ix_str, at_0, at_1, at_2, at_3, sl_tup, sl_lst, sl_scr, bi_lenL, bi_lenR, bi_lenT, bi_lenS, bi_abs, bi_max, bi_min, bi_intI, bi_intB, bi_listL, bi_listT, bi_listR, bi_tupL, bi_tupT, bi_all, bi_any, bi_sum, bi_lenset, bi_repr, au_add, au_sub, ixL0, ixL1, ixL2, esc_b, escQ_f, escQ_t, escQ_v, outR_b, outQ_o, outQ_v, modL_b, modQ_o, vq_tmp, vq_tup, vq_lst, vq_scr, vq_str, vq_b, vQ_o, asgR_b, List.length_map, me_app, me_appB, mt_app, mt_pop0, mt_pop1, mt_ins, mt_clear, mt_rev, mt_join, ws_cell, cellQ_o, cellQ_v, mt_index, mt_count, me_index, me_count, me_join, strLst_i, me_clear, me_rev, me_pop1, me_ins, true_and, isTys, isTy, tyN, Option.map_some, String.reduceBEq, Bool.or_false, Bool.false_or, Bool.or_true, Bool.true_or, Bool.and_false, Bool.and_true, Bool.false_and, Bool.true_and, Bool.not_true, Bool.not_false, List.getElem?_cons_zero, List.getElem?_cons_succ, List.set_cons_zero, List.set_cons_succ, List.map_cons, List.map_nil, List.replicate_succ, List.replicate_zero, List.cons_append, List.nil_append, Nat.sub_self, eq_self, decide_true, ws_nil]
      rw [ws_cons]
      simp only [ws_asg, ws_sub, ws_expr, ws_ret, ws_retn, ws_iff, ws_for, ws_raise, ws_pass, ws_brk, ws_cnt, ws_aug, we_slot, we_const, we_bin, we_neg, we_cmp, we_chain, we_and, we_or, we_not, we_ite, we_tup, we_lst, we_idx, we_slc, we_comp, we_call, we_bi, we_me, we_isi, we_nil, we_cons, wo_none, wo_some, wt_none, wt_some, wr_val, wr_rng1, wr_rng2, slotQ_val, slotQ_own, negQ_int, notQ_bl, blQ_bl, augQ_int, bc_t, bc_f, dr_d, dr_tmp, dr_brw, brwQ_own, brwQ_val, oq_some, dd_int, dd_str, dd_bl, dd_non, dd_tup, dd_lst, dd_scr, esc_d, esc_tf, esc_tt, escs_nil, escs_cons, drs_nil, drs_cons, asgR_d, asgR_t, asgT_n, outR_d, outR_t, op_add, op_addS, op_addT, op_addL, op_sub, op_mul, op_mulL, op_fdiv, op_mod, op_pow, cm_eq, cm_ne, eq_int, eq_str, eq_bl, eq_non, cm_lt, cm_le, cm_gt, cm_ge, cm_in, cm_notin, cm_is, cm_isnot, ix_lst, ix_scr, ix_tup, ix_str, at_0, at_1, at_2, at_3, sl_tup, sl_lst, sl_scr, bi_lenL, bi_lenR, bi_lenT, bi_lenS, bi_abs, bi_max, bi_min, bi_intI, bi_intB, bi_listL, bi_listT, bi_listR, bi_tupL, bi_tupT, bi_all, bi_any, bi_sum, bi_lenset, bi_repr, au_add, au_sub, ixL0, ixL1, ixL2, esc_b, escQ_f, escQ_t, escQ_v, outR_b, outQ_o, outQ_v, modL_b, modQ_o, vq_tmp, vq_tup, vq_lst, vq_scr, vq_str, vq_b, vQ_o, asgR_b, List.length_map, me_app, me_appB, mt_app, mt_pop0, mt_pop1, mt_ins, mt_clear, mt_rev, mt_join, ws_cell, cellQ_o, cellQ_v, mt_index, mt_count, me_index, me_count, me_join, strLst_i, me_clear, me_rev, me_pop1, me_ins, true_and, isTys, isTy, tyN, Option.map_some, String.reduceBEq, Bool.or_false, Bool.false_or, Bool.or_true, Bool.true_or, Bool.and_false, Bool.and_true, Bool.false_and, Bool.true_and, Bool.not_true, Bool.not_false, List.getElem?_cons_zero, List.getElem?_cons_succ, List.set_cons_zero, List.set_cons_succ, List.map_cons, List.map_nil, List.replicate_succ, List.replicate_zero, List.cons_append, List.nil_append, Nat.sub_self]
      refine deepened_ok progT rfl rfl (by omega) v.deckR hl hi V0 ?_
      rw [hdu]
      simp only [ws_asg, ws_sub, ws_expr, ws_ret, ws_retn, ws_iff, ws_for, ws_raise, ws_pass, ws_brk, ws_cnt, ws_aug, we_slot, we_const, we_bin, we_neg, we_cmp, we_chain, we_and, we_or, we_not, we_ite, we_tup, we_lst, we_idx, we_slc, we_comp, we_call, we_bi, we_me, we_isi, we_nil, we_cons, wo_none, wo_some, wt_none, wt_some, wr_val, wr_rng1, wr_rng2, slotQ_val, slotQ_own, negQ_int, notQ_bl, blQ_bl, augQ_int, bc_t, bc_f, dr_d, dr_tmp, dr_brw, brwQ_own, brwQ_val, oq_some, dd_int, dd_str, dd_bl, dd_non, dd_tup, dd_lst, dd_scr, esc_d, esc_tf, esc_tt, escs_nil, escs_cons, drs_nil, drs_cons, asgR_d, asgR_t, asgT_n, outR_d, outR_t, op_add, op_addS, op_addT, op_addL, op_sub, op_mul, op_mulL, op_fdiv, op_mod, op_pow, cm_eq, cm_ne, eq_int, eq_str, eq_bl, eq_non, cm_lt, cm_le, cm_gt, cm_ge, cm_in, cm_notin, cm_is, cm_isnot, ix_lst, ix_scr, ix_tup, ix_str, at_0, at_1, at_2, at_3, sl_tup, sl_lst, sl_scr, bi_lenL, bi_lenR, bi_lenT, bi_lenS, bi_abs, bi_max, bi_min, bi_intI, bi_intB, bi_listL, bi_listT, bi_listR, bi_tupL, bi_tupT, bi_all, bi_any, bi_sum, bi_lenset, bi_repr, au_add, au_sub, ixL0, ixL1, ixL2, esc_b, escQ_f, escQ_t, escQ_v, outR_b, outQ_o, outQ_v, modL_b, modQ_o, vq_tmp, vq_tup, vq_lst, vq_scr, vq_str, vq_b, vQ_o, asgR_b, List.length_map, me_app, me_appB, mt_app, mt_pop0, mt_pop1, mt_ins, mt_clear, mt_rev, mt_join, ws_cell, cellQ_o, cellQ_v, mt_index, mt_count, me_index, me_count, me_join, strLst_i, me_clear, me_rev, me_pop1, me_ins, true_and, isTys, isTy, tyN, Option.map_some, String.reduceBEq, Bool.or_false, Bool.false_or, Bool.or_true, Bool.true_or, Bool.and_false, Bool.and_true, Bool.false_and, Bool.true_and, Bool.not_true, Bool.not_false, List.getElem?_cons_zero, List.getElem?_cons_succ, List.set_cons_zero, List.set_cons_succ, List.map_cons, List.map_nil, List.replicate_succ, List.replicate_zero, List.cons_append, List.nil_append, Nat.sub_self, e4, ec cd]
      refine deepened_ok progT rfl rfl (by omega) (deckR_deckD _ due) o1 hi2 dp.1 ?_
      rw [hback]
      simp only [ws_asg, ws_sub, ws_expr, ws_ret, ws_retn, ws_iff, ws_for, ws_raise, ws_pass, ws_brk, ws_cnt, ws_aug, we_slot, we_const, we_bin, we_neg, we_cmp, we_chain, we_and, we_or, we_not, we_ite, we_tup, we_lst, we_idx, we_slc, we_comp, we_call, we_bi, we_me, we_isi, we_nil, we_cons, wo_none, wo_some, wt_none, wt_some, wr_val, wr_rng1, wr_rng2, slotQ_val, slotQ_own, negQ_int, notQ_bl, blQ_bl, augQ_int, bc_t, bc_f, dr_d, dr_tmp, dr_brw, brwQ_own, brwQ_val, oq_some, dd_int, dd_str, dd_bl, dd_non, dd_tup, dd_lst, dd_scr, esc_d, esc_tf, esc_tt, escs_nil, escs_cons, drs_nil, drs_cons, asgR_d, asgR_t, asgT_n, outR_d, outR_t, op_add, op_addS, op_addT, op_addL, op_sub, op_mul, op_mulL, op_fdiv, op_mod, op_pow, cm_eq, cm_ne, eq_int, eq_str, eq_bl, eq_non, cm_lt, cm_le, cm_gt, cm_ge, cm_in, cm_notin, cm_is, cm_isnot, ix_lst, ix_scr, ix_tup, ix_str, at_0, at_1, at_2, at_3, sl_tup, sl_lst, sl_scr, bi_lenL, bi_lenR, bi_lenT, bi_lenS, bi_abs, bi_max, bi_min, bi_intI, bi_intB, bi_listL, bi_listT, bi_listR, bi_tupL, bi_tupT, bi_all, bi_any, bi_sum, bi_lenset, bi_repr, au_add, au_sub, ixL0, ixL1, ixL2, esc_b, escQ_f, escQ_t, escQ_v, outR_b, outQ_o, outQ_v, modL_b, modQ_o, vq_tmp, vq_tup, vq_lst, vq_scr, vq_str, vq_b, vQ_o, asgR_b, List.length_map, me_app, me_appB, mt_app, mt_pop0, mt_pop1, mt_ins, mt_clear, mt_rev, mt_join, ws_cell, cellQ_o, cellQ_v, mt_index, mt_count, me_index, me_count, me_join, strLst_i, me_clear, me_rev, me_pop1, me_ins, true_and, isTys, isTy, tyN, Option.map_some, String.reduceBEq, Bool.or_false, Bool.false_or, Bool.or_true, Bool.true_or, Bool.and_false, Bool.and_true, Bool.false_and, Bool.true_and, Bool.not_true, Bool.not_false, List.getElem?_cons_zero, List.getElem?_cons_succ, List.set_cons_zero, List.set_cons_succ, List.map_cons, List.map_nil, List.replicate_succ, List.replicate_zero, List.cons_append, List.nil_append, Nat.sub_self]
      rw [ws_cons]
      simp only [ws_asg, ws_sub, ws_expr, ws_ret, ws_retn, ws_iff, ws_for, ws_raise, ws_pass, ws_brk, ws_cnt, ws_aug, we_slot, we_const, we_bin, we_neg, we_cmp, we_chain, we_and, we_or, we_not, we_ite, we_tup, we_lst, we_idx, we_slc, we_comp, we_call, we_bi, we_me, we_isi, we_nil, we_cons, wo_none, wo_some, wt_none, wt_some, wr_val, wr_rng1, wr_rng2, slotQ_val, slotQ_own, negQ_int, notQ_bl, blQ_bl, augQ_int, bc_t, bc_f, dr_d, dr_tmp, dr_brw, brwQ_own, brwQ_val, oq_some, dd_int, dd_str, dd_bl, dd_non, dd_tup, dd_lst, dd_scr, esc_d, esc_tf, esc_tt, escs_nil, escs_cons, drs_nil, drs_cons, asgR_d, asgR_t, asgT_n, outR_d, outR_t, op_add, op_addS, op_addT, op_addL, op_sub, op_mul, op_mulL, op_fdiv, op_mod, op_pow, cm_eq, cm_ne, eq_int, eq_str, eq_bl, eq_non, cm_lt, cm_le, cm_gt, cm_ge, cm_in, cm_notin, cm_is, cm_isnot, ix_lst, ix_scr, ix_tup, ix_str, at_0, at_1, at_2, at_3, sl_tup, sl_lst, sl_scr, bi_lenL, bi_lenR, bi_lenT, bi_lenS, bi_abs, bi_max, bi_min, bi_intI, bi_intB, bi_listL, bi_listT, bi_listR, bi_tupL, bi_tupT, bi_all, bi_any, bi_sum, bi_lenset, bi_repr, au_add, au_sub, ixL0, ixL1, ixL2, esc_b, escQ_f, escQ_t, escQ_v, outR_b, outQ_o, outQ_v, modL_b, modQ_o, vq_tmp, vq_tup, vq_lst, vq_scr, vq_str, vq_b, vQ_o, asgR_b, List.length_map, me_app, me_appB, mt_app, mt_pop0, mt_pop1, mt_ins, mt_clear, mt_rev, mt_join, ws_cell, cellQ_o, cellQ_v, mt_index, mt_count, me_index, me_count, me_join, strLst_i, me_clear, me_rev, me_pop1, me_ins, true_and, isTys, isTy, tyN, Option.map_some, String.reduceBEq, Bool.or_false, Bool.false_or, Bool.or_true, Bool.true_or, Bool.and_false, Bool.and_true, Bool.false_and, Bool.true_and, Bool.not_true, Bool.not_false, List.getElem?_cons_zero, List.getElem?_cons_succ, List.set_cons_zero, List.set_cons_succ, List.map_cons, List.map_nil, List.replicate_succ, List.replicate_zero, List.cons_append, List.nil_append, Nat.sub_self]
      refine deepened_ok progT rfl rfl (by omega) v.deckR hl hi V0 ?_
      rw [hdu]
      simp only [ws_asg, ws_sub, ws_expr, ws_ret, ws_retn, ws_iff, ws_for, ws_raise, ws_pass, ws_brk, ws_cnt, ws_aug, we_slot, we_const, we_bin, we_neg, we_cmp, we_chain, we_and, we_or, we_not, we_ite, we_tup, we_lst, we_idx, we_slc, we_comp, we_call, we_bi, we_me, we_isi, we_nil, we_cons, wo_none, wo_some, wt_none, wt_some, wr_val, wr_rng1, wr_rng2, slotQ_val, slotQ_own, negQ_int, notQ_bl, blQ_bl, augQ_int, bc_t, bc_f, dr_d, dr_tmp, dr_brw, brwQ_own, brwQ_val, oq_some, dd_int, dd_str, dd_bl, dd_non, dd_tup, dd_lst, dd_scr, esc_d, esc_tf, esc_tt, escs_nil, escs_cons, drs_nil, drs_cons, asgR_d, asgR_t, asgT_n, outR_d, outR_t, op_add, op_addS, op_addT, op_addL, op_sub, op_mul, op_mulL, op_fdiv, op_mod, op_pow, cm_eq, cm_ne, eq_int, eq_str, eq_bl, eq_non, cm_lt, cm_le, cm_gt, cm_ge, cm_in, cm_notin, cm_is, cm_isnot, ix_lst, ix_scr, ix_tup, ix_str, at_0, at_1, at_2, at_3, sl_tup, sl_lst, sl_scr, bi_lenL, bi_lenR, bi_lenT, bi_lenS, bi_abs, bi_max, bi_min, bi_intI, bi_intB, bi_listL, bi_listT, bi_listR, bi_tupL, bi_tupT, bi_all, bi_any, bi_sum, bi_lenset, bi_repr, au_add, au_sub, ixL0, ixL1, ixL2, esc_b, escQ_f, escQ_t, escQ_v, outR_b, outQ_o, outQ_v, modL_b, modQ_o, vq_tmp, vq_tup, vq_lst, vq_scr, vq_str, vq_b, vQ_o, asgR_b, List.length_map, me_app, me_appB, mt_app, mt_pop0, mt_pop1, mt_ins, mt_clear, mt_rev, mt_join, ws_cell, cellQ_o, cellQ_v, mt_index, mt_count, me_index, me_count, me_join, strLst_i, me_clear, me_rev, me_pop1, me_ins, true_and, isTys, isTy, tyN, Option.map_some, String.reduceBEq, Bool.or_false, Bool.false_or, Bool.or_true, Bool.true_or, Bool.and_false, Bool.and_true, Bool.false_and, Bool.true_and, Bool.not_true, Bool.not_false, List.getElem?_cons_zero, List.getElem?_cons_succ, List.set_cons_zero, List.set_cons_succ, List.map_cons, List.map_nil, List.replicate_succ, List.replicate_zero, List.cons_append, List.nil_append, Nat.sub_self]
      rw [ws_cons]
      simp only [ws_asg, ws_sub, ws_expr, ws_ret, ws_retn, ws_iff, ws_for, ws_raise, ws_pass, ws_brk, ws_cnt, ws_aug, we_slot, we_const, we_bin, we_neg, we_cmp, we_chain, we_and, we_or, we_not, we_ite, we_tup, we_lst, we_idx, we_slc, we_comp, we_call, we_bi, we_me, we_isi, we_nil, we_cons, wo_none, wo_some, wt_none, wt_some, wr_val, wr_rng1, wr_rng2, slotQ_val, slotQ_own, negQ_int, notQ_bl, blQ_bl, augQ_int, bc_t, bc_f, dr_d, dr_tmp, dr_brw, brwQ_own, brwQ_val, oq_some, dd_int, dd_str, dd_bl, dd_non, dd_tup, dd_lst, dd_scr, esc_d, esc_tf, esc_tt, escs_nil, escs_cons, drs_nil, drs_cons, asgR_d, asgR_t, asgT_n, outR_d, outR_t, op_add, op_addS, op_addT, op_addL, op_sub, op_mul, op_mulL, op_fdiv, op_mod, op_pow, cm_eq, cm_ne, eq_int, eq_str, eq_bl, eq_non, cm_lt, cm_le, cm_gt, cm_ge, cm_in, cm_notin, cm_is, cm_isnot, ix_lst, ix_scr, ix_tup, ix_str, at_0, at_1, at_2, at_3, sl_tup, sl_lst, sl_scr, bi_lenL, bi_lenR, bi_lenT, bi_lenS, bi_abs, bi_max, bi_min, bi_intI, bi_intB, bi_listL, bi_listT, bi_listR, bi_tupL, bi_tupT, bi_all, bi_any, bi_sum, bi_lenset, bi_repr, au_add, au_sub, ixL0, ixL1, ixL2, esc_b, escQ_f, escQ_t, escQ_v, outR_b, outQ_o, outQ_v, modL_b, modQ_o, vq_tmp, vq_tup, vq_lst, vq_scr, vq_str, vq_b, vQ_o, asgR_b, List.length_map, me_app, me_appB, mt_app, mt_pop0, mt_pop1, mt_ins, mt_clear, mt_rev, mt_join, ws_cell, cellQ_o, cellQ_v, mt_index, mt_count, me_index, me_count, me_join, strLst_i, me_clear, me_rev, me_pop1, me_ins, true_and, isTys, isTy, tyN, Option.map_some, String.reduceBEq, Bool.or_false, Bool.false_or, Bool.or_true, Bool.true_or, Bool.and_false, Bool.and_true, Bool.false_and, Bool.true_and, Bool.not_true, Bool.not_false, List.getElem?_cons_zero, List.getElem?_cons_succ, List.set_cons_zero, List.set_cons_succ, List.map_cons, List.map_nil, List.replicate_succ, List.replicate_zero, List.cons_append, List.nil_append, Nat.sub_self]
      have fin : ∀ (st' : PSto) (z15 : Sl), Spr c' 0 st' → wpSs TT (wpC TT k) (dropS 17 lawBody) X Dn [.val sc, .val (.ref 0), .val tn, .val (deckD l), .val h, .val (.str p.shown), .val (.int V), .val (.str n), z8, .val (.int (at' : Nat)), .val (.str cd.1), z11, .val (deckD due), .val (deckD l), .val (deckD due), z15, z16, z17] st' := by
        intro st' z15 s'
        simp only [lawBody, d_law, dropS]
        rw [ws_cons]
        simp only [ws_asg, ws_sub, ws_expr, ws_ret, ws_retn, ws_iff, ws_for, ws_raise, ws_pass, ws_brk, ws_cnt, ws_aug, we_slot, we_const, we_bin, we_neg, we_cmp, we_chain, we_and, we_or, we_not, we_ite, we_tup, we_lst, we_idx, we_slc, we_comp, we_call, we_bi, we_me, we_isi, we_nil, we_cons, wo_none, wo_some, wt_none, wt_some, wr_val, wr_rng1, wr_rng2, slotQ_val, slotQ_own, negQ_int, notQ_bl, blQ_bl, augQ_int, bc_t, bc_f, dr_d, dr_tmp, dr_brw, brwQ_own, brwQ_val, oq_some, dd_int, dd_str, dd_bl, dd_non, dd_tup, dd_lst, dd_scr, esc_d, esc_tf, esc_tt, escs_nil, escs_cons, drs_nil, drs_cons, asgR_d, asgR_t, asgT_n, outR_d, outR_t, op_add, op_addS, op_addT, op_addL, op_sub, op_mul, op_mulL, op_fdiv, op_mod, op_pow, cm_eq, cm_ne, eq_int, eq_str, eq_bl, eq_non, cm_lt, cm_le, cm_gt, cm_ge, cm_in, cm_notin, cm_is, cm_isnot, ix_lst, ix_scr, ix_tup, ix_str, at_0, at_1, at_2, at_3, sl_tup, sl_lst, sl_scr, bi_lenL, bi_lenR, bi_lenT, bi_lenS, bi_abs, bi_max, bi_min, bi_intI, bi_intB, bi_listL, bi_listT, bi_listR, bi_tupL, bi_tupT, bi_all, bi_any, bi_sum, bi_lenset, bi_repr, au_add, au_sub, ixL0, ixL1, ixL2, esc_b, escQ_f, escQ_t, escQ_v, outR_b, outQ_o, outQ_v, modL_b, modQ_o, vq_tmp, vq_tup, vq_lst, vq_scr, vq_str, vq_b, vQ_o, asgR_b, List.length_map, me_app, me_appB, mt_app, mt_pop0, mt_pop1, mt_ins, mt_clear, mt_rev, mt_join, ws_cell, cellQ_o, cellQ_v, mt_index, mt_count, me_index, me_count, me_join, strLst_i, me_clear, me_rev, me_pop1, me_ins, true_and, isTys, isTy, tyN, Option.map_some, String.reduceBEq, Bool.or_false, Bool.false_or, Bool.or_true, Bool.true_or, Bool.and_false, Bool.and_true, Bool.false_and, Bool.true_and, Bool.not_true, Bool.not_false, List.getElem?_cons_zero, List.getElem?_cons_succ, List.set_cons_zero, List.set_cons_succ, List.map_cons, List.map_nil, List.replicate_succ, List.replicate_zero, List.cons_append, List.nil_append, Nat.sub_self]
        refine same_ok lawT (plain_deck _ (by omega)) (by omega) ?_
        simp only [ws_asg, ws_sub, ws_expr, ws_ret, ws_retn, ws_iff, ws_for, ws_raise, ws_pass, ws_brk, ws_cnt, ws_aug, we_slot, we_const, we_bin, we_neg, we_cmp, we_chain, we_and, we_or, we_not, we_ite, we_tup, we_lst, we_idx, we_slc, we_comp, we_call, we_bi, we_me, we_isi, we_nil, we_cons, wo_none, wo_some, wt_none, wt_some, wr_val, wr_rng1, wr_rng2, slotQ_val, slotQ_own, negQ_int, notQ_bl, blQ_bl, augQ_int, bc_t, bc_f, dr_d, dr_tmp, dr_brw, brwQ_own, brwQ_val, oq_some, dd_int, dd_str, dd_bl, dd_non, dd_tup, dd_lst, dd_scr, esc_d, esc_tf, esc_tt, escs_nil, escs_cons, drs_nil, drs_cons, asgR_d, asgR_t, asgT_n, outR_d, outR_t, op_add, op_addS, op_addT, op_addL, op_sub, op_mul, op_mulL, op_fdiv, op_mod, op_pow, cm_eq, cm_ne, eq_int, eq_str, eq_bl, eq_non, cm_lt, cm_le, cm_gt, cm_ge, cm_in, cm_notin, cm_is, cm_isnot, ix_lst, ix_scr, ix_tup, ix_str, at_0, at_1, at_2, at_3, sl_tup, sl_lst, sl_scr, bi_lenL, bi_lenR, bi_lenT, bi_lenS, bi_abs, bi_max, bi_min, bi_intI, bi_intB, bi_listL, bi_listT, bi_listR, bi_tupL, bi_tupT, bi_all, bi_any, bi_sum, bi_lenset, bi_repr, au_add, au_sub, ixL0, ixL1, ixL2, esc_b, escQ_f, escQ_t, escQ_v, outR_b, outQ_o, outQ_v, modL_b, modQ_o, vq_tmp, vq_tup, vq_lst, vq_scr, vq_str, vq_b, vQ_o, asgR_b, List.length_map, me_app, me_appB, mt_app, mt_pop0, mt_pop1, mt_ins, mt_clear, mt_rev, mt_join, ws_cell, cellQ_o, cellQ_v, mt_index, mt_count, me_index, me_count, me_join, strLst_i, me_clear, me_rev, me_pop1, me_ins, true_and, isTys, isTy, tyN, Option.map_some, String.reduceBEq, Bool.or_false, Bool.false_or, Bool.or_true, Bool.true_or, Bool.and_false, Bool.and_true, Bool.false_and, Bool.true_and, Bool.not_true, Bool.not_false, List.getElem?_cons_zero, List.getElem?_cons_succ, List.set_cons_zero, List.set_cons_succ, List.map_cons, List.map_nil, List.replicate_succ, List.replicate_zero, List.cons_append, List.nil_append, Nat.sub_self]
        refine same_ok lawT (plain_deck _ (by omega)) (by omega) ?_
        simp only [ws_asg, ws_sub, ws_expr, ws_ret, ws_retn, ws_iff, ws_for, ws_raise, ws_pass, ws_brk, ws_cnt, ws_aug, we_slot, we_const, we_bin, we_neg, we_cmp, we_chain, we_and, we_or, we_not, we_ite, we_tup, we_lst, we_idx, we_slc, we_comp, we_call, we_bi, we_me, we_isi, we_nil, we_cons, wo_none, wo_some, wt_none, wt_some, wr_val, wr_rng1, wr_rng2, slotQ_val, slotQ_own, negQ_int, notQ_bl, blQ_bl, augQ_int, bc_t, bc_f, dr_d, dr_tmp, dr_brw, brwQ_own, brwQ_val, oq_some, dd_int, dd_str, dd_bl, dd_non, dd_tup, dd_lst, dd_scr, esc_d, esc_tf, esc_tt, escs_nil, escs_cons, drs_nil, drs_cons, asgR_d, asgR_t, asgT_n, outR_d, outR_t, op_add, op_addS, op_addT, op_addL, op_sub, op_mul, op_mulL, op_fdiv, op_mod, op_pow, cm_eq, cm_ne, eq_int, eq_str, eq_bl, eq_non, cm_lt, cm_le, cm_gt, cm_ge, cm_in, cm_notin, cm_is, cm_isnot, ix_lst, ix_scr, ix_tup, ix_str, at_0, at_1, at_2, at_3, sl_tup, sl_lst, sl_scr, bi_lenL, bi_lenR, bi_lenT, bi_lenS, bi_abs, bi_max, bi_min, bi_intI, bi_intB, bi_listL, bi_listT, bi_listR, bi_tupL, bi_tupT, bi_all, bi_any, bi_sum, bi_lenset, bi_repr, au_add, au_sub, ixL0, ixL1, ixL2, esc_b, escQ_f, escQ_t, escQ_v, outR_b, outQ_o, outQ_v, modL_b, modQ_o, vq_tmp, vq_tup, vq_lst, vq_scr, vq_str, vq_b, vQ_o, asgR_b, List.length_map, me_app, me_appB, mt_app, mt_pop0, mt_pop1, mt_ins, mt_clear, mt_rev, mt_join, ws_cell, cellQ_o, cellQ_v, mt_index, mt_count, me_index, me_count, me_join, strLst_i, me_clear, me_rev, me_pop1, me_ins, true_and, isTys, isTy, tyN, Option.map_some, String.reduceBEq, Bool.or_false, Bool.false_or, Bool.or_true, Bool.true_or, Bool.and_false, Bool.and_true, Bool.false_and, Bool.true_and, Bool.not_true, Bool.not_false, List.getElem?_cons_zero, List.getElem?_cons_succ, List.set_cons_zero, List.set_cons_succ, List.map_cons, List.map_nil, List.replicate_succ, List.replicate_zero, List.cons_append, List.nil_append, Nat.sub_self, ws_nil]
        exact nx _ _ _ _ _ _ _ _ _ _ _ _ _ _ _ _ (s'.mono (by omega))
      refine clear_ok s v (by simp) (fun st' z s' _ => ?_) (fin _ _ s)
      simp only [List.set_cons_succ, List.set_cons_zero]
      exact fin _ _ s'
    by_cases h1 : 1 < l.length
    · rw [decide_eq_true (show (1 : Int) < (l.length : Int) by omega)]
      simp only [bc_t]
      refine drawn_ok progT rfl rfl (by omega) v.deckR hl hi h1 ?_
      simp only [ws_asg, ws_sub, ws_expr, ws_ret, ws_retn, ws_iff, ws_for, ws_raise, ws_pass, ws_brk, ws_cnt, ws_aug, we_slot, we_const, we_bin, we_neg, we_cmp, we_chain, we_and, we_or, we_not, we_ite, we_tup, we_lst, we_idx, we_slc, we_comp, we_call, we_bi, we_me, we_isi, we_nil, we_cons, wo_none, wo_some, wt_none, wt_some, wr_val, wr_rng1, wr_rng2, slotQ_val, slotQ_own, negQ_int, notQ_bl, blQ_bl, augQ_int, bc_t, bc_f, dr_d, dr_tmp, dr_brw, brwQ_own, brwQ_val, oq_some, dd_int, dd_str, dd_bl, dd_non, dd_tup, dd_lst, dd_scr, esc_d, esc_tf, esc_tt, escs_nil, escs_cons, drs_nil, drs_cons, asgR_d, asgR_t, asgT_n, outR_d, outR_t, op_add, op_addS, op_addT, op_addL, op_sub, op_mul, op_mulL, op_fdiv, op_mod, op_pow, cm_eq, cm_ne, eq_int, eq_str, eq_bl, eq_non, cm_lt, cm_le, cm_gt, cm_ge, cm_in, cm_notin, cm_is, cm_isnot, ix_lst, ix_scr, ix_tup, ix_str, at_0, at_1, at_2, at_3, sl_tup, sl_lst, sl_scr, bi_lenL, bi_lenR, bi_lenT, bi_lenS, bi_abs, bi_max, bi_min, bi_intI, bi_intB, bi_listL, bi_listT, bi_listR, bi_tupL, bi_tupT, bi_all, bi_any, bi_sum, bi_lenset, bi_repr, au_add, au_sub, ixL0, ixL1, ixL2, esc_b, escQ_f, escQ_t, escQ_v, outR_b, outQ_o, outQ_v, modL_b, modQ_o, vq_tmp, vq_tup, vq_lst, vq_scr, vq_str, vq_b, vQ_o, asgR_b, List.length_map, me_app, me_appB, mt_app, mt_pop0, mt_pop1, mt_ins, mt_clear, mt_rev, mt_join, ws_cell, cellQ_o, cellQ_v, mt_index, mt_count, me_index, me_count, me_join, strLst_i, me_clear, me_rev, me_pop1, me_ins, true_and, isTys, isTy, tyN, Option.map_some, String.reduceBEq, Bool.or_false, Bool.false_or, Bool.or_true, Bool.true_or, Bool.and_false, Bool.and_true, Bool.false_and, Bool.true_and, Bool.not_true, Bool.not_false, List.getElem?_cons_zero, List.getElem?_cons_succ, List.set_cons_zero, List.set_cons_succ, List.map_cons, List.map_nil, List.replicate_succ, List.replicate_zero, List.cons_append, List.nil_append, Nat.sub_self]
      refine same_ok lawT (plain_deck _ (by simp only [List.length_append, List.length_take, List.length_drop]; omega)) (by omega) ?_
      simp only [bc_f, notQ_bl, Bool.not_true, ws_nil]
      exact next _ _ _ _ _ _ _
    · rw [decide_eq_false (show ¬ (1 : Int) < (l.length : Int) by omega)]
      simp only [bc_f, ws_nil]
      exact next _ _ _ _ _ _ _
  refine bc_bl.mpr ⟨fun hlt => ?_, fun _ => ?_⟩
  · have hlt : l.length < 40 := by have := of_decide_eq_true hlt; omega
    refine comp_map (g := headD) trivial (by rw [List.length_map]; exact sz) (fun x hx Q q => ?_) ?_
    · obtain ⟨p, _, rfl⟩ := List.mem_map.mp hx
      simp only [ec, headD, ws_cons, ws_nil, ws_asg, ws_sub, ws_expr, ws_ret, ws_retn, ws_iff, ws_for, ws_raise, ws_pass, ws_brk, ws_cnt, ws_aug, we_slot, we_const, we_bin, we_neg, we_cmp, we_chain, we_and, we_or, we_not, we_ite, we_tup, we_lst, we_idx, we_slc, we_comp, we_call, we_bi, we_me, we_isi, we_nil, we_cons, wo_none, wo_some, wt_none, wt_some, wr_val, wr_rng1, wr_rng2, slotQ_val, slotQ_own, negQ_int, notQ_bl, blQ_bl, augQ_int, bc_t, bc_f, dr_d, dr_tmp, dr_brw, brwQ_own, brwQ_val, oq_some, dd_int, dd_str, dd_bl, dd_non, dd_tup, dd_lst, dd_scr, esc_d, esc_tf, esc_tt, escs_nil, escs_cons, drs_nil, drs_cons, asgR_d, asgR_t, asgT_n, outR_d, outR_t, op_add, op_addS, op_addT, op_addL, op_sub, op_mul, op_mulL, op_fdiv, op_mod, op_pow, cm_eq, cm_ne, eq_int, eq_str, eq_bl, eq_non, cm_lt, cm_le, cm_gt, cm_ge, cm_in, cm_notin, cm_is, cm_isnot, ix_lst, ix_scr, ix_tup, ix_str, at_0, at_1, at_2, at_3, sl_tup, sl_lst, sl_scr, bi_lenL, bi_lenR, bi_lenT, bi_lenS, bi_abs, bi_max, bi_min, bi_intI, bi_intB, bi_listL, bi_listT, bi_listR, bi_tupL, bi_tupT, bi_all, bi_any, bi_sum, bi_lenset, bi_repr, au_add, au_sub, ixL0, ixL1, ixL2, esc_b, escQ_f, escQ_t, escQ_v, outR_b, outQ_o, outQ_v, modL_b, modQ_o, vq_tmp, vq_tup, vq_lst, vq_scr, vq_str, vq_b, vQ_o, asgR_b, List.length_map, me_app, me_appB, mt_app, mt_pop0, mt_pop1, mt_ins, mt_clear, mt_rev, mt_join, ws_cell, cellQ_o, cellQ_v, mt_index, mt_count, me_index, me_count, me_join, strLst_i, me_clear, me_rev, me_pop1, me_ins, true_and, isTys, isTy, tyN, Option.map_some, String.reduceBEq, Bool.or_false, Bool.false_or, Bool.or_true, Bool.true_or, Bool.and_false, Bool.and_true, Bool.false_and, Bool.true_and, Bool.not_true, Bool.not_false, List.getElem?_cons_zero, List.getElem?_cons_succ, List.set_cons_zero, List.set_cons_succ, List.map_cons, List.map_nil, List.replicate_succ, List.replicate_zero, List.cons_append, List.nil_append, Nat.sub_self] at q ⊢
      exact q
    · rw [heads]
      simp only [ws_asg, ws_sub, ws_expr, ws_ret, ws_retn, ws_iff, ws_for, ws_raise, ws_pass, ws_brk, ws_cnt, ws_aug, we_slot, we_const, we_bin, we_neg, we_cmp, we_chain, we_and, we_or, we_not, we_ite, we_tup, we_lst, we_idx, we_slc, we_comp, we_call, we_bi, we_me, we_isi, we_nil, we_cons, wo_none, wo_some, wt_none, wt_some, wr_val, wr_rng1, wr_rng2, slotQ_val, slotQ_own, negQ_int, notQ_bl, blQ_bl, augQ_int, bc_t, bc_f, dr_d, dr_tmp, dr_brw, brwQ_own, brwQ_val, oq_some, dd_int, dd_str, dd_bl, dd_non, dd_tup, dd_lst, dd_scr, esc_d, esc_tf, esc_tt, escs_nil, escs_cons, drs_nil, drs_cons, asgR_d, asgR_t, asgT_n, outR_d, outR_t, op_add, op_addS, op_addT, op_addL, op_sub, op_mul, op_mulL, op_fdiv, op_mod, op_pow, cm_eq, cm_ne, eq_int, eq_str, eq_bl, eq_non, cm_lt, cm_le, cm_gt, cm_ge, cm_in, cm_notin, cm_is, cm_isnot, ix_lst, ix_scr, ix_tup, ix_str, at_0, at_1, at_2, at_3, sl_tup, sl_lst, sl_scr, bi_lenL, bi_lenR, bi_lenT, bi_lenS, bi_abs, bi_max, bi_min, bi_intI, bi_intB, bi_listL, bi_listT, bi_listR, bi_tupL, bi_tupT, bi_all, bi_any, bi_sum, bi_lenset, bi_repr, au_add, au_sub, ixL0, ixL1, ixL2, esc_b, escQ_f, escQ_t, escQ_v, outR_b, outQ_o, outQ_v, modL_b, modQ_o, vq_tmp, vq_tup, vq_lst, vq_scr, vq_str, vq_b, vQ_o, asgR_b, List.length_map, me_app, me_appB, mt_app, mt_pop0, mt_pop1, mt_ins, mt_clear, mt_rev, mt_join, ws_cell, cellQ_o, cellQ_v, mt_index, mt_count, me_index, me_count, me_join, strLst_i, me_clear, me_rev, me_pop1, me_ins, true_and, isTys, isTy, tyN, Option.map_some, String.reduceBEq, Bool.or_false, Bool.false_or, Bool.or_true, Bool.true_or, Bool.and_false, Bool.and_true, Bool.false_and, Bool.true_and, Bool.not_true, Bool.not_false, List.getElem?_cons_zero, List.getElem?_cons_succ, List.set_cons_zero, List.set_cons_succ, List.map_cons, List.map_nil, List.replicate_succ, List.replicate_zero, List.cons_append, List.nil_append, Nat.sub_self]
      refine in_strs nm.ok all ?_
      by_cases hnew : n ∈ l.map (·.1)
      · rw [decide_eq_true hnew]
        simp only [bc_f, Bool.not_true, ws_nil]
        exact tailOk _ (c + 7) _ _ _ _ _ _ _ z5 _ (s7.mono (by omega)) (by omega) v7
      · rw [decide_eq_false hnew]
        simp only [Bool.not_false, bc_t]
        rw [ws_cons]
        simp only [ws_asg, ws_sub, ws_expr, ws_ret, ws_retn, ws_iff, ws_for, ws_raise, ws_pass, ws_brk, ws_cnt, ws_aug, we_slot, we_const, we_bin, we_neg, we_cmp, we_chain, we_and, we_or, we_not, we_ite, we_tup, we_lst, we_idx, we_slc, we_comp, we_call, we_bi, we_me, we_isi, we_nil, we_cons, wo_none, wo_some, wt_none, wt_some, wr_val, wr_rng1, wr_rng2, slotQ_val, slotQ_own, negQ_int, notQ_bl, blQ_bl, augQ_int, bc_t, bc_f, dr_d, dr_tmp, dr_brw, brwQ_own, brwQ_val, oq_some, dd_int, dd_str, dd_bl, dd_non, dd_tup, dd_lst, dd_scr, esc_d, esc_tf, esc_tt, escs_nil, escs_cons, drs_nil, drs_cons, asgR_d, asgR_t, asgT_n, outR_d, outR_t, op_add, op_addS, op_addT, op_addL, op_sub, op_mul, op_mulL, op_fdiv, op_mod, op_pow, cm_eq, cm_ne, eq_int, eq_str, eq_bl, eq_non, cm_lt, cm_le, cm_gt, cm_ge, cm_in, cm_notin, cm_is, cm_isnot, ix_lst, ix_scr, ix_tup, ix_str, at_0, at_1, at_2, at_3, sl_tup, sl_lst, sl_scr, bi_lenL, bi_lenR, bi_lenT, bi_lenS, bi_abs, bi_max, bi_min, bi_intI, bi_intB, bi_listL, bi_listT, bi_listR, bi_tupL, bi_tupT, bi_all, bi_any, bi_sum, bi_lenset, bi_repr, au_add, au_sub, ixL0, ixL1, ixL2, esc_b, escQ_f, escQ_t, escQ_v, outR_b, outQ_o, outQ_v, modL_b, modQ_o, vq_tmp, vq_tup, vq_lst, vq_scr, vq_str, vq_b, vQ_o, asgR_b, List.length_map, me_app, me_appB, mt_app, mt_pop0, mt_pop1, mt_ins, mt_clear, mt_rev, mt_join, ws_cell, cellQ_o, cellQ_v, mt_index, mt_count, me_index, me_count, me_join, strLst_i, me_clear, me_rev, me_pop1, me_ins, true_and, isTys, isTy, tyN, Option.map_some, String.reduceBEq, Bool.or_false, Bool.false_or, Bool.or_true, Bool.true_or, Bool.and_false, Bool.and_true, Bool.false_and, Bool.true_and, Bool.not_true, Bool.not_false, List.getElem?_cons_zero, List.getElem?_cons_succ, List.set_cons_zero, List.set_cons_succ, List.map_cons, List.map_nil, List.replicate_succ, List.replicate_zero, List.cons_append, List.nil_append, Nat.sub_self]
        refine ⟨by show 2 ≤ sizeLine; decide, by show 2 ≤ sizeLine; decide, by show 2 ≤ sizeLine; decide, ?_⟩
        refine draw_v lawT.draw (by omega) s7 (by omega) (by omega) (by omega) v7 fun a8 st8 u8 w8 s8 v8 => ?_
        have hC : ∃ y, L2.atI [D.tup [D.str n, D.int V], D.lst [D.str n, D.int V]] a8 = some y ∧ ∀ st, CardR st y (n, V) := by
          have : a8 = 0 ∨ a8 = 1 := by omega
          rcases this with rfl | rfl
          · exact ⟨_, at_0, fun _ => rfl⟩
          · exact ⟨_, at_1, fun _ => rfl⟩
        obtain ⟨y, hC, hy⟩ := hC
        have q1 : ∀ xs : List D, cutD xs none (some (P : Int)) = xs.take P := fun xs => cut_to
        have q2 : ∀ xs : List D, cutD xs (some (P : Int)) none = xs.drop P := fun xs => cut_from
        simp only [ws_asg, ws_sub, ws_expr, ws_ret, ws_retn, ws_iff, ws_for, ws_raise, ws_pass, ws_brk, ws_cnt, ws_aug, we_slot, we_const, we_bin, we_neg, we_cmp, we_chain, we_and, we_or, we_not, we_ite, we_tup, we_lst, we_idx, we_slc, we_comp, we_call, we_bi, we_me, we_isi, we_nil, we_cons, wo_none, wo_some, wt_none, wt_some, wr_val, wr_rng1, wr_rng2, slotQ_val, slotQ_own, negQ_int, notQ_bl, blQ_bl, augQ_int, bc_t, bc_f, dr_d, dr_tmp, dr_brw, brwQ_own, brwQ_val, oq_some, dd_int, dd_str, dd_bl, dd_non, dd_tup, dd_lst, dd_scr, esc_d, esc_tf, esc_tt, escs_nil, escs_cons, drs_nil, drs_cons, asgR_d, asgR_t, asgT_n, outR_d, outR_t, op_add, op_addS, op_addT, op_addL, op_sub, op_mul, op_mulL, op_fdiv, op_mod, op_pow, cm_eq, cm_ne, eq_int, eq_str, eq_bl, eq_non, cm_lt, cm_le, cm_gt, cm_ge, cm_in, cm_notin, cm_is, cm_isnot, ix_lst, ix_scr, ix_tup, ix_str, at_0, at_1, at_2, at_3, sl_tup, sl_lst, sl_scr, bi_lenL, bi_lenR, bi_lenT, bi_lenS, bi_abs, bi_max, bi_min, bi_intI, bi_intB, bi_listL, bi_listT, bi_listR, bi_tupL, bi_tupT, bi_all, bi_any, bi_sum, bi_lenset, bi_repr, au_add, au_sub, ixL0, ixL1, ixL2, esc_b, escQ_f, escQ_t, escQ_v, outR_b, outQ_o, outQ_v, modL_b, modQ_o, vq_tmp, vq_tup, vq_lst, vq_scr, vq_str, vq_b, vQ_o, asgR_b, List.length_map, me_app, me_appB, mt_app, mt_pop0, mt_pop1, mt_ins, mt_clear, mt_rev, mt_join, ws_cell, cellQ_o, cellQ_v, mt_index, mt_count, me_index, me_count, me_join, strLst_i, me_clear, me_rev, me_pop1, me_ins, true_and, isTys, isTy, tyN, Option.map_some, String.reduceBEq, Bool.or_false, Bool.false_or, Bool.or_true, Bool.true_or, Bool.and_false, Bool.and_true, Bool.false_and, Bool.true_and, Bool.not_true, Bool.not_false, List.getElem?_cons_zero, List.getElem?_cons_succ, List.set_cons_zero, List.set_cons_succ, List.map_cons, List.map_nil, List.replicate_succ, List.replicate_zero, List.cons_append, List.nil_append, Nat.sub_self, hC]
        rw [ws_cons]
        simp only [deckD, ws_asg, ws_sub, ws_expr, ws_ret, ws_retn, ws_iff, ws_for, ws_raise, ws_pass, ws_brk, ws_cnt, ws_aug, we_slot, we_const, we_bin, we_neg, we_cmp, we_chain, we_and, we_or, we_not, we_ite, we_tup, we_lst, we_idx, we_slc, we_comp, we_call, we_bi, we_me, we_isi, we_nil, we_cons, wo_none, wo_some, wt_none, wt_some, wr_val, wr_rng1, wr_rng2, slotQ_val, slotQ_own, negQ_int, notQ_bl, blQ_bl, augQ_int, bc_t, bc_f, dr_d, dr_tmp, dr_brw, brwQ_own, brwQ_val, oq_some, dd_int, dd_str, dd_bl, dd_non, dd_tup, dd_lst, dd_scr, esc_d, esc_tf, esc_tt, escs_nil, escs_cons, drs_nil, drs_cons, asgR_d, asgR_t, asgT_n, outR_d, outR_t, op_add, op_addS, op_addT, op_addL, op_sub, op_mul, op_mulL, op_fdiv, op_mod, op_pow, cm_eq, cm_ne, eq_int, eq_str, eq_bl, eq_non, cm_lt, cm_le, cm_gt, cm_ge, cm_in, cm_notin, cm_is, cm_isnot, ix_lst, ix_scr, ix_tup, ix_str, at_0, at_1, at_2, at_3, sl_tup, sl_lst, sl_scr, bi_lenL, bi_lenR, bi_lenT, bi_lenS, bi_abs, bi_max, bi_min, bi_intI, bi_intB, bi_listL, bi_listT, bi_listR, bi_tupL, bi_tupT, bi_all, bi_any, bi_sum, bi_lenset, bi_repr, au_add, au_sub, ixL0, ixL1, ixL2, esc_b, escQ_f, escQ_t, escQ_v, outR_b, outQ_o, outQ_v, modL_b, modQ_o, vq_tmp, vq_tup, vq_lst, vq_scr, vq_str, vq_b, vQ_o, asgR_b, List.length_map, me_app, me_appB, mt_app, mt_pop0, mt_pop1, mt_ins, mt_clear, mt_rev, mt_join, ws_cell, cellQ_o, cellQ_v, mt_index, mt_count, me_index, me_count, me_join, strLst_i, me_clear, me_rev, me_pop1, me_ins, true_and, isTys, isTy, tyN, Option.map_some, String.reduceBEq, Bool.or_false, Bool.false_or, Bool.or_true, Bool.true_or, Bool.and_false, Bool.and_true, Bool.false_and, Bool.true_and, Bool.not_true, Bool.not_false, List.getElem?_cons_zero, List.getElem?_cons_succ, List.set_cons_zero, List.set_cons_succ, List.map_cons, List.map_nil, List.replicate_succ, List.replicate_zero, List.cons_append, List.nil_append, Nat.sub_self, q1, q2, ← List.map_take, ← List.map_drop]
        have hm : deckD (l.take P ++ (n, V) :: l.drop P) = .tup (List.map cardD (l.take P) ++ [D.tup [D.str n, D.int V]] ++ List.map cardD (l.drop P)) := by
          show D.tup (List.map cardD (_ ++ _ :: _)) = _
          rw [List.map_append, List.map_cons, List.append_assoc]
          rfl
        refine ⟨by show 2 ≤ sizeLine; decide, by show 1 ≤ sizeLine; decide, ?_, ?_, ?_⟩
        · simp only [List.length_map, List.length_take, List.length_cons, List.length_nil, sizeLine_eq]; omega
        · simp only [List.length_map, List.length_take, List.length_append, List.length_cons, List.length_nil, List.length_drop, sizeLine_eq]; omega
        · rw [← hm, ws_cons]
          simp only [ws_asg, ws_sub, ws_expr, ws_ret, ws_retn, ws_iff, ws_for, ws_raise, ws_pass, ws_brk, ws_cnt, ws_aug, we_slot, we_const, we_bin, we_neg, we_cmp, we_chain, we_and, we_or, we_not, we_ite, we_tup, we_lst, we_idx, we_slc, we_comp, we_call, we_bi, we_me, we_isi, we_nil, we_cons, wo_none, wo_some, wt_none, wt_some, wr_val, wr_rng1, wr_rng2, slotQ_val, slotQ_own, negQ_int, notQ_bl, blQ_bl, augQ_int, bc_t, bc_f, dr_d, dr_tmp, dr_brw, brwQ_own, brwQ_val, oq_some, dd_int, dd_str, dd_bl, dd_non, dd_tup, dd_lst, dd_scr, esc_d, esc_tf, esc_tt, escs_nil, escs_cons, drs_nil, drs_cons, asgR_d, asgR_t, asgT_n, outR_d, outR_t, op_add, op_addS, op_addT, op_addL, op_sub, op_mul, op_mulL, op_fdiv, op_mod, op_pow, cm_eq, cm_ne, eq_int, eq_str, eq_bl, eq_non, cm_lt, cm_le, cm_gt, cm_ge, cm_in, cm_notin, cm_is, cm_isnot, ix_lst, ix_scr, ix_tup, ix_str, at_0, at_1, at_2, at_3, sl_tup, sl_lst, sl_scr, bi_lenL, bi_lenR, bi_lenT, bi_lenS, bi_abs, bi_max, bi_min, bi_intI, bi_intB, bi_listL, bi_listT, bi_listR, bi_tupL, bi_tupT, bi_all, bi_any, bi_sum, bi_lenset, bi_repr, au_add, au_sub, ixL0, ixL1, ixL2, esc_b, escQ_f, escQ_t, escQ_v, outR_b, outQ_o, outQ_v, modL_b, modQ_o, vq_tmp, vq_tup, vq_lst, vq_scr, vq_str, vq_b, vQ_o, asgR_b, List.length_map, me_app, me_appB, mt_app, mt_pop0, mt_pop1, mt_ins, mt_clear, mt_rev, mt_join, ws_cell, cellQ_o, cellQ_v, mt_index, mt_count, me_index, me_count, me_join, strLst_i, me_clear, me_rev, me_pop1, me_ins, true_and, isTys, isTy, tyN, Option.map_some, String.reduceBEq, Bool.or_false, Bool.false_or, Bool.or_true, Bool.true_or, Bool.and_false, Bool.and_true, Bool.false_and, Bool.true_and, Bool.not_true, Bool.not_false, List.getElem?_cons_zero, List.getElem?_cons_succ, List.set_cons_zero, List.set_cons_succ, List.map_cons, List.map_nil, List.replicate_succ, List.replicate_zero, List.cons_append, List.nil_append, Nat.sub_self]
          refine ⟨⟨by decide, by decide⟩, for_ind (fun xs env st => st = st8 ∧ ∃ z17, env = [.val sc, .val (.ref 0), .val tn, .val (deckD l), .val h, .val (.str p.shown), .val (.int V), .val (.str n), .val (.int (P : Nat)), .val (.int (at' : Nat)), .val (.str cd.1), z11, z12, z13, z14, .val y, .val (deckD (l.take P ++ (n, V) :: l.drop P)), z17]) ?_ ?_ _ _ _ ⟨rfl, _, rfl⟩⟩
          · rintro env st ⟨rfl, z17, rfl⟩
            refine ⟨trivial, ?_⟩
            simp only [ws_nil]
            exact tailOk _ (c + 8) _ _ _ _ _ _ _ z5 _ (s8.mono (by omega)) (by omega) v8
          · rintro x xs ih env st ⟨rfl, z17, rfl⟩
            refine ⟨trivial, ?_⟩
            simp only [ws_cons, ws_nil, ws_asg, ws_sub, ws_expr, ws_ret, ws_retn, ws_iff, ws_for, ws_raise, ws_pass, ws_brk, ws_cnt, ws_aug, we_slot, we_const, we_bin, we_neg, we_cmp, we_chain, we_and, we_or, we_not, we_ite, we_tup, we_lst, we_idx, we_slc, we_comp, we_call, we_bi, we_me, we_isi, we_nil, we_cons, wo_none, wo_some, wt_none, wt_some, wr_val, wr_rng1, wr_rng2, slotQ_val, slotQ_own, negQ_int, notQ_bl, blQ_bl, augQ_int, bc_t, bc_f, dr_d, dr_tmp, dr_brw, brwQ_own, brwQ_val, oq_some, dd_int, dd_str, dd_bl, dd_non, dd_tup, dd_lst, dd_scr, esc_d, esc_tf, esc_tt, escs_nil, escs_cons, drs_nil, drs_cons, asgR_d, asgR_t, asgT_n, outR_d, outR_t, op_add, op_addS, op_addT, op_addL, op_sub, op_mul, op_mulL, op_fdiv, op_mod, op_pow, cm_eq, cm_ne, eq_int, eq_str, eq_bl, eq_non, cm_lt, cm_le, cm_gt, cm_ge, cm_in, cm_notin, cm_is, cm_isnot, ix_lst, ix_scr, ix_tup, ix_str, at_0, at_1, at_2, at_3, sl_tup, sl_lst, sl_scr, bi_lenL, bi_lenR, bi_lenT, bi_lenS, bi_abs, bi_max, bi_min, bi_intI, bi_intB, bi_listL, bi_listT, bi_listR, bi_tupL, bi_tupT, bi_all, bi_any, bi_sum, bi_lenset, bi_repr, au_add, au_sub, ixL0, ixL1, ixL2, esc_b, escQ_f, escQ_t, escQ_v, outR_b, outQ_o, outQ_v, modL_b, modQ_o, vq_tmp, vq_tup, vq_lst, vq_scr, vq_str, vq_b, vQ_o, asgR_b, List.length_map, me_app, me_appB, mt_app, mt_pop0, mt_pop1, mt_ins, mt_clear, mt_rev, mt_join, ws_cell, cellQ_o, cellQ_v, mt_index, mt_count, me_index, me_count, me_join, strLst_i, me_clear, me_rev, me_pop1, me_ins, true_and, isTys, isTy, tyN, Option.map_some, String.reduceBEq, Bool.or_false, Bool.false_or, Bool.or_true, Bool.true_or, Bool.and_false, Bool.and_true, Bool.false_and, Bool.true_and, Bool.not_true, Bool.not_false, List.getElem?_cons_zero, List.getElem?_cons_succ, List.set_cons_zero, List.set_cons_succ, List.map_cons, List.map_nil, List.replicate_succ, List.replicate_zero, List.cons_append, List.nil_append, Nat.sub_self]
            refine laid_ok progT rfl (by omega) v8.deckR hl (hy _) nm V0 hnew P1 hlt ?_
            simp only [ws_cons, ws_nil, ws_asg, ws_sub, ws_expr, ws_ret, ws_retn, ws_iff, ws_for, ws_raise, ws_pass, ws_brk, ws_cnt, ws_aug, we_slot, we_const, we_bin, we_neg, we_cmp, we_chain, we_and, we_or, we_not, we_ite, we_tup, we_lst, we_idx, we_slc, we_comp, we_call, we_bi, we_me, we_isi, we_nil, we_cons, wo_none, wo_some, wt_none, wt_some, wr_val, wr_rng1, wr_rng2, slotQ_val, slotQ_own, negQ_int, notQ_bl, blQ_bl, augQ_int, bc_t, bc_f, dr_d, dr_tmp, dr_brw, brwQ_own, brwQ_val, oq_some, dd_int, dd_str, dd_bl, dd_non, dd_tup, dd_lst, dd_scr, esc_d, esc_tf, esc_tt, escs_nil, escs_cons, drs_nil, drs_cons, asgR_d, asgR_t, asgT_n, outR_d, outR_t, op_add, op_addS, op_addT, op_addL, op_sub, op_mul, op_mulL, op_fdiv, op_mod, op_pow, cm_eq, cm_ne, eq_int, eq_str, eq_bl, eq_non, cm_lt, cm_le, cm_gt, cm_ge, cm_in, cm_notin, cm_is, cm_isnot, ix_lst, ix_scr, ix_tup, ix_str, at_0, at_1, at_2, at_3, sl_tup, sl_lst, sl_scr, bi_lenL, bi_lenR, bi_lenT, bi_lenS, bi_abs, bi_max, bi_min, bi_intI, bi_intB, bi_listL, bi_listT, bi_listR, bi_tupL, bi_tupT, bi_all, bi_any, bi_sum, bi_lenset, bi_repr, au_add, au_sub, ixL0, ixL1, ixL2, esc_b, escQ_f, escQ_t, escQ_v, outR_b, outQ_o, outQ_v, modL_b, modQ_o, vq_tmp, vq_tup, vq_lst, vq_scr, vq_str, vq_b, vQ_o, asgR_b, List.length_map, me_app, me_appB, mt_app, mt_pop0, mt_pop1, mt_ins, mt_clear, mt_rev, mt_join, ws_cell, cellQ_o, cellQ_v, mt_index, mt_count, me_index, me_count, me_join, strLst_i, me_clear, me_rev, me_pop1, me_ins, true_and, isTys, isTy, tyN, Option.map_some, String.reduceBEq, Bool.or_false, Bool.false_or, Bool.or_true, Bool.true_or, Bool.and_false, Bool.and_true, Bool.false_and, Bool.true_and, Bool.not_true, Bool.not_false, List.getElem?_cons_zero, List.getElem?_cons_succ, List.set_cons_zero, List.set_cons_succ, List.map_cons, List.map_nil, List.replicate_succ, List.replicate_zero, List.cons_append, List.nil_append, Nat.sub_self]
            refine same_ok lawT (plain_deck _ (by simp; omega)) (by omega) ?_
            simp only [ws_cons, ws_nil, ws_asg, ws_sub, ws_expr, ws_ret, ws_retn, ws_iff, ws_for, ws_raise, ws_pass, ws_brk, ws_cnt, ws_aug, we_slot, we_const, we_bin, we_neg, we_cmp, we_chain, we_and, we_or, we_not, we_ite, we_tup, we_lst, we_idx, we_slc, we_comp, we_call, we_bi, we_me, we_isi, we_nil, we_cons, wo_none, wo_some, wt_none, wt_some, wr_val, wr_rng1, wr_rng2, slotQ_val, slotQ_own, negQ_int, notQ_bl, blQ_bl, augQ_int, bc_t, bc_f, dr_d, dr_tmp, dr_brw, brwQ_own, brwQ_val, oq_some, dd_int, dd_str, dd_bl, dd_non, dd_tup, dd_lst, dd_scr, esc_d, esc_tf, esc_tt, escs_nil, escs_cons, drs_nil, drs_cons, asgR_d, asgR_t, asgT_n, outR_d, outR_t, op_add, op_addS, op_addT, op_addL, op_sub, op_mul, op_mulL, op_fdiv, op_mod, op_pow, cm_eq, cm_ne, eq_int, eq_str, eq_bl, eq_non, cm_lt, cm_le, cm_gt, cm_ge, cm_in, cm_notin, cm_is, cm_isnot, ix_lst, ix_scr, ix_tup, ix_str, at_0, at_1, at_2, at_3, sl_tup, sl_lst, sl_scr, bi_lenL, bi_lenR, bi_lenT, bi_lenS, bi_abs, bi_max, bi_min, bi_intI, bi_intB, bi_listL, bi_listT, bi_listR, bi_tupL, bi_tupT, bi_all, bi_any, bi_sum, bi_lenset, bi_repr, au_add, au_sub, ixL0, ixL1, ixL2, esc_b, escQ_f, escQ_t, escQ_v, outR_b, outQ_o, outQ_v, modL_b, modQ_o, vq_tmp, vq_tup, vq_lst, vq_scr, vq_str, vq_b, vQ_o, asgR_b, List.length_map, me_app, me_appB, mt_app, mt_pop0, mt_pop1, mt_ins, mt_clear, mt_rev, mt_join, ws_cell, cellQ_o, cellQ_v, mt_index, mt_count, me_index, me_count, me_join, strLst_i, me_clear, me_rev, me_pop1, me_ins, true_and, isTys, isTy, tyN, Option.map_some, String.reduceBEq, Bool.or_false, Bool.false_or, Bool.or_true, Bool.true_or, Bool.and_false, Bool.and_true, Bool.false_and, Bool.true_and, Bool.not_true, Bool.not_false, List.getElem?_cons_zero, List.getElem?_cons_succ, List.set_cons_zero, List.set_cons_succ, List.map_cons, List.map_nil, List.replicate_succ, List.replicate_zero, List.cons_append, List.nil_append, Nat.sub_self]
            exact ih _ _ ⟨rfl, _, rfl⟩
  · rw [ws_nil]
    exact tailOk _ (c + 7) _ _ _ _ _ _ _ z5 _ (s7.mono (by omega)) (by omega) v7
theorem turn_ok {k : Nat} (hk : 9 ≤ k) {X : QX} {Dn : Ends} {st : PSto} {c : Nat} {sc tn : D} {z3 z4 z5 z6 z7 z8 z9 z10 z11 z12 z13 z14 z15 z16 z17 : Sl} (s : Spr c 0 st) (hc : c + 1000 < 2 ^ 60)
    (nx : ∀ z3 z4 z5 z6 z7 z8 z9 z10 z11 z12 z13 z14 z15 z16 z17 st', Spr (c + 900) 0 st' → Dn.nx [.val sc, .val (.ref 0), .val tn, z3, z4, z5, z6, z7, z8, z9, z10, z11, z12, z13, z14, z15, z16, z17] st') :
    wpSs TT (wpC TT k) lawBody X Dn [.val sc, .val (.ref 0), .val tn, z3, z4, z5, z6, z7, z8, z9, z10, z11, z12, z13, z14, z15, z16, z17] st := by
  simp only [lawBody, d_law]
  rw [ws_cons]
  simp only [ws_asg, ws_sub, ws_expr, ws_ret, ws_retn, ws_iff, ws_for, ws_raise, ws_pass, ws_brk, ws_cnt, ws_aug, we_slot, we_const, we_bin, we_neg, we_cmp, we_chain, we_and, we_or, we_not, we_ite, we_tup, we_lst, we_idx, we_slc, we_comp, we_call, we_bi, we_me, we_isi, we_nil, we_cons, wo_none, wo_some, wt_none, wt_some, wr_val, wr_rng1, wr_rng2, slotQ_val, slotQ_own, negQ_int, notQ_bl, blQ_bl, augQ_int, bc_t, bc_f, dr_d, dr_tmp, dr_brw, brwQ_own, brwQ_val, oq_some, dd_int, dd_str, dd_bl, dd_non, dd_tup, dd_lst, dd_scr, esc_d, esc_tf, esc_tt, escs_nil, escs_cons, drs_nil, drs_cons, asgR_d, asgR_t, asgT_n, outR_d, outR_t, op_add, op_addS, op_addT, op_addL, op_sub, op_mul, op_mulL, op_fdiv, op_mod, op_pow, cm_eq, cm_ne, eq_int, eq_str, eq_bl, eq_non, cm_lt, cm_le, cm_gt, cm_ge, cm_in, cm_notin, cm_is, cm_isnot, ix_lst, ix_scr, ix_tup, ix_str, at_0, at_1, at_2, at_3, sl_tup, sl_lst, sl_scr, bi_lenL, bi_lenR, bi_lenT, bi_lenS, bi_abs, bi_max, bi_min, bi_intI, bi_intB, bi_listL, bi_listT, bi_listR, bi_tupL, bi_tupT, bi_all, bi_any, bi_sum, bi_lenset, bi_repr, au_add, au_sub, ixL0, ixL1, ixL2, esc_b, escQ_f, escQ_t, escQ_v, outR_b, outQ_o, outQ_v, modL_b, modQ_o, vq_tmp, vq_tup, vq_lst, vq_scr, vq_str, vq_b, vQ_o, asgR_b, List.length_map, me_app, me_appB, mt_app, mt_pop0, mt_pop1, mt_ins, mt_clear, mt_rev, mt_join, ws_cell, cellQ_o, cellQ_v, mt_index, mt_count, me_index, me_count, me_join, strLst_i, me_clear, me_rev, me_pop1, me_ins, true_and, isTys, isTy, tyN, Option.map_some, String.reduceBEq, Bool.or_false, Bool.false_or, Bool.or_true, Bool.true_or, Bool.and_false, Bool.and_true, Bool.false_and, Bool.true_and, Bool.not_true, Bool.not_false, List.getElem?_cons_zero, List.getElem?_cons_succ, List.set_cons_zero, List.set_cons_succ, List.map_cons, List.map_nil, List.replicate_succ, List.replicate_zero, List.cons_append, List.nil_append, Nat.sub_self]
  refine deck_draw lawT.draw lawT.names lawT.deck (by omega) (most := 40) s (by omega) (by decide) (by decide) fun l cell hl _ s1 => ?_
  have l40 := hl.l40
  simp only [ws_asg, ws_sub, ws_expr, ws_ret, ws_retn, ws_iff, ws_for, ws_raise, ws_pass, ws_brk, ws_cnt, ws_aug, we_slot, we_const, we_bin, we_neg, we_cmp, we_chain, we_and, we_or, we_not, we_ite, we_tup, we_lst, we_idx, we_slc, we_comp, we_call, we_bi, we_me, we_isi, we_nil, we_cons, wo_none, wo_some, wt_none, wt_some, wr_val, wr_rng1, wr_rng2, slotQ_val, slotQ_own, negQ_int, notQ_bl, blQ_bl, augQ_int, bc_t, bc_f, dr_d, dr_tmp, dr_brw, brwQ_own, brwQ_val, oq_some, dd_int, dd_str, dd_bl, dd_non, dd_tup, dd_lst, dd_scr, esc_d, esc_tf, esc_tt, escs_nil, escs_cons, drs_nil, drs_cons, asgR_d, asgR_t, asgT_n, outR_d, outR_t, op_add, op_addS, op_addT, op_addL, op_sub, op_mul, op_mulL, op_fdiv, op_mod, op_pow, cm_eq, cm_ne, eq_int, eq_str, eq_bl, eq_non, cm_lt, cm_le, cm_gt, cm_ge, cm_in, cm_notin, cm_is, cm_isnot, ix_lst, ix_scr, ix_tup, ix_str, at_0, at_1, at_2, at_3, sl_tup, sl_lst, sl_scr, bi_lenL, bi_lenR, bi_lenT, bi_lenS, bi_abs, bi_max, bi_min, bi_intI, bi_intB, bi_listL, bi_listT, bi_listR, bi_tupL, bi_tupT, bi_all, bi_any, bi_sum, bi_lenset, bi_repr, au_add, au_sub, ixL0, ixL1, ixL2, esc_b, escQ_f, escQ_t, escQ_v, outR_b, outQ_o, outQ_v, modL_b, modQ_o, vq_tmp, vq_tup, vq_lst, vq_scr, vq_str, vq_b, vQ_o, asgR_b, List.length_map, me_app, me_appB, mt_app, mt_pop0, mt_pop1, mt_ins, mt_clear, mt_rev, mt_join, ws_cell, cellQ_o, cellQ_v, mt_index, mt_count, me_index, me_count, me_join, strLst_i, me_clear, me_rev, me_pop1, me_ins, true_and, isTys, isTy, tyN, Option.map_some, String.reduceBEq, Bool.or_false, Bool.false_or, Bool.or_true, Bool.true_or, Bool.and_false, Bool.and_true, Bool.false_and, Bool.true_and, Bool.not_true, Bool.not_false, List.getElem?_cons_zero, List.getElem?_cons_succ, List.set_cons_zero, List.set_cons_succ, List.map_cons, List.map_nil, List.replicate_succ, List.replicate_zero, List.cons_append, List.nil_append, Nat.sub_self]
  rw [ws_cons]
  simp only [ws_asg, ws_sub, ws_expr, ws_ret, ws_retn, ws_iff, ws_for, ws_raise, ws_pass, ws_brk, ws_cnt, ws_aug, we_slot, we_const, we_bin, we_neg, we_cmp, we_chain, we_and, we_or, we_not, we_ite, we_tup, we_lst, we_idx, we_slc, we_comp, we_call, we_bi, we_me, we_isi, we_nil, we_cons, wo_none, wo_some, wt_none, wt_some, wr_val, wr_rng1, wr_rng2, slotQ_val, slotQ_own, negQ_int, notQ_bl, blQ_bl, augQ_int, bc_t, bc_f, dr_d, dr_tmp, dr_brw, brwQ_own, brwQ_val, oq_some, dd_int, dd_str, dd_bl, dd_non, dd_tup, dd_lst, dd_scr, esc_d, esc_tf, esc_tt, escs_nil, escs_cons, drs_nil, drs_cons, asgR_d, asgR_t, asgT_n, outR_d, outR_t, op_add, op_addS, op_addT, op_addL, op_sub, op_mul, op_mulL, op_fdiv, op_mod, op_pow, cm_eq, cm_ne, eq_int, eq_str, eq_bl, eq_non, cm_lt, cm_le, cm_gt, cm_ge, cm_in, cm_notin, cm_is, cm_isnot, ix_lst, ix_scr, ix_tup, ix_str, at_0, at_1, at_2, at_3, sl_tup, sl_lst, sl_scr, bi_lenL, bi_lenR, bi_lenT, bi_lenS, bi_abs, bi_max, bi_min, bi_intI, bi_intB, bi_listL, bi_listT, bi_listR, bi_tupL, bi_tupT, bi_all, bi_any, bi_sum, bi_lenset, bi_repr, au_add, au_sub, ixL0, ixL1, ixL2, esc_b, escQ_f, escQ_t, escQ_v, outR_b, outQ_o, outQ_v, modL_b, modQ_o, vq_tmp, vq_tup, vq_lst, vq_scr, vq_str, vq_b, vQ_o, asgR_b, List.length_map, me_app, me_appB, mt_app, mt_pop0, mt_pop1, mt_ins, mt_clear, mt_rev, mt_join, ws_cell, cellQ_o, cellQ_v, mt_index, mt_count, me_index, me_count, me_join, strLst_i, me_clear, me_rev, me_pop1, me_ins, true_and, isTys, isTy, tyN, Option.map_some, String.reduceBEq, Bool.or_false, Bool.false_or, Bool.or_true, Bool.true_or, Bool.and_false, Bool.and_true, Bool.false_and, Bool.true_and, Bool.not_true, Bool.not_false, List.getElem?_cons_zero, List.getElem?_cons_succ, List.set_cons_zero, List.set_cons_succ, List.map_cons, List.map_nil, List.replicate_succ, List.replicate_zero, List.cons_append, List.nil_append, Nat.sub_self]
  refine handed_ok lawT (by omega) s1 (by omega) l40 fun x st2 h1 s2 _ => ?_
  have end' : ∀ z3 z4 z5 z6 z7 z8 z9 z10 z11 z12 z13 z14 z15 z16 z17 st', Spr (c + 700 + 50 + 100) 0 st' → Dn.nx [.val sc, .val (.ref 0), .val tn, z3, z4, z5, z6, z7, z8, z9, z10, z11, z12, z13, z14, z15, z16, z17] st' := fun _ _ _ _ _ _ _ _ _ _ _ _ _ _ _ _ h => nx _ _ _ _ _ _ _ _ _ _ _ _ _ _ _ _ (h.mono (by omega))
  rcases hand_cell s2 h1 with ⟨es, rfl, hv⟩ | ⟨es, rfl, hv⟩
  · simp only [ws_asg, ws_sub, ws_expr, ws_ret, ws_retn, ws_iff, ws_for, ws_raise, ws_pass, ws_brk, ws_cnt, ws_aug, we_slot, we_const, we_bin, we_neg, we_cmp, we_chain, we_and, we_or, we_not, we_ite, we_tup, we_lst, we_idx, we_slc, we_comp, we_call, we_bi, we_me, we_isi, we_nil, we_cons, wo_none, wo_some, wt_none, wt_some, wr_val, wr_rng1, wr_rng2, slotQ_val, slotQ_own, negQ_int, notQ_bl, blQ_bl, augQ_int, bc_t, bc_f, dr_d, dr_tmp, dr_brw, brwQ_own, brwQ_val, oq_some, dd_int, dd_str, dd_bl, dd_non, dd_tup, dd_lst, dd_scr, esc_d, esc_tf, esc_tt, escs_nil, escs_cons, drs_nil, drs_cons, asgR_d, asgR_t, asgT_n, outR_d, outR_t, op_add, op_addS, op_addT, op_addL, op_sub, op_mul, op_mulL, op_fdiv, op_mod, op_pow, cm_eq, cm_ne, eq_int, eq_str, eq_bl, eq_non, cm_lt, cm_le, cm_gt, cm_ge, cm_in, cm_notin, cm_is, cm_isnot, ix_lst, ix_scr, ix_tup, ix_str, at_0, at_1, at_2, at_3, sl_tup, sl_lst, sl_scr, bi_lenL, bi_lenR, bi_lenT, bi_lenS, bi_abs, bi_max, bi_min, bi_intI, bi_intB, bi_listL, bi_listT, bi_listR, bi_tupL, bi_tupT, bi_all, bi_any, bi_sum, bi_lenset, bi_repr, au_add, au_sub, ixL0, ixL1, ixL2, esc_b, escQ_f, escQ_t, escQ_v, outR_b, outQ_o, outQ_v, modL_b, modQ_o, vq_tmp, vq_tup, vq_lst, vq_scr, vq_str, vq_b, vQ_o, asgR_b, List.length_map, me_app, me_appB, mt_app, mt_pop0, mt_pop1, mt_ins, mt_clear, mt_rev, mt_join, ws_cell, cellQ_o, cellQ_v, mt_index, mt_count, me_index, me_count, me_join, strLst_i, me_clear, me_rev, me_pop1, me_ins, true_and, isTys, isTy, tyN, Option.map_some, String.reduceBEq, Bool.or_false, Bool.false_or, Bool.or_true, Bool.true_or, Bool.and_false, Bool.and_true, Bool.false_and, Bool.true_and, Bool.not_true, Bool.not_false, List.getElem?_cons_zero, List.getElem?_cons_succ, List.set_cons_zero, List.set_cons_succ, List.map_cons, List.map_nil, List.replicate_succ, List.replicate_zero, List.cons_append, List.nil_append, Nat.sub_self]
    rw [ws_cons]
    simp only [ws_asg, ws_sub, ws_expr, ws_ret, ws_retn, ws_iff, ws_for, ws_raise, ws_pass, ws_brk, ws_cnt, ws_aug, we_slot, we_const, we_bin, we_neg, we_cmp, we_chain, we_and, we_or, we_not, we_ite, we_tup, we_lst, we_idx, we_slc, we_comp, we_call, we_bi, we_me, we_isi, we_nil, we_cons, wo_none, wo_some, wt_none, wt_some, wr_val, wr_rng1, wr_rng2, slotQ_val, slotQ_own, negQ_int, notQ_bl, blQ_bl, augQ_int, bc_t, bc_f, dr_d, dr_tmp, dr_brw, brwQ_own, brwQ_val, oq_some, dd_int, dd_str, dd_bl, dd_non, dd_tup, dd_lst, dd_scr, esc_d, esc_tf, esc_tt, escs_nil, escs_cons, drs_nil, drs_cons, asgR_d, asgR_t, asgT_n, outR_d, outR_t, op_add, op_addS, op_addT, op_addL, op_sub, op_mul, op_mulL, op_fdiv, op_mod, op_pow, cm_eq, cm_ne, eq_int, eq_str, eq_bl, eq_non, cm_lt, cm_le, cm_gt, cm_ge, cm_in, cm_notin, cm_is, cm_isnot, ix_lst, ix_scr, ix_tup, ix_str, at_0, at_1, at_2, at_3, sl_tup, sl_lst, sl_scr, bi_lenL, bi_lenR, bi_lenT, bi_lenS, bi_abs, bi_max, bi_min, bi_intI, bi_intB, bi_listL, bi_listT, bi_listR, bi_tupL, bi_tupT, bi_all, bi_any, bi_sum, bi_lenset, bi_repr, au_add, au_sub, ixL0, ixL1, ixL2, esc_b, escQ_f, escQ_t, escQ_v, outR_b, outQ_o, outQ_v, modL_b, modQ_o, vq_tmp, vq_tup, vq_lst, vq_scr, vq_str, vq_b, vQ_o, asgR_b, List.length_map, me_app, me_appB, mt_app, mt_pop0, mt_pop1, mt_ins, mt_clear, mt_rev, mt_join, ws_cell, cellQ_o, cellQ_v, mt_index, mt_count, me_index, me_count, me_join, strLst_i, me_clear, me_rev, me_pop1, me_ins, true_and, isTys, isTy, tyN, Option.map_some, String.reduceBEq, Bool.or_false, Bool.false_or, Bool.or_true, Bool.true_or, Bool.and_false, Bool.and_true, Bool.false_and, Bool.true_and, Bool.not_true, Bool.not_false, List.getElem?_cons_zero, List.getElem?_cons_succ, List.set_cons_zero, List.set_cons_succ, List.map_cons, List.map_nil, List.replicate_succ, List.replicate_zero, List.cons_append, List.nil_append, Nat.sub_self]
    exact turn_b hk s2 (by omega) hl hv end'
  · simp only [ws_asg, ws_sub, ws_expr, ws_ret, ws_retn, ws_iff, ws_for, ws_raise, ws_pass, ws_brk, ws_cnt, ws_aug, we_slot, we_const, we_bin, we_neg, we_cmp, we_chain, we_and, we_or, we_not, we_ite, we_tup, we_lst, we_idx, we_slc, we_comp, we_call, we_bi, we_me, we_isi, we_nil, we_cons, wo_none, wo_some, wt_none, wt_some, wr_val, wr_rng1, wr_rng2, slotQ_val, slotQ_own, negQ_int, notQ_bl, blQ_bl, augQ_int, bc_t, bc_f, dr_d, dr_tmp, dr_brw, brwQ_own, brwQ_val, oq_some, dd_int, dd_str, dd_bl, dd_non, dd_tup, dd_lst, dd_scr, esc_d, esc_tf, esc_tt, escs_nil, escs_cons, drs_nil, drs_cons, asgR_d, asgR_t, asgT_n, outR_d, outR_t, op_add, op_addS, op_addT, op_addL, op_sub, op_mul, op_mulL, op_fdiv, op_mod, op_pow, cm_eq, cm_ne, eq_int, eq_str, eq_bl, eq_non, cm_lt, cm_le, cm_gt, cm_ge, cm_in, cm_notin, cm_is, cm_isnot, ix_lst, ix_scr, ix_tup, ix_str, at_0, at_1, at_2, at_3, sl_tup, sl_lst, sl_scr, bi_lenL, bi_lenR, bi_lenT, bi_lenS, bi_abs, bi_max, bi_min, bi_intI, bi_intB, bi_listL, bi_listT, bi_listR, bi_tupL, bi_tupT, bi_all, bi_any, bi_sum, bi_lenset, bi_repr, au_add, au_sub, ixL0, ixL1, ixL2, esc_b, escQ_f, escQ_t, escQ_v, outR_b, outQ_o, outQ_v, modL_b, modQ_o, vq_tmp, vq_tup, vq_lst, vq_scr, vq_str, vq_b, vQ_o, asgR_b, List.length_map, me_app, me_appB, mt_app, mt_pop0, mt_pop1, mt_ins, mt_clear, mt_rev, mt_join, ws_cell, cellQ_o, cellQ_v, mt_index, mt_count, me_index, me_count, me_join, strLst_i, me_clear, me_rev, me_pop1, me_ins, true_and, isTys, isTy, tyN, Option.map_some, String.reduceBEq, Bool.or_false, Bool.false_or, Bool.or_true, Bool.true_or, Bool.and_false, Bool.and_true, Bool.false_and, Bool.true_and, Bool.not_true, Bool.not_false, List.getElem?_cons_zero, List.getElem?_cons_succ, List.set_cons_zero, List.set_cons_succ, List.map_cons, List.map_nil, List.replicate_succ, List.replicate_zero, List.cons_append, List.nil_append, Nat.sub_self]
    rw [ws_cons]
    simp only [ws_asg, ws_sub, ws_expr, ws_ret, ws_retn, ws_iff, ws_for, ws_raise, ws_pass, ws_brk, ws_cnt, ws_aug, we_slot, we_const, we_bin, we_neg, we_cmp, we_chain, we_and, we_or, we_not, we_ite, we_tup, we_lst, we_idx, we_slc, we_comp, we_call, we_bi, we_me, we_isi, we_nil, we_cons, wo_none, wo_some, wt_none, wt_some, wr_val, wr_rng1, wr_rng2, slotQ_val, slotQ_own, negQ_int, notQ_bl, blQ_bl, augQ_int, bc_t, bc_f, dr_d, dr_tmp, dr_brw, brwQ_own, brwQ_val, oq_some, dd_int, dd_str, dd_bl, dd_non, dd_tup, dd_lst, dd_scr, esc_d, esc_tf, esc_tt, escs_nil, escs_cons, drs_nil, drs_cons, asgR_d, asgR_t, asgT_n, outR_d, outR_t, op_add, op_addS, op_addT, op_addL, op_sub, op_mul, op_mulL, op_fdiv, op_mod, op_pow, cm_eq, cm_ne, eq_int, eq_str, eq_bl, eq_non, cm_lt, cm_le, cm_gt, cm_ge, cm_in, cm_notin, cm_is, cm_isnot, ix_lst, ix_scr, ix_tup, ix_str, at_0, at_1, at_2, at_3, sl_tup, sl_lst, sl_scr, bi_lenL, bi_lenR, bi_lenT, bi_lenS, bi_abs, bi_max, bi_min, bi_intI, bi_intB, bi_listL, bi_listT, bi_listR, bi_tupL, bi_tupT, bi_all, bi_any, bi_sum, bi_lenset, bi_repr, au_add, au_sub, ixL0, ixL1, ixL2, esc_b, escQ_f, escQ_t, escQ_v, outR_b, outQ_o, outQ_v, modL_b, modQ_o, vq_tmp, vq_tup, vq_lst, vq_scr, vq_str, vq_b, vQ_o, asgR_b, List.length_map, me_app, me_appB, mt_app, mt_pop0, mt_pop1, mt_ins, mt_clear, mt_rev, mt_join, ws_cell, cellQ_o, cellQ_v, mt_index, mt_count, me_index, me_count, me_join, strLst_i, me_clear, me_rev, me_pop1, me_ins, true_and, isTys, isTy, tyN, Option.map_some, String.reduceBEq, Bool.or_false, Bool.false_or, Bool.or_true, Bool.true_or, Bool.and_false, Bool.and_true, Bool.false_and, Bool.true_and, Bool.not_true, Bool.not_false, List.getElem?_cons_zero, List.getElem?_cons_succ, List.set_cons_zero, List.set_cons_succ, List.map_cons, List.map_nil, List.replicate_succ, List.replicate_zero, List.cons_append, List.nil_append, Nat.sub_self]
    exact turn_b hk s2.app (by omega) hl hv end'
theorem wp_law : ∀ ns : List Int, ns.length ≤ 63 → wpC TT 40 "law" [.scr (ns.map D.int)] [] (fun v _ => v = .d (.bl true)) fun _ _ => False := by
  intro ns hn
  refine wpC_of rfl rfl ?_
  simp only [d_law, ws_cons, ws_nil, ws_asg, ws_sub, ws_expr, ws_ret, ws_retn, ws_iff, ws_for, ws_raise, ws_pass, ws_brk, ws_cnt, ws_aug, we_slot, we_const, we_bin, we_neg, we_cmp, we_chain, we_and, we_or, we_not, we_ite, we_tup, we_lst, we_idx, we_slc, we_comp, we_call, we_bi, we_me, we_isi, we_nil, we_cons, wo_none, wo_some, wt_none, wt_some, wr_val, wr_rng1, wr_rng2, slotQ_val, slotQ_own, negQ_int, notQ_bl, blQ_bl, augQ_int, bc_t, bc_f, dr_d, dr_tmp, dr_brw, brwQ_own, brwQ_val, oq_some, dd_int, dd_str, dd_bl, dd_non, dd_tup, dd_lst, dd_scr, esc_d, esc_tf, esc_tt, escs_nil, escs_cons, drs_nil, drs_cons, asgR_d, asgR_t, asgT_n, outR_d, outR_t, op_add, op_addS, op_addT, op_addL, op_sub, op_mul, op_mulL, op_fdiv, op_mod, op_pow, cm_eq, cm_ne, eq_int, eq_str, eq_bl, eq_non, cm_lt, cm_le, cm_gt, cm_ge, cm_in, cm_notin, cm_is, cm_isnot, ix_lst, ix_scr, ix_tup, ix_str, at_0, at_1, at_2, at_3, sl_tup, sl_lst, sl_scr, bi_lenL, bi_lenR, bi_lenT, bi_lenS, bi_abs, bi_max, bi_min, bi_intI, bi_intB, bi_listL, bi_listT, bi_listR, bi_tupL, bi_tupT, bi_all, bi_any, bi_sum, bi_lenset, bi_repr, au_add, au_sub, ixL0, ixL1, ixL2, esc_b, escQ_f, escQ_t, escQ_v, outR_b, outQ_o, outQ_v, modL_b, modQ_o, vq_tmp, vq_tup, vq_lst, vq_scr, vq_str, vq_b, vQ_o, asgR_b, List.length_map, me_app, me_appB, mt_app, mt_pop0, mt_pop1, mt_ins, mt_clear, mt_rev, mt_join, ws_cell, cellQ_o, cellQ_v, mt_index, mt_count, me_index, me_count, me_join, strLst_i, me_clear, me_rev, me_pop1, me_ins, true_and, isTys, isTy, tyN, Option.map_some, String.reduceBEq, Bool.or_false, Bool.false_or, Bool.or_true, Bool.true_or, Bool.and_false, Bool.and_true, Bool.false_and, Bool.true_and, Bool.not_true, Bool.not_false, List.getElem?_cons_zero, List.getElem?_cons_succ, List.set_cons_zero, List.set_cons_succ, List.map_cons, List.map_nil, List.replicate_succ, List.replicate_zero, List.cons_append, List.nil_append, Nat.sub_self]
  refine spring_ok rfl (by decide) fun F S f0 s0 s1 => ?_
  simp only [ws_cons, ws_nil, ws_asg, ws_sub, ws_expr, ws_ret, ws_retn, ws_iff, ws_for, ws_raise, ws_pass, ws_brk, ws_cnt, ws_aug, we_slot, we_const, we_bin, we_neg, we_cmp, we_chain, we_and, we_or, we_not, we_ite, we_tup, we_lst, we_idx, we_slc, we_comp, we_call, we_bi, we_me, we_isi, we_nil, we_cons, wo_none, wo_some, wt_none, wt_some, wr_val, wr_rng1, wr_rng2, slotQ_val, slotQ_own, negQ_int, notQ_bl, blQ_bl, augQ_int, bc_t, bc_f, dr_d, dr_tmp, dr_brw, brwQ_own, brwQ_val, oq_some, dd_int, dd_str, dd_bl, dd_non, dd_tup, dd_lst, dd_scr, esc_d, esc_tf, esc_tt, escs_nil, escs_cons, drs_nil, drs_cons, asgR_d, asgR_t, asgT_n, outR_d, outR_t, op_add, op_addS, op_addT, op_addL, op_sub, op_mul, op_mulL, op_fdiv, op_mod, op_pow, cm_eq, cm_ne, eq_int, eq_str, eq_bl, eq_non, cm_lt, cm_le, cm_gt, cm_ge, cm_in, cm_notin, cm_is, cm_isnot, ix_lst, ix_scr, ix_tup, ix_str, at_0, at_1, at_2, at_3, sl_tup, sl_lst, sl_scr, bi_lenL, bi_lenR, bi_lenT, bi_lenS, bi_abs, bi_max, bi_min, bi_intI, bi_intB, bi_listL, bi_listT, bi_listR, bi_tupL, bi_tupT, bi_all, bi_any, bi_sum, bi_lenset, bi_repr, au_add, au_sub, ixL0, ixL1, ixL2, esc_b, escQ_f, escQ_t, escQ_v, outR_b, outQ_o, outQ_v, modL_b, modQ_o, vq_tmp, vq_tup, vq_lst, vq_scr, vq_str, vq_b, vQ_o, asgR_b, List.length_map, me_app, me_appB, mt_app, mt_pop0, mt_pop1, mt_ins, mt_clear, mt_rev, mt_join, ws_cell, cellQ_o, cellQ_v, mt_index, mt_count, me_index, me_count, me_join, strLst_i, me_clear, me_rev, me_pop1, me_ins, true_and, isTys, isTy, tyN, Option.map_some, String.reduceBEq, Bool.or_false, Bool.false_or, Bool.or_true, Bool.true_or, Bool.and_false, Bool.and_true, Bool.false_and, Bool.true_and, Bool.not_true, Bool.not_false, List.getElem?_cons_zero, List.getElem?_cons_succ, List.set_cons_zero, List.set_cons_succ, List.map_cons, List.map_nil, List.replicate_succ, List.replicate_zero, List.cons_append, List.nil_append, Nat.sub_self, List.length_nil]
  obtain ⟨m, hm, m10⟩ : ∃ m : Nat, 2 + min ((ns.length : Nat) : Int) 8 = m ∧ m ≤ 10 := ⟨(2 + min ((ns.length : Nat) : Int) 8).toNat, by omega, by omega⟩
  rw [hm]
  refine ⟨⟨by omega, by omega⟩, ?_⟩
  refine for_ind (fun xs env st' => ∃ z2 z3 z4 z5 z6 z7 z8 z9 z10 z11 z12 z13 z14 z15 z16 z17, xs.length ≤ 10 ∧ env = [.val (.scr (ns.map D.int)), .val (.ref 0), z2, z3, z4, z5, z6, z7, z8, z9, z10, z11, z12, z13, z14, z15, z16, z17] ∧ Spr (1000 * (10 - xs.length)) 0 st') ?_ ?_ _ _ _ ?_
  · rintro env st' ⟨z2, z3, z4, z5, z6, z7, z8, z9, z10, z11, z12, z13, z14, z15, z16, z17, hl, rfl, s⟩
    refine ⟨trivial, ?_⟩
    simp only [ws_cons, ws_nil, ws_asg, ws_sub, ws_expr, ws_ret, ws_retn, ws_iff, ws_for, ws_raise, ws_pass, ws_brk, ws_cnt, ws_aug, we_slot, we_const, we_bin, we_neg, we_cmp, we_chain, we_and, we_or, we_not, we_ite, we_tup, we_lst, we_idx, we_slc, we_comp, we_call, we_bi, we_me, we_isi, we_nil, we_cons, wo_none, wo_some, wt_none, wt_some, wr_val, wr_rng1, wr_rng2, slotQ_val, slotQ_own, negQ_int, notQ_bl, blQ_bl, augQ_int, bc_t, bc_f, dr_d, dr_tmp, dr_brw, brwQ_own, brwQ_val, oq_some, dd_int, dd_str, dd_bl, dd_non, dd_tup, dd_lst, dd_scr, esc_d, esc_tf, esc_tt, escs_nil, escs_cons, drs_nil, drs_cons, asgR_d, asgR_t, asgT_n, outR_d, outR_t, op_add, op_addS, op_addT, op_addL, op_sub, op_mul, op_mulL, op_fdiv, op_mod, op_pow, cm_eq, cm_ne, eq_int, eq_str, eq_bl, eq_non, cm_lt, cm_le, cm_gt, cm_ge, cm_in, cm_notin, cm_is, cm_isnot, ix_lst, ix_scr, ix_tup, ix_str, at_0, at_1, at_2, at_3, sl_tup, sl_lst, sl_scr, bi_lenL, bi_lenR, bi_lenT, bi_lenS, bi_abs, bi_max, bi_min, bi_intI, bi_intB, bi_listL, bi_listT, bi_listR, bi_tupL, bi_tupT, bi_all, bi_any, bi_sum, bi_lenset, bi_repr, au_add, au_sub, ixL0, ixL1, ixL2, esc_b, escQ_f, escQ_t, escQ_v, outR_b, outQ_o, outQ_v, modL_b, modQ_o, vq_tmp, vq_tup, vq_lst, vq_scr, vq_str, vq_b, vQ_o, asgR_b, List.length_map, me_app, me_appB, mt_app, mt_pop0, mt_pop1, mt_ins, mt_clear, mt_rev, mt_join, ws_cell, cellQ_o, cellQ_v, mt_index, mt_count, me_index, me_count, me_join, strLst_i, me_clear, me_rev, me_pop1, me_ins, true_and, isTys, isTy, tyN, Option.map_some, String.reduceBEq, Bool.or_false, Bool.false_or, Bool.or_true, Bool.true_or, Bool.and_false, Bool.and_true, Bool.false_and, Bool.true_and, Bool.not_true, Bool.not_false, List.getElem?_cons_zero, List.getElem?_cons_succ, List.set_cons_zero, List.set_cons_succ, List.map_cons, List.map_nil, List.replicate_succ, List.replicate_zero, List.cons_append, List.nil_append, Nat.sub_self]
  · rintro x xs ih env st' ⟨z2, z3, z4, z5, z6, z7, z8, z9, z10, z11, z12, z13, z14, z15, z16, z17, hl, rfl, s⟩
    rw [List.length_cons] at hl s
    refine ⟨trivial, ?_⟩
    rw [asgT_n]
    simp only [List.set_cons_succ, List.set_cons_zero]
    exact turn_ok (by decide) s (by omega) fun _ _ _ _ _ _ _ _ _ _ _ _ _ _ _ st' s3 => ih _ _ ⟨_, _, _, _, _, _, _, _, _, _, _, _, _, _, _, _, by omega, rfl, s3.mono (by omega)⟩
  · exact ⟨_, _, _, _, _, _, _, _, _, _, _, _, _, _, _, _, by simp [rngL]; omega, rfl, F, S, 0, rfl, f0, s0, s1, by decide, by omega⟩
end LW
open PySem PySem.W PyProof.Rows
set_option maxHeartbeats 0 in
theorem PySem.Challenge.cw_slideback_k04_decks_told_otherwise_holds : PySem.Challenge.rw_slideback_k04_decks_told_otherwise.Holds := by
  w_on; o_law; k_head; (case hw => w_witness2)
  k_fill
  refine PI.pi_walk (l := PySem.Challenge.rw_slideback_k04_decks_told_otherwise) (n := 63) (k := 40) (x := "script") (T := LW.TT) (c := LW.cc) (defs := LW.defs) (r := LW.r_law) rfl (by decide) rfl ⟨rfl, by decide, by decide⟩ (fun w h Y => PySem.W.kIn_of Y) (by simp [LW.defs]) rfl rfl ?pimod LW.wp_law
  case pimod =>
    intro w
    refine ⟨rfl, LW.st_ok, ⟨?d0, ?d1, ?d2, ?d3, ?d4, ?d5, ?d6, ?d7, ?d8, ?d9, ?d10, ?d11, ?d12, ?d13, ?d14, ?d15, ?d16, trivial⟩, ⟨?b0, ?b1, ?b2, ?b3, ?b4, ?b5, ?b6, ?b7, ?b8, ?b9, ?b10, ?b11, ?b12, ?b13, trivial⟩, ⟨?c0, ?c1, ?c2, trivial⟩, ⟨?e0, ?e1, ?e2, ?e3, ?e4, ?e5, ?e6, ?e7, trivial⟩⟩
    case d0 => show PI.DefK _ (Str.ofString "is_whole") (LW.topS 14); refine' PI.DefK.mk' ?dn0 ?dl0 ?dc0 ?dk0; (case dn0 => k_is); (case dl0 => k_is); (case dc0 => k_is); (case dk0 => k_is)
    case d1 => show PI.DefK _ (Str.ofString "is_row") (LW.topS 15); refine' PI.DefK.mk' ?dn1 ?dl1 ?dc1 ?dk1; (case dn1 => k_is); (case dl1 => k_is); (case dc1 => k_is); (case dk1 => k_is)
    case d2 => show PI.DefK _ (Str.ofString "is_name") (LW.topS 16); refine' PI.DefK.mk' ?dn2 ?dl2 ?dc2 ?dk2; (case dn2 => k_is); (case dl2 => k_is); (case dc2 => k_is); (case dk2 => k_is)
    case d3 => show PI.DefK _ (Str.ofString "is_card") (LW.topS 17); refine' PI.DefK.mk' ?dn3 ?dl3 ?dc3 ?dk3; (case dn3 => k_is); (case dl3 => k_is); (case dc3 => k_is); (case dk3 => k_is)
    case d4 => show PI.DefK _ (Str.ofString "deck_of") (LW.topS 18); refine' PI.DefK.mk' ?dn4 ?dl4 ?dc4 ?dk4; (case dn4 => k_is); (case dl4 => k_is); (case dc4 => k_is); (case dk4 => k_is)
    case d5 => show PI.DefK _ (Str.ofString "spot_of") (LW.topS 19); refine' PI.DefK.mk' ?dn5 ?dl5 ?dc5 ?dk5; (case dn5 => k_is); (case dl5 => k_is); (case dc5 => k_is); (case dk5 => k_is)
    case d6 => show PI.DefK _ (Str.ofString "laid") (LW.topS 20); refine' PI.DefK.mk' ?dn6 ?dl6 ?dc6 ?dk6; (case dn6 => k_is); (case dl6 => k_is); (case dc6 => k_is); (case dk6 => k_is)
    case d7 => show PI.DefK _ (Str.ofString "drawn") (LW.topS 21); refine' PI.DefK.mk' ?dn7 ?dl7 ?dc7 ?dk7; (case dn7 => k_is); (case dl7 => k_is); (case dc7 => k_is); (case dk7 => k_is)
    case d8 => show PI.DefK _ (Str.ofString "deepened") (LW.topS 22); refine' PI.DefK.mk' ?dn8 ?dl8 ?dc8 ?dk8; (case dn8 => k_is); (case dl8 => k_is); (case dc8 => k_is); (case dk8 => k_is)
    case d9 => show PI.DefK _ (Str.ofString "_law_spring") (LW.topS 24); refine' PI.DefK.mk' ?dn9 ?dl9 ?dc9 ?dk9; (case dn9 => k_is); (case dl9 => k_is); (case dc9 => k_is); (case dk9 => k_is)
    case d10 => show PI.DefK _ (Str.ofString "_law_draw") (LW.topS 25); refine' PI.DefK.mk' ?dn10 ?dl10 ?dc10 ?dk10; (case dn10 => k_is); (case dl10 => k_is); (case dc10 => k_is); (case dk10 => k_is)
    case d11 => show PI.DefK _ (Str.ofString "_law_names") (LW.topS 26); refine' PI.DefK.mk' ?dn11 ?dl11 ?dc11 ?dk11; (case dn11 => k_is); (case dl11 => k_is); (case dc11 => k_is); (case dk11 => k_is)
    case d12 => show PI.DefK _ (Str.ofString "_law_deck") (LW.topS 27); refine' PI.DefK.mk' ?dn12 ?dl12 ?dc12 ?dk12; (case dn12 => k_is); (case dl12 => k_is); (case dc12 => k_is); (case dk12 => k_is)
    case d13 => show PI.DefK _ (Str.ofString "_law_lists") (LW.topS 28); refine' PI.DefK.mk' ?dn13 ?dl13 ?dc13 ?dk13; (case dn13 => k_is); (case dl13 => k_is); (case dc13 => k_is); (case dk13 => k_is)
    case d14 => show PI.DefK _ (Str.ofString "_law_handed") (LW.topS 29); refine' PI.DefK.mk' ?dn14 ?dl14 ?dc14 ?dk14; (case dn14 => k_is); (case dl14 => k_is); (case dc14 => k_is); (case dk14 => k_is)
    case d15 => show PI.DefK _ (Str.ofString "_law_same") (LW.topS 30); refine' PI.DefK.mk' ?dn15 ?dl15 ?dc15 ?dk15; (case dn15 => k_is); (case dl15 => k_is); (case dc15 => k_is); (case dk15 => k_is)
    case d16 => show PI.DefK _ (Str.ofString "law") (LW.topS 31); refine' PI.DefK.mk' ?dn16 ?dl16 ?dc16 ?dk16; (case dn16 => k_is); (case dl16 => k_is); (case dc16 => k_is); (case dk16 => k_is)
    case b0 => show nsIn _ mainGlobals (Str.ofString "isinstance") = _; k_is
    case b1 => show nsIn _ mainGlobals (Str.ofString "bool") = _; k_is
    case b2 => show nsIn _ mainGlobals (Str.ofString "int") = _; k_is
    case b3 => show nsIn _ mainGlobals (Str.ofString "len") = _; k_is
    case b4 => show nsIn _ mainGlobals (Str.ofString "list") = _; k_is
    case b5 => show nsIn _ mainGlobals (Str.ofString "tuple") = _; k_is
    case b6 => show nsIn _ mainGlobals (Str.ofString "all") = _; k_is
    case b7 => show nsIn _ mainGlobals (Str.ofString "str") = _; k_is
    case b8 => show nsIn _ mainGlobals (Str.ofString "set") = _; k_is
    case b9 => show nsIn _ mainGlobals (Str.ofString "abs") = _; k_is
    case b10 => show nsIn _ mainGlobals (Str.ofString "range") = _; k_is
    case b11 => show nsIn _ mainGlobals (Str.ofString "max") = _; k_is
    case b12 => show nsIn _ mainGlobals (Str.ofString "min") = _; k_is
    case b13 => show nsIn _ mainGlobals (Str.ofString "repr") = _; k_is
    case c0 => show PI.ConK _ (Str.ofString "LETTERS") (.str (Str.ofString "abcdefghijklmnopqrstuvwxyz")); refine' PI.ConK.str ?cn0; (case cn0 => k_is)
    case c1 => show PI.ConK _ (Str.ofString "MOST_LETTERS") (.int 8); refine' PI.ConK.int ?cn1; (case cn1 => k_is)
    case c2 => show PI.ConK _ (Str.ofString "MOST_CARDS") (.int 40); refine' PI.ConK.int ?cn2; (case cn2 => k_is)
    case e0 => refine' PI.ExcF.mk' ?ea0 ?eb0 ?ec0 ?ed0 ?ee0; (case ea0 => k_is); (case eb0 => k_exc); (case ec0 => k_is); (case ed0 => k_is); (case ee0 => k_is)
    case e1 => refine' PI.ExcF.mk' ?ea1 ?eb1 ?ec1 ?ed1 ?ee1; (case ea1 => k_is); (case eb1 => k_exc); (case ec1 => k_is); (case ed1 => k_is); (case ee1 => k_is)
    case e2 => refine' PI.ExcF.mk' ?ea2 ?eb2 ?ec2 ?ed2 ?ee2; (case ea2 => k_is); (case eb2 => k_exc); (case ec2 => k_is); (case ed2 => k_is); (case ee2 => k_is)
    case e3 => refine' PI.ExcF.mk' ?ea3 ?eb3 ?ec3 ?ed3 ?ee3; (case ea3 => k_is); (case eb3 => k_exc); (case ec3 => k_is); (case ed3 => k_is); (case ee3 => k_is)
    case e4 => refine' PI.ExcF.mk' ?ea4 ?eb4 ?ec4 ?ed4 ?ee4; (case ea4 => k_is); (case eb4 => k_exc); (case ec4 => k_is); (case ed4 => k_is); (case ee4 => k_is)
    case e5 => refine' PI.ExcF.mk' ?ea5 ?eb5 ?ec5 ?ed5 ?ee5; (case ea5 => k_is); (case eb5 => k_exc); (case ec5 => k_is); (case ed5 => k_is); (case ee5 => k_is)
    case e6 => refine' PI.ExcF.mk' ?ea6 ?eb6 ?ec6 ?ed6 ?ee6; (case ea6 => k_is); (case eb6 => k_exc); (case ec6 => k_is); (case ed6 => k_is); (case ee6 => k_is)
    case e7 => refine' PI.ExcF.mk' ?ea7 ?eb7 ?ec7 ?ed7 ?ee7; (case ea7 => k_is); (case eb7 => k_exc); (case ec7 => k_is); (case ed7 => k_is); (case ee7 => k_is)
